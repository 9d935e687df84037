import Derived.Test.YtpfhleghgkeemaaGreatDoorH9
import Derived.Test.YtpfhleghgkeemaaGreatDoorX16
namespace Go.Proofs.YtpfhleghgkeemaaGreatDoor
open Go Go.Sx
set_option linter.unusedSimpArgs false

/-- Is a value right among so many objects? -/
def rightB (v : V) (m : Int) : Bool :=
  if v.k = 0 then decide (v.n = 0) && decide (v.s = [])
  else if v.k = 1 then decide (v.s = [])
  else if v.k = 2 then decide (v.s = []) && (decide (v.n = 0) || decide (v.n = 1))
  else if v.k = 3 then decide (v.n = 0) && plainB v.s
  else if v.k = 4 then decide (v.s = []) && decide (0 ≤ v.n) && decide (v.n < m)
  else false

theorem Check_spec (v : V) (m : Int) (hl : v.s.length ≤ 1048576) : Does Tryz.prog 27 [valV v, .int .i64 m] [] (fun u hp' => u = .int .i64 (if rightB v m then 0 else 2) ∧ hp' = []) := by
  obtain ⟨k, n, s⟩ := v
  unfold valV
  dsimp only at hl ⊢
  by_cases k0 : k = 0
  · subst k0
    by_cases hn : n = 0
    · subst hn
      cases s with
      | nil =>
        refine fn_enter Tryz.func27 rfl 74 rfl fun w0 h0 => ?_
        refine wpc_seq ?_
        refine wpc_region [0, 1] (by kernel_rfl) ?_
        refine wpr_new (l₂ := [1]) true [0] [] (fun g1 => [(2, .pointer (some ⟨g1, 0, none⟩)), (1, .int .i64 m)]) (fun g1 => [.blk g1 28 [.int .i64 0, .int .i64 0, .string (mkS [])]]) (fun g1 => []) (fun g1 => by kernel_rfl) (fun g1 => by kernel_rfl) (fun g1 => trivial) fun g1 => ?_
        refine wpr_run (l₂ := []) true [1] [] [(4, .int .i64 0), (2, .pointer (some ⟨g1, 0, none⟩)), (1, .int .i64 m)] [.blk g1 28 [.int .i64 0, .int .i64 0, .string (mkS [])]] [] (by kernel_rfl) (by kernel_rfl) trivial ?_
        refine wpr_nil (nx_then (wpc_seq ?_))
        refine wpc_region [0] (by kernel_rfl) ?_
        refine wpr_run (l₂ := []) true [0] [] [(5, .bool false), (4, .int .i64 0), (2, .pointer (some ⟨g1, 0, none⟩)), (1, .int .i64 m)] [.blk g1 28 [.int .i64 0, .int .i64 0, .string (mkS [])]] [] (by kernel_rfl) (by kernel_rfl) trivial ?_
        refine wpr_nil (nx_then (wpc_seq (wpc_seq ?_)))
        refine wpc_region [0, 1] (by kernel_rfl) ?_
        refine wpr_run (l₂ := []) true [0, 1] [0] [(9, .int .i64 0), (5, .bool false), (4, .int .i64 0), (2, .pointer (some ⟨g1, 0, none⟩)), (1, .int .i64 m)] [.blk g1 28 [.int .i64 0, .int .i64 0, .string (mkS [])]] [] (by kernel_rfl) (by kernel_rfl) trivial ?_
        refine wpr_nil (nx_then ?_)
        refine wpc_block ?_
        refine wpc_seq ?_
        refine wpc_region [0, 1] (by kernel_rfl) ?_
        refine wpr_run (l₂ := []) true [0, 1] [] [(10, .bool true), (9, .int .i64 0), (5, .bool false), (4, .int .i64 0), (2, .pointer (some ⟨g1, 0, none⟩)), (1, .int .i64 m)] [.blk g1 28 [.int .i64 0, .int .i64 0, .string (mkS [])]] [] (by kernel_rfl) (by kernel_rfl) trivial ?_
        refine wpr_nil (nx_then ?_)
        refine wpc_true (by kernel_rfl) ?_
        refine wpc_region [0, 1, 2, 3, 4, 5, 6, 7, 8] (by kernel_rfl) ?_
        refine wpr_run (l₂ := []) true [0, 1, 2, 3, 4, 5, 6, 7, 8] [0, 0] [(5, .bool true), (4, .int .i64 0)] [.blk g1 28 [.int .i64 0, .int .i64 0, .string (mkS [])]] [] (by kernel_rfl) (by kernel_rfl) trivial ?_
        refine wpr_nil (nx_block (nx_then (wpc_seq (wpc_seq ?_))))
        refine wpc_region [0, 1] (by kernel_rfl) ?_
        refine wpr_run (l₂ := []) true [0, 1] [] [(73, .bool false), (4, .int .i64 0)] [.blk g1 28 [.int .i64 0, .int .i64 0, .string (mkS [])]] [] (by kernel_rfl) (by kernel_rfl) trivial ?_
        refine wpr_nil (nx_then ?_)
        refine wpc_false (by kernel_rfl) ?_
        refine wpc_skip ?_
        refine nx_then (wpc_seq ?_)
        refine wpc_region [0] (by kernel_rfl) ?_
        refine wpr_run (l₂ := []) true [0] [] [(4, .int .i64 0)] [.blk g1 28 [.int .i64 0, .int .i64 0, .string (mkS [])]] [] (by kernel_rfl) (by kernel_rfl) trivial ?_
        refine wpr_nil (nx_then ?_)
        refine wpc_ret ?_
        refine nx_end (hp' := []) (rest := [.blk g1 28 [.int .i64 0, .int .i64 0, .string (mkS [])]]) [] ((.int .i64 0)) (by kernel_rfl) (by kernel_rfl) (give [] (by kernel_rfl)) (by first | ((repeat (first | exact trivial | refine ⟨trivial, ?_⟩)); done) | assumption) ?_ (.inr rfl)
        exact ⟨by simp [rightB, *], rfl⟩
      | cons c r =>
        refine fn_enter Tryz.func27 rfl 74 rfl fun w0 h0 => ?_
        refine wpc_seq ?_
        refine wpc_region [0, 1] (by kernel_rfl) ?_
        refine wpr_new (l₂ := [1]) true [0] [] (fun g1 => [(2, .pointer (some ⟨g1, 0, none⟩)), (1, .int .i64 m)]) (fun g1 => [.blk g1 28 [.int .i64 0, .int .i64 0, .string (mkS (c :: r))]]) (fun g1 => []) (fun g1 => by kernel_rfl) (fun g1 => by kernel_rfl) (fun g1 => trivial) fun g1 => ?_
        refine wpr_run (l₂ := []) true [1] [] [(4, .int .i64 0), (2, .pointer (some ⟨g1, 0, none⟩)), (1, .int .i64 m)] [.blk g1 28 [.int .i64 0, .int .i64 0, .string (mkS (c :: r))]] [] (by kernel_rfl) (by kernel_rfl) trivial ?_
        refine wpr_nil (nx_then (wpc_seq ?_))
        refine wpc_region [0] (by kernel_rfl) ?_
        refine wpr_run (l₂ := []) true [0] [] [(5, .bool false), (4, .int .i64 0), (2, .pointer (some ⟨g1, 0, none⟩)), (1, .int .i64 m)] [.blk g1 28 [.int .i64 0, .int .i64 0, .string (mkS (c :: r))]] [] (by kernel_rfl) (by kernel_rfl) trivial ?_
        refine wpr_nil (nx_then (wpc_seq (wpc_seq ?_)))
        refine wpc_region [0, 1] (by kernel_rfl) ?_
        refine wpr_run (l₂ := []) true [0, 1] [0] [(9, .int .i64 0), (5, .bool false), (4, .int .i64 0), (2, .pointer (some ⟨g1, 0, none⟩)), (1, .int .i64 m)] [.blk g1 28 [.int .i64 0, .int .i64 0, .string (mkS (c :: r))]] [] (by kernel_rfl) (by kernel_rfl) trivial ?_
        refine wpr_nil (nx_then ?_)
        refine wpc_block ?_
        refine wpc_seq ?_
        refine wpc_region [0, 1] (by kernel_rfl) ?_
        refine wpr_run (l₂ := []) true [0, 1] [] [(10, .bool true), (9, .int .i64 0), (5, .bool false), (4, .int .i64 0), (2, .pointer (some ⟨g1, 0, none⟩)), (1, .int .i64 m)] [.blk g1 28 [.int .i64 0, .int .i64 0, .string (mkS (c :: r))]] [] (by kernel_rfl) (by kernel_rfl) trivial ?_
        refine wpr_nil (nx_then ?_)
        refine wpc_true (by kernel_rfl) ?_
        refine wpc_region [0, 1, 2, 3, 4, 5, 6, 7, 8] (by kernel_rfl) ?_
        refine wpr_run (l₂ := []) true [0, 1, 2, 3, 4, 5, 6, 7, 8] [0, 0] [(5, .bool false), (4, .int .i64 0)] [.blk g1 28 [.int .i64 0, .int .i64 0, .string (mkS (c :: r))]] [] (by kernel_rfl) (by kernel_rfl) trivial ?_
        refine wpr_nil (nx_block (nx_then (wpc_seq (wpc_seq ?_))))
        refine wpc_region [0, 1] (by kernel_rfl) ?_
        refine wpr_run (l₂ := []) true [0, 1] [] [(73, .bool true), (4, .int .i64 0)] [.blk g1 28 [.int .i64 0, .int .i64 0, .string (mkS (c :: r))]] [] (by kernel_rfl) (by kernel_rfl) trivial ?_
        refine wpr_nil (nx_then ?_)
        refine wpc_true (by kernel_rfl) ?_
        refine wpc_seq ?_
        refine wpc_region [0] (by kernel_rfl) ?_
        refine wpr_run (l₂ := []) true [0] [] [(4, .int .i64 2)] [.blk g1 28 [.int .i64 0, .int .i64 0, .string (mkS (c :: r))]] [] (by kernel_rfl) (by kernel_rfl) trivial ?_
        refine wpr_nil (nx_then ?_)
        refine wpc_ret ?_
        refine nx_then_ret ?_
        refine nx_end (hp' := []) (rest := [.blk g1 28 [.int .i64 0, .int .i64 0, .string (mkS (c :: r))]]) [] ((.int .i64 2)) (by kernel_rfl) (by kernel_rfl) (give [] (by kernel_rfl)) (by first | ((repeat (first | exact trivial | refine ⟨trivial, ?_⟩)); done) | assumption) ?_ (.inr rfl)
        exact ⟨by simp [rightB, *], rfl⟩
    · refine fn_enter Tryz.func27 rfl 74 rfl fun w0 h0 => ?_
      refine wpc_seq ?_
      refine wpc_region [0, 1] (by kernel_rfl) ?_
      refine wpr_new (l₂ := [1]) true [0] [] (fun g1 => [(2, .pointer (some ⟨g1, 0, none⟩)), (1, .int .i64 m)]) (fun g1 => [.blk g1 28 [.int .i64 0, .int .i64 n, .string (mkS s)]]) (fun g1 => []) (fun g1 => by kernel_rfl) (fun g1 => by kernel_rfl) (fun g1 => trivial) fun g1 => ?_
      refine wpr_run (l₂ := []) true [1] [] [(4, .int .i64 0), (2, .pointer (some ⟨g1, 0, none⟩)), (1, .int .i64 m)] [.blk g1 28 [.int .i64 0, .int .i64 n, .string (mkS s)]] [] (by kernel_rfl) (by kernel_rfl) trivial ?_
      refine wpr_nil (nx_then (wpc_seq ?_))
      refine wpc_region [0] (by kernel_rfl) ?_
      refine wpr_run (l₂ := []) true [0] [] [(5, .bool false), (4, .int .i64 0), (2, .pointer (some ⟨g1, 0, none⟩)), (1, .int .i64 m)] [.blk g1 28 [.int .i64 0, .int .i64 n, .string (mkS s)]] [] (by kernel_rfl) (by kernel_rfl) trivial ?_
      refine wpr_nil (nx_then (wpc_seq (wpc_seq ?_)))
      refine wpc_region [0, 1] (by kernel_rfl) ?_
      refine wpr_run (l₂ := []) true [0, 1] [0] [(9, .int .i64 0), (5, .bool false), (4, .int .i64 0), (2, .pointer (some ⟨g1, 0, none⟩)), (1, .int .i64 m)] [.blk g1 28 [.int .i64 0, .int .i64 n, .string (mkS s)]] [] (by kernel_rfl) (by kernel_rfl) trivial ?_
      refine wpr_nil (nx_then ?_)
      refine wpc_block ?_
      refine wpc_seq ?_
      refine wpc_region [0, 1] (by kernel_rfl) ?_
      refine wpr_run (l₂ := []) true [0, 1] [] [(10, .bool true), (9, .int .i64 0), (5, .bool false), (4, .int .i64 0), (2, .pointer (some ⟨g1, 0, none⟩)), (1, .int .i64 m)] [.blk g1 28 [.int .i64 0, .int .i64 n, .string (mkS s)]] [] (by kernel_rfl) (by kernel_rfl) trivial ?_
      refine wpr_nil (nx_then ?_)
      refine wpc_true (by kernel_rfl) ?_
      refine wpc_region [0, 1, 2, 3, 4, 5, 6, 7, 8] (by kernel_rfl) ?_
      refine wpr_run (l₂ := [4, 5, 6, 7, 8]) true [0, 1, 2, 3] [0] [(15, .bool (n == 0)), (5, .bool false), (4, .int .i64 0), (2, .pointer (some ⟨g1, 0, none⟩))] [.blk g1 28 [.int .i64 0, .int .i64 n, .string (mkS s)]] [] (by kernel_rfl) (by kernel_rfl) trivial ?_
      refine wpr_ent (ent_set 15 (.bool (n == 0)) (.bool false) (by kernel_rfl) (congrArg _ (by simp only [bne_eq_false_iff_eq, beq_eq_false_iff_ne, ne_eq]; omega))) ?_
      refine wpr_run (l₂ := []) true [4, 5, 6, 7, 8] [] [(5, .bool false), (4, .int .i64 0)] [.blk g1 28 [.int .i64 0, .int .i64 n, .string (mkS s)]] [] (by kernel_rfl) (by kernel_rfl) trivial ?_
      refine wpr_nil (nx_block (nx_then (wpc_seq (wpc_seq ?_))))
      refine wpc_region [0, 1] (by kernel_rfl) ?_
      refine wpr_run (l₂ := []) true [0, 1] [] [(73, .bool true), (4, .int .i64 0)] [.blk g1 28 [.int .i64 0, .int .i64 n, .string (mkS s)]] [] (by kernel_rfl) (by kernel_rfl) trivial ?_
      refine wpr_nil (nx_then ?_)
      refine wpc_true (by kernel_rfl) ?_
      refine wpc_seq ?_
      refine wpc_region [0] (by kernel_rfl) ?_
      refine wpr_run (l₂ := []) true [0] [] [(4, .int .i64 2)] [.blk g1 28 [.int .i64 0, .int .i64 n, .string (mkS s)]] [] (by kernel_rfl) (by kernel_rfl) trivial ?_
      refine wpr_nil (nx_then ?_)
      refine wpc_ret ?_
      refine nx_then_ret ?_
      refine nx_end (hp' := []) (rest := [.blk g1 28 [.int .i64 0, .int .i64 n, .string (mkS s)]]) [] ((.int .i64 2)) (by kernel_rfl) (by kernel_rfl) (give [] (by kernel_rfl)) (by first | ((repeat (first | exact trivial | refine ⟨trivial, ?_⟩)); done) | assumption) ?_ (.inr rfl)
      exact ⟨by simp [rightB, *], rfl⟩
  by_cases k1 : k = 1
  · subst k1
    cases s with
    | nil =>
      refine fn_enter Tryz.func27 rfl 74 rfl fun w0 h0 => ?_
      refine wpc_seq ?_
      refine wpc_region [0, 1] (by kernel_rfl) ?_
      refine wpr_new (l₂ := [1]) true [0] [] (fun g1 => [(2, .pointer (some ⟨g1, 0, none⟩)), (1, .int .i64 m)]) (fun g1 => [.blk g1 28 [.int .i64 1, .int .i64 n, .string (mkS [])]]) (fun g1 => []) (fun g1 => by kernel_rfl) (fun g1 => by kernel_rfl) (fun g1 => trivial) fun g1 => ?_
      refine wpr_run (l₂ := []) true [1] [] [(4, .int .i64 0), (2, .pointer (some ⟨g1, 0, none⟩)), (1, .int .i64 m)] [.blk g1 28 [.int .i64 1, .int .i64 n, .string (mkS [])]] [] (by kernel_rfl) (by kernel_rfl) trivial ?_
      refine wpr_nil (nx_then (wpc_seq ?_))
      refine wpc_region [0] (by kernel_rfl) ?_
      refine wpr_run (l₂ := []) true [0] [] [(5, .bool false), (4, .int .i64 0), (2, .pointer (some ⟨g1, 0, none⟩)), (1, .int .i64 m)] [.blk g1 28 [.int .i64 1, .int .i64 n, .string (mkS [])]] [] (by kernel_rfl) (by kernel_rfl) trivial ?_
      refine wpr_nil (nx_then (wpc_seq (wpc_seq ?_)))
      refine wpc_region [0, 1] (by kernel_rfl) ?_
      refine wpr_run (l₂ := []) true [0, 1] [0] [(9, .int .i64 1), (5, .bool false), (4, .int .i64 0), (2, .pointer (some ⟨g1, 0, none⟩)), (1, .int .i64 m)] [.blk g1 28 [.int .i64 1, .int .i64 n, .string (mkS [])]] [] (by kernel_rfl) (by kernel_rfl) trivial ?_
      refine wpr_nil (nx_then ?_)
      refine wpc_block ?_
      refine wpc_seq ?_
      refine wpc_region [0, 1] (by kernel_rfl) ?_
      refine wpr_run (l₂ := []) true [0, 1] [] [(10, .bool false), (9, .int .i64 1), (5, .bool false), (4, .int .i64 0), (2, .pointer (some ⟨g1, 0, none⟩)), (1, .int .i64 m)] [.blk g1 28 [.int .i64 1, .int .i64 n, .string (mkS [])]] [] (by kernel_rfl) (by kernel_rfl) trivial ?_
      refine wpr_nil (nx_then ?_)
      refine wpc_false (by kernel_rfl) ?_
      refine wpc_seq ?_
      refine wpc_region [0, 1] (by kernel_rfl) ?_
      refine wpr_run (l₂ := []) true [0, 1] [] [(20, .bool true), (9, .int .i64 1), (5, .bool false), (4, .int .i64 0), (2, .pointer (some ⟨g1, 0, none⟩)), (1, .int .i64 m)] [.blk g1 28 [.int .i64 1, .int .i64 n, .string (mkS [])]] [] (by kernel_rfl) (by kernel_rfl) trivial ?_
      refine wpr_nil (nx_then ?_)
      refine wpc_true (by kernel_rfl) ?_
      refine wpc_region [0, 1, 2, 3] (by kernel_rfl) ?_
      refine wpr_run (l₂ := []) true [0, 1, 2, 3] [0] [(5, .bool true), (4, .int .i64 0)] [.blk g1 28 [.int .i64 1, .int .i64 n, .string (mkS [])]] [] (by kernel_rfl) (by kernel_rfl) trivial ?_
      refine wpr_nil (nx_block (nx_then (wpc_seq (wpc_seq ?_))))
      refine wpc_region [0, 1] (by kernel_rfl) ?_
      refine wpr_run (l₂ := []) true [0, 1] [] [(73, .bool false), (4, .int .i64 0)] [.blk g1 28 [.int .i64 1, .int .i64 n, .string (mkS [])]] [] (by kernel_rfl) (by kernel_rfl) trivial ?_
      refine wpr_nil (nx_then ?_)
      refine wpc_false (by kernel_rfl) ?_
      refine wpc_skip ?_
      refine nx_then (wpc_seq ?_)
      refine wpc_region [0] (by kernel_rfl) ?_
      refine wpr_run (l₂ := []) true [0] [] [(4, .int .i64 0)] [.blk g1 28 [.int .i64 1, .int .i64 n, .string (mkS [])]] [] (by kernel_rfl) (by kernel_rfl) trivial ?_
      refine wpr_nil (nx_then ?_)
      refine wpc_ret ?_
      refine nx_end (hp' := []) (rest := [.blk g1 28 [.int .i64 1, .int .i64 n, .string (mkS [])]]) [] ((.int .i64 0)) (by kernel_rfl) (by kernel_rfl) (give [] (by kernel_rfl)) (by first | ((repeat (first | exact trivial | refine ⟨trivial, ?_⟩)); done) | assumption) ?_ (.inr rfl)
      exact ⟨by simp [rightB, *], rfl⟩
    | cons c r =>
      refine fn_enter Tryz.func27 rfl 74 rfl fun w0 h0 => ?_
      refine wpc_seq ?_
      refine wpc_region [0, 1] (by kernel_rfl) ?_
      refine wpr_new (l₂ := [1]) true [0] [] (fun g1 => [(2, .pointer (some ⟨g1, 0, none⟩)), (1, .int .i64 m)]) (fun g1 => [.blk g1 28 [.int .i64 1, .int .i64 n, .string (mkS (c :: r))]]) (fun g1 => []) (fun g1 => by kernel_rfl) (fun g1 => by kernel_rfl) (fun g1 => trivial) fun g1 => ?_
      refine wpr_run (l₂ := []) true [1] [] [(4, .int .i64 0), (2, .pointer (some ⟨g1, 0, none⟩)), (1, .int .i64 m)] [.blk g1 28 [.int .i64 1, .int .i64 n, .string (mkS (c :: r))]] [] (by kernel_rfl) (by kernel_rfl) trivial ?_
      refine wpr_nil (nx_then (wpc_seq ?_))
      refine wpc_region [0] (by kernel_rfl) ?_
      refine wpr_run (l₂ := []) true [0] [] [(5, .bool false), (4, .int .i64 0), (2, .pointer (some ⟨g1, 0, none⟩)), (1, .int .i64 m)] [.blk g1 28 [.int .i64 1, .int .i64 n, .string (mkS (c :: r))]] [] (by kernel_rfl) (by kernel_rfl) trivial ?_
      refine wpr_nil (nx_then (wpc_seq (wpc_seq ?_)))
      refine wpc_region [0, 1] (by kernel_rfl) ?_
      refine wpr_run (l₂ := []) true [0, 1] [0] [(9, .int .i64 1), (5, .bool false), (4, .int .i64 0), (2, .pointer (some ⟨g1, 0, none⟩)), (1, .int .i64 m)] [.blk g1 28 [.int .i64 1, .int .i64 n, .string (mkS (c :: r))]] [] (by kernel_rfl) (by kernel_rfl) trivial ?_
      refine wpr_nil (nx_then ?_)
      refine wpc_block ?_
      refine wpc_seq ?_
      refine wpc_region [0, 1] (by kernel_rfl) ?_
      refine wpr_run (l₂ := []) true [0, 1] [] [(10, .bool false), (9, .int .i64 1), (5, .bool false), (4, .int .i64 0), (2, .pointer (some ⟨g1, 0, none⟩)), (1, .int .i64 m)] [.blk g1 28 [.int .i64 1, .int .i64 n, .string (mkS (c :: r))]] [] (by kernel_rfl) (by kernel_rfl) trivial ?_
      refine wpr_nil (nx_then ?_)
      refine wpc_false (by kernel_rfl) ?_
      refine wpc_seq ?_
      refine wpc_region [0, 1] (by kernel_rfl) ?_
      refine wpr_run (l₂ := []) true [0, 1] [] [(20, .bool true), (9, .int .i64 1), (5, .bool false), (4, .int .i64 0), (2, .pointer (some ⟨g1, 0, none⟩)), (1, .int .i64 m)] [.blk g1 28 [.int .i64 1, .int .i64 n, .string (mkS (c :: r))]] [] (by kernel_rfl) (by kernel_rfl) trivial ?_
      refine wpr_nil (nx_then ?_)
      refine wpc_true (by kernel_rfl) ?_
      refine wpc_region [0, 1, 2, 3] (by kernel_rfl) ?_
      refine wpr_run (l₂ := []) true [0, 1, 2, 3] [0] [(5, .bool false), (4, .int .i64 0)] [.blk g1 28 [.int .i64 1, .int .i64 n, .string (mkS (c :: r))]] [] (by kernel_rfl) (by kernel_rfl) trivial ?_
      refine wpr_nil (nx_block (nx_then (wpc_seq (wpc_seq ?_))))
      refine wpc_region [0, 1] (by kernel_rfl) ?_
      refine wpr_run (l₂ := []) true [0, 1] [] [(73, .bool true), (4, .int .i64 0)] [.blk g1 28 [.int .i64 1, .int .i64 n, .string (mkS (c :: r))]] [] (by kernel_rfl) (by kernel_rfl) trivial ?_
      refine wpr_nil (nx_then ?_)
      refine wpc_true (by kernel_rfl) ?_
      refine wpc_seq ?_
      refine wpc_region [0] (by kernel_rfl) ?_
      refine wpr_run (l₂ := []) true [0] [] [(4, .int .i64 2)] [.blk g1 28 [.int .i64 1, .int .i64 n, .string (mkS (c :: r))]] [] (by kernel_rfl) (by kernel_rfl) trivial ?_
      refine wpr_nil (nx_then ?_)
      refine wpc_ret ?_
      refine nx_then_ret ?_
      refine nx_end (hp' := []) (rest := [.blk g1 28 [.int .i64 1, .int .i64 n, .string (mkS (c :: r))]]) [] ((.int .i64 2)) (by kernel_rfl) (by kernel_rfl) (give [] (by kernel_rfl)) (by first | ((repeat (first | exact trivial | refine ⟨trivial, ?_⟩)); done) | assumption) ?_ (.inr rfl)
      exact ⟨by simp [rightB, *], rfl⟩
  by_cases k2 : k = 2
  · subst k2
    cases s with
    | nil =>
      by_cases hn : n = 0
      · subst hn
        refine fn_enter Tryz.func27 rfl 74 rfl fun w0 h0 => ?_
        refine wpc_seq ?_
        refine wpc_region [0, 1] (by kernel_rfl) ?_
        refine wpr_new (l₂ := [1]) true [0] [] (fun g1 => [(2, .pointer (some ⟨g1, 0, none⟩)), (1, .int .i64 m)]) (fun g1 => [.blk g1 28 [.int .i64 2, .int .i64 0, .string (mkS [])]]) (fun g1 => []) (fun g1 => by kernel_rfl) (fun g1 => by kernel_rfl) (fun g1 => trivial) fun g1 => ?_
        refine wpr_run (l₂ := []) true [1] [] [(4, .int .i64 0), (2, .pointer (some ⟨g1, 0, none⟩)), (1, .int .i64 m)] [.blk g1 28 [.int .i64 2, .int .i64 0, .string (mkS [])]] [] (by kernel_rfl) (by kernel_rfl) trivial ?_
        refine wpr_nil (nx_then (wpc_seq ?_))
        refine wpc_region [0] (by kernel_rfl) ?_
        refine wpr_run (l₂ := []) true [0] [] [(5, .bool false), (4, .int .i64 0), (2, .pointer (some ⟨g1, 0, none⟩)), (1, .int .i64 m)] [.blk g1 28 [.int .i64 2, .int .i64 0, .string (mkS [])]] [] (by kernel_rfl) (by kernel_rfl) trivial ?_
        refine wpr_nil (nx_then (wpc_seq (wpc_seq ?_)))
        refine wpc_region [0, 1] (by kernel_rfl) ?_
        refine wpr_run (l₂ := []) true [0, 1] [0] [(9, .int .i64 2), (5, .bool false), (4, .int .i64 0), (2, .pointer (some ⟨g1, 0, none⟩)), (1, .int .i64 m)] [.blk g1 28 [.int .i64 2, .int .i64 0, .string (mkS [])]] [] (by kernel_rfl) (by kernel_rfl) trivial ?_
        refine wpr_nil (nx_then ?_)
        refine wpc_block ?_
        refine wpc_seq ?_
        refine wpc_region [0, 1] (by kernel_rfl) ?_
        refine wpr_run (l₂ := []) true [0, 1] [] [(10, .bool false), (9, .int .i64 2), (5, .bool false), (4, .int .i64 0), (2, .pointer (some ⟨g1, 0, none⟩)), (1, .int .i64 m)] [.blk g1 28 [.int .i64 2, .int .i64 0, .string (mkS [])]] [] (by kernel_rfl) (by kernel_rfl) trivial ?_
        refine wpr_nil (nx_then ?_)
        refine wpc_false (by kernel_rfl) ?_
        refine wpc_seq ?_
        refine wpc_region [0, 1] (by kernel_rfl) ?_
        refine wpr_run (l₂ := []) true [0, 1] [] [(20, .bool false), (9, .int .i64 2), (5, .bool false), (4, .int .i64 0), (2, .pointer (some ⟨g1, 0, none⟩)), (1, .int .i64 m)] [.blk g1 28 [.int .i64 2, .int .i64 0, .string (mkS [])]] [] (by kernel_rfl) (by kernel_rfl) trivial ?_
        refine wpr_nil (nx_then ?_)
        refine wpc_false (by kernel_rfl) ?_
        refine wpc_seq ?_
        refine wpc_region [0, 1] (by kernel_rfl) ?_
        refine wpr_run (l₂ := []) true [0, 1] [] [(25, .bool true), (9, .int .i64 2), (5, .bool false), (4, .int .i64 0), (2, .pointer (some ⟨g1, 0, none⟩)), (1, .int .i64 m)] [.blk g1 28 [.int .i64 2, .int .i64 0, .string (mkS [])]] [] (by kernel_rfl) (by kernel_rfl) trivial ?_
        refine wpr_nil (nx_then ?_)
        refine wpc_true (by kernel_rfl) ?_
        refine wpc_region [0, 1, 2, 3, 4, 5, 6, 7, 8, 9, 10, 11, 12, 13] (by kernel_rfl) ?_
        refine wpr_run (l₂ := []) true [0, 1, 2, 3, 4, 5, 6, 7, 8, 9, 10, 11, 12, 13] [0, 0] [(5, .bool true), (4, .int .i64 0)] [.blk g1 28 [.int .i64 2, .int .i64 0, .string (mkS [])]] [] (by kernel_rfl) (by kernel_rfl) trivial ?_
        refine wpr_nil (nx_block (nx_then (wpc_seq (wpc_seq ?_))))
        refine wpc_region [0, 1] (by kernel_rfl) ?_
        refine wpr_run (l₂ := []) true [0, 1] [] [(73, .bool false), (4, .int .i64 0)] [.blk g1 28 [.int .i64 2, .int .i64 0, .string (mkS [])]] [] (by kernel_rfl) (by kernel_rfl) trivial ?_
        refine wpr_nil (nx_then ?_)
        refine wpc_false (by kernel_rfl) ?_
        refine wpc_skip ?_
        refine nx_then (wpc_seq ?_)
        refine wpc_region [0] (by kernel_rfl) ?_
        refine wpr_run (l₂ := []) true [0] [] [(4, .int .i64 0)] [.blk g1 28 [.int .i64 2, .int .i64 0, .string (mkS [])]] [] (by kernel_rfl) (by kernel_rfl) trivial ?_
        refine wpr_nil (nx_then ?_)
        refine wpc_ret ?_
        refine nx_end (hp' := []) (rest := [.blk g1 28 [.int .i64 2, .int .i64 0, .string (mkS [])]]) [] ((.int .i64 0)) (by kernel_rfl) (by kernel_rfl) (give [] (by kernel_rfl)) (by first | ((repeat (first | exact trivial | refine ⟨trivial, ?_⟩)); done) | assumption) ?_ (.inr rfl)
        exact ⟨by simp [rightB, *], rfl⟩
      · by_cases hn1 : n = 1
        · subst hn1
          refine fn_enter Tryz.func27 rfl 74 rfl fun w0 h0 => ?_
          refine wpc_seq ?_
          refine wpc_region [0, 1] (by kernel_rfl) ?_
          refine wpr_new (l₂ := [1]) true [0] [] (fun g1 => [(2, .pointer (some ⟨g1, 0, none⟩)), (1, .int .i64 m)]) (fun g1 => [.blk g1 28 [.int .i64 2, .int .i64 1, .string (mkS [])]]) (fun g1 => []) (fun g1 => by kernel_rfl) (fun g1 => by kernel_rfl) (fun g1 => trivial) fun g1 => ?_
          refine wpr_run (l₂ := []) true [1] [] [(4, .int .i64 0), (2, .pointer (some ⟨g1, 0, none⟩)), (1, .int .i64 m)] [.blk g1 28 [.int .i64 2, .int .i64 1, .string (mkS [])]] [] (by kernel_rfl) (by kernel_rfl) trivial ?_
          refine wpr_nil (nx_then (wpc_seq ?_))
          refine wpc_region [0] (by kernel_rfl) ?_
          refine wpr_run (l₂ := []) true [0] [] [(5, .bool false), (4, .int .i64 0), (2, .pointer (some ⟨g1, 0, none⟩)), (1, .int .i64 m)] [.blk g1 28 [.int .i64 2, .int .i64 1, .string (mkS [])]] [] (by kernel_rfl) (by kernel_rfl) trivial ?_
          refine wpr_nil (nx_then (wpc_seq (wpc_seq ?_)))
          refine wpc_region [0, 1] (by kernel_rfl) ?_
          refine wpr_run (l₂ := []) true [0, 1] [0] [(9, .int .i64 2), (5, .bool false), (4, .int .i64 0), (2, .pointer (some ⟨g1, 0, none⟩)), (1, .int .i64 m)] [.blk g1 28 [.int .i64 2, .int .i64 1, .string (mkS [])]] [] (by kernel_rfl) (by kernel_rfl) trivial ?_
          refine wpr_nil (nx_then ?_)
          refine wpc_block ?_
          refine wpc_seq ?_
          refine wpc_region [0, 1] (by kernel_rfl) ?_
          refine wpr_run (l₂ := []) true [0, 1] [] [(10, .bool false), (9, .int .i64 2), (5, .bool false), (4, .int .i64 0), (2, .pointer (some ⟨g1, 0, none⟩)), (1, .int .i64 m)] [.blk g1 28 [.int .i64 2, .int .i64 1, .string (mkS [])]] [] (by kernel_rfl) (by kernel_rfl) trivial ?_
          refine wpr_nil (nx_then ?_)
          refine wpc_false (by kernel_rfl) ?_
          refine wpc_seq ?_
          refine wpc_region [0, 1] (by kernel_rfl) ?_
          refine wpr_run (l₂ := []) true [0, 1] [] [(20, .bool false), (9, .int .i64 2), (5, .bool false), (4, .int .i64 0), (2, .pointer (some ⟨g1, 0, none⟩)), (1, .int .i64 m)] [.blk g1 28 [.int .i64 2, .int .i64 1, .string (mkS [])]] [] (by kernel_rfl) (by kernel_rfl) trivial ?_
          refine wpr_nil (nx_then ?_)
          refine wpc_false (by kernel_rfl) ?_
          refine wpc_seq ?_
          refine wpc_region [0, 1] (by kernel_rfl) ?_
          refine wpr_run (l₂ := []) true [0, 1] [] [(25, .bool true), (9, .int .i64 2), (5, .bool false), (4, .int .i64 0), (2, .pointer (some ⟨g1, 0, none⟩)), (1, .int .i64 m)] [.blk g1 28 [.int .i64 2, .int .i64 1, .string (mkS [])]] [] (by kernel_rfl) (by kernel_rfl) trivial ?_
          refine wpr_nil (nx_then ?_)
          refine wpc_true (by kernel_rfl) ?_
          refine wpc_region [0, 1, 2, 3, 4, 5, 6, 7, 8, 9, 10, 11, 12, 13] (by kernel_rfl) ?_
          refine wpr_run (l₂ := []) true [0, 1, 2, 3, 4, 5, 6, 7, 8, 9, 10, 11, 12, 13] [0, 0, 0] [(5, .bool true), (4, .int .i64 0)] [.blk g1 28 [.int .i64 2, .int .i64 1, .string (mkS [])]] [] (by kernel_rfl) (by kernel_rfl) trivial ?_
          refine wpr_nil (nx_block (nx_then (wpc_seq (wpc_seq ?_))))
          refine wpc_region [0, 1] (by kernel_rfl) ?_
          refine wpr_run (l₂ := []) true [0, 1] [] [(73, .bool false), (4, .int .i64 0)] [.blk g1 28 [.int .i64 2, .int .i64 1, .string (mkS [])]] [] (by kernel_rfl) (by kernel_rfl) trivial ?_
          refine wpr_nil (nx_then ?_)
          refine wpc_false (by kernel_rfl) ?_
          refine wpc_skip ?_
          refine nx_then (wpc_seq ?_)
          refine wpc_region [0] (by kernel_rfl) ?_
          refine wpr_run (l₂ := []) true [0] [] [(4, .int .i64 0)] [.blk g1 28 [.int .i64 2, .int .i64 1, .string (mkS [])]] [] (by kernel_rfl) (by kernel_rfl) trivial ?_
          refine wpr_nil (nx_then ?_)
          refine wpc_ret ?_
          refine nx_end (hp' := []) (rest := [.blk g1 28 [.int .i64 2, .int .i64 1, .string (mkS [])]]) [] ((.int .i64 0)) (by kernel_rfl) (by kernel_rfl) (give [] (by kernel_rfl)) (by first | ((repeat (first | exact trivial | refine ⟨trivial, ?_⟩)); done) | assumption) ?_ (.inr rfl)
          exact ⟨by simp [rightB, *], rfl⟩
        · refine fn_enter Tryz.func27 rfl 74 rfl fun w0 h0 => ?_
          refine wpc_seq ?_
          refine wpc_region [0, 1] (by kernel_rfl) ?_
          refine wpr_new (l₂ := [1]) true [0] [] (fun g1 => [(2, .pointer (some ⟨g1, 0, none⟩)), (1, .int .i64 m)]) (fun g1 => [.blk g1 28 [.int .i64 2, .int .i64 n, .string (mkS [])]]) (fun g1 => []) (fun g1 => by kernel_rfl) (fun g1 => by kernel_rfl) (fun g1 => trivial) fun g1 => ?_
          refine wpr_run (l₂ := []) true [1] [] [(4, .int .i64 0), (2, .pointer (some ⟨g1, 0, none⟩)), (1, .int .i64 m)] [.blk g1 28 [.int .i64 2, .int .i64 n, .string (mkS [])]] [] (by kernel_rfl) (by kernel_rfl) trivial ?_
          refine wpr_nil (nx_then (wpc_seq ?_))
          refine wpc_region [0] (by kernel_rfl) ?_
          refine wpr_run (l₂ := []) true [0] [] [(5, .bool false), (4, .int .i64 0), (2, .pointer (some ⟨g1, 0, none⟩)), (1, .int .i64 m)] [.blk g1 28 [.int .i64 2, .int .i64 n, .string (mkS [])]] [] (by kernel_rfl) (by kernel_rfl) trivial ?_
          refine wpr_nil (nx_then (wpc_seq (wpc_seq ?_)))
          refine wpc_region [0, 1] (by kernel_rfl) ?_
          refine wpr_run (l₂ := []) true [0, 1] [0] [(9, .int .i64 2), (5, .bool false), (4, .int .i64 0), (2, .pointer (some ⟨g1, 0, none⟩)), (1, .int .i64 m)] [.blk g1 28 [.int .i64 2, .int .i64 n, .string (mkS [])]] [] (by kernel_rfl) (by kernel_rfl) trivial ?_
          refine wpr_nil (nx_then ?_)
          refine wpc_block ?_
          refine wpc_seq ?_
          refine wpc_region [0, 1] (by kernel_rfl) ?_
          refine wpr_run (l₂ := []) true [0, 1] [] [(10, .bool false), (9, .int .i64 2), (5, .bool false), (4, .int .i64 0), (2, .pointer (some ⟨g1, 0, none⟩)), (1, .int .i64 m)] [.blk g1 28 [.int .i64 2, .int .i64 n, .string (mkS [])]] [] (by kernel_rfl) (by kernel_rfl) trivial ?_
          refine wpr_nil (nx_then ?_)
          refine wpc_false (by kernel_rfl) ?_
          refine wpc_seq ?_
          refine wpc_region [0, 1] (by kernel_rfl) ?_
          refine wpr_run (l₂ := []) true [0, 1] [] [(20, .bool false), (9, .int .i64 2), (5, .bool false), (4, .int .i64 0), (2, .pointer (some ⟨g1, 0, none⟩)), (1, .int .i64 m)] [.blk g1 28 [.int .i64 2, .int .i64 n, .string (mkS [])]] [] (by kernel_rfl) (by kernel_rfl) trivial ?_
          refine wpr_nil (nx_then ?_)
          refine wpc_false (by kernel_rfl) ?_
          refine wpc_seq ?_
          refine wpc_region [0, 1] (by kernel_rfl) ?_
          refine wpr_run (l₂ := []) true [0, 1] [] [(25, .bool true), (9, .int .i64 2), (5, .bool false), (4, .int .i64 0), (2, .pointer (some ⟨g1, 0, none⟩)), (1, .int .i64 m)] [.blk g1 28 [.int .i64 2, .int .i64 n, .string (mkS [])]] [] (by kernel_rfl) (by kernel_rfl) trivial ?_
          refine wpr_nil (nx_then ?_)
          refine wpc_true (by kernel_rfl) ?_
          refine wpc_region [0, 1, 2, 3, 4, 5, 6, 7, 8, 9, 10, 11, 12, 13] (by kernel_rfl) ?_
          refine wpr_run (l₂ := [8, 9, 10, 11, 12, 13]) true [0, 1, 2, 3, 4, 5, 6, 7] [0, 0] [(34, .bool (n == 0)), (30, .bool true), (5, .bool false), (4, .int .i64 0), (2, .pointer (some ⟨g1, 0, none⟩))] [.blk g1 28 [.int .i64 2, .int .i64 n, .string (mkS [])]] [] (by kernel_rfl) (by kernel_rfl) trivial ?_
          refine wpr_ent (ent_set 34 (.bool (n == 0)) (.bool false) (by kernel_rfl) (congrArg _ (by simp only [bne_eq_false_iff_eq, beq_eq_false_iff_ne, ne_eq]; omega))) ?_
          refine wpr_run (l₂ := []) true [8, 9, 10, 11, 12, 13] [0] [(5, .bool (n == 1)), (4, .int .i64 0)] [.blk g1 28 [.int .i64 2, .int .i64 n, .string (mkS [])]] [] (by kernel_rfl) (by kernel_rfl) trivial ?_
          refine wpr_nil (nx_block (nx_then (wpc_seq (wpc_seq ?_))))
          refine wpc_region [0, 1] (by kernel_rfl) ?_
          refine wpr_run (l₂ := []) true [0, 1] [] [(73, .bool !n == 1), (4, .int .i64 0)] [.blk g1 28 [.int .i64 2, .int .i64 n, .string (mkS [])]] [] (by kernel_rfl) (by kernel_rfl) trivial ?_
          refine wpr_nil (nx_then ?_)
          refine wpc_ent (ent_set 73 (.bool (!n == 1)) (.bool true) (by kernel_rfl) (congrArg _ (by simp; omega))) ?_
          refine wpc_true (by kernel_rfl) ?_
          refine wpc_seq ?_
          refine wpc_region [0] (by kernel_rfl) ?_
          refine wpr_run (l₂ := []) true [0] [] [(4, .int .i64 2)] [.blk g1 28 [.int .i64 2, .int .i64 n, .string (mkS [])]] [] (by kernel_rfl) (by kernel_rfl) trivial ?_
          refine wpr_nil (nx_then ?_)
          refine wpc_ret ?_
          refine nx_then_ret ?_
          refine nx_end (hp' := []) (rest := [.blk g1 28 [.int .i64 2, .int .i64 n, .string (mkS [])]]) [] ((.int .i64 2)) (by kernel_rfl) (by kernel_rfl) (give [] (by kernel_rfl)) (by first | ((repeat (first | exact trivial | refine ⟨trivial, ?_⟩)); done) | assumption) ?_ (.inr rfl)
          exact ⟨by simp [rightB, *], rfl⟩
    | cons c r =>
      refine fn_enter Tryz.func27 rfl 74 rfl fun w0 h0 => ?_
      refine wpc_seq ?_
      refine wpc_region [0, 1] (by kernel_rfl) ?_
      refine wpr_new (l₂ := [1]) true [0] [] (fun g1 => [(2, .pointer (some ⟨g1, 0, none⟩)), (1, .int .i64 m)]) (fun g1 => [.blk g1 28 [.int .i64 2, .int .i64 n, .string (mkS (c :: r))]]) (fun g1 => []) (fun g1 => by kernel_rfl) (fun g1 => by kernel_rfl) (fun g1 => trivial) fun g1 => ?_
      refine wpr_run (l₂ := []) true [1] [] [(4, .int .i64 0), (2, .pointer (some ⟨g1, 0, none⟩)), (1, .int .i64 m)] [.blk g1 28 [.int .i64 2, .int .i64 n, .string (mkS (c :: r))]] [] (by kernel_rfl) (by kernel_rfl) trivial ?_
      refine wpr_nil (nx_then (wpc_seq ?_))
      refine wpc_region [0] (by kernel_rfl) ?_
      refine wpr_run (l₂ := []) true [0] [] [(5, .bool false), (4, .int .i64 0), (2, .pointer (some ⟨g1, 0, none⟩)), (1, .int .i64 m)] [.blk g1 28 [.int .i64 2, .int .i64 n, .string (mkS (c :: r))]] [] (by kernel_rfl) (by kernel_rfl) trivial ?_
      refine wpr_nil (nx_then (wpc_seq (wpc_seq ?_)))
      refine wpc_region [0, 1] (by kernel_rfl) ?_
      refine wpr_run (l₂ := []) true [0, 1] [0] [(9, .int .i64 2), (5, .bool false), (4, .int .i64 0), (2, .pointer (some ⟨g1, 0, none⟩)), (1, .int .i64 m)] [.blk g1 28 [.int .i64 2, .int .i64 n, .string (mkS (c :: r))]] [] (by kernel_rfl) (by kernel_rfl) trivial ?_
      refine wpr_nil (nx_then ?_)
      refine wpc_block ?_
      refine wpc_seq ?_
      refine wpc_region [0, 1] (by kernel_rfl) ?_
      refine wpr_run (l₂ := []) true [0, 1] [] [(10, .bool false), (9, .int .i64 2), (5, .bool false), (4, .int .i64 0), (2, .pointer (some ⟨g1, 0, none⟩)), (1, .int .i64 m)] [.blk g1 28 [.int .i64 2, .int .i64 n, .string (mkS (c :: r))]] [] (by kernel_rfl) (by kernel_rfl) trivial ?_
      refine wpr_nil (nx_then ?_)
      refine wpc_false (by kernel_rfl) ?_
      refine wpc_seq ?_
      refine wpc_region [0, 1] (by kernel_rfl) ?_
      refine wpr_run (l₂ := []) true [0, 1] [] [(20, .bool false), (9, .int .i64 2), (5, .bool false), (4, .int .i64 0), (2, .pointer (some ⟨g1, 0, none⟩)), (1, .int .i64 m)] [.blk g1 28 [.int .i64 2, .int .i64 n, .string (mkS (c :: r))]] [] (by kernel_rfl) (by kernel_rfl) trivial ?_
      refine wpr_nil (nx_then ?_)
      refine wpc_false (by kernel_rfl) ?_
      refine wpc_seq ?_
      refine wpc_region [0, 1] (by kernel_rfl) ?_
      refine wpr_run (l₂ := []) true [0, 1] [] [(25, .bool true), (9, .int .i64 2), (5, .bool false), (4, .int .i64 0), (2, .pointer (some ⟨g1, 0, none⟩)), (1, .int .i64 m)] [.blk g1 28 [.int .i64 2, .int .i64 n, .string (mkS (c :: r))]] [] (by kernel_rfl) (by kernel_rfl) trivial ?_
      refine wpr_nil (nx_then ?_)
      refine wpc_true (by kernel_rfl) ?_
      refine wpc_region [0, 1, 2, 3, 4, 5, 6, 7, 8, 9, 10, 11, 12, 13] (by kernel_rfl) ?_
      refine wpr_run (l₂ := []) true [0, 1, 2, 3, 4, 5, 6, 7, 8, 9, 10, 11, 12, 13] [0] [(5, .bool false), (4, .int .i64 0)] [.blk g1 28 [.int .i64 2, .int .i64 n, .string (mkS (c :: r))]] [] (by kernel_rfl) (by kernel_rfl) trivial ?_
      refine wpr_nil (nx_block (nx_then (wpc_seq (wpc_seq ?_))))
      refine wpc_region [0, 1] (by kernel_rfl) ?_
      refine wpr_run (l₂ := []) true [0, 1] [] [(73, .bool true), (4, .int .i64 0)] [.blk g1 28 [.int .i64 2, .int .i64 n, .string (mkS (c :: r))]] [] (by kernel_rfl) (by kernel_rfl) trivial ?_
      refine wpr_nil (nx_then ?_)
      refine wpc_true (by kernel_rfl) ?_
      refine wpc_seq ?_
      refine wpc_region [0] (by kernel_rfl) ?_
      refine wpr_run (l₂ := []) true [0] [] [(4, .int .i64 2)] [.blk g1 28 [.int .i64 2, .int .i64 n, .string (mkS (c :: r))]] [] (by kernel_rfl) (by kernel_rfl) trivial ?_
      refine wpr_nil (nx_then ?_)
      refine wpc_ret ?_
      refine nx_then_ret ?_
      refine nx_end (hp' := []) (rest := [.blk g1 28 [.int .i64 2, .int .i64 n, .string (mkS (c :: r))]]) [] ((.int .i64 2)) (by kernel_rfl) (by kernel_rfl) (give [] (by kernel_rfl)) (by first | ((repeat (first | exact trivial | refine ⟨trivial, ?_⟩)); done) | assumption) ?_ (.inr rfl)
      exact ⟨by simp [rightB, *], rfl⟩
  by_cases k3 : k = 3
  · subst k3
    by_cases hn : n = 0
    · subst hn
      cases hp : plainB s with
      | true =>
        refine fn_enter Tryz.func27 rfl 74 rfl fun w0 h0 => ?_
        refine wpc_seq ?_
        refine wpc_region [0, 1] (by kernel_rfl) ?_
        refine wpr_new (l₂ := [1]) true [0] [] (fun g1 => [(2, .pointer (some ⟨g1, 0, none⟩)), (1, .int .i64 m)]) (fun g1 => [.blk g1 28 [.int .i64 3, .int .i64 0, .string (mkS s)]]) (fun g1 => []) (fun g1 => by kernel_rfl) (fun g1 => by kernel_rfl) (fun g1 => trivial) fun g1 => ?_
        refine wpr_run (l₂ := []) true [1] [] [(4, .int .i64 0), (2, .pointer (some ⟨g1, 0, none⟩)), (1, .int .i64 m)] [.blk g1 28 [.int .i64 3, .int .i64 0, .string (mkS s)]] [] (by kernel_rfl) (by kernel_rfl) trivial ?_
        refine wpr_nil (nx_then (wpc_seq ?_))
        refine wpc_region [0] (by kernel_rfl) ?_
        refine wpr_run (l₂ := []) true [0] [] [(5, .bool false), (4, .int .i64 0), (2, .pointer (some ⟨g1, 0, none⟩)), (1, .int .i64 m)] [.blk g1 28 [.int .i64 3, .int .i64 0, .string (mkS s)]] [] (by kernel_rfl) (by kernel_rfl) trivial ?_
        refine wpr_nil (nx_then (wpc_seq (wpc_seq ?_)))
        refine wpc_region [0, 1] (by kernel_rfl) ?_
        refine wpr_run (l₂ := []) true [0, 1] [0] [(9, .int .i64 3), (5, .bool false), (4, .int .i64 0), (2, .pointer (some ⟨g1, 0, none⟩)), (1, .int .i64 m)] [.blk g1 28 [.int .i64 3, .int .i64 0, .string (mkS s)]] [] (by kernel_rfl) (by kernel_rfl) trivial ?_
        refine wpr_nil (nx_then ?_)
        refine wpc_block ?_
        refine wpc_seq ?_
        refine wpc_region [0, 1] (by kernel_rfl) ?_
        refine wpr_run (l₂ := []) true [0, 1] [] [(10, .bool false), (9, .int .i64 3), (5, .bool false), (4, .int .i64 0), (2, .pointer (some ⟨g1, 0, none⟩)), (1, .int .i64 m)] [.blk g1 28 [.int .i64 3, .int .i64 0, .string (mkS s)]] [] (by kernel_rfl) (by kernel_rfl) trivial ?_
        refine wpr_nil (nx_then ?_)
        refine wpc_false (by kernel_rfl) ?_
        refine wpc_seq ?_
        refine wpc_region [0, 1] (by kernel_rfl) ?_
        refine wpr_run (l₂ := []) true [0, 1] [] [(20, .bool false), (9, .int .i64 3), (5, .bool false), (4, .int .i64 0), (2, .pointer (some ⟨g1, 0, none⟩)), (1, .int .i64 m)] [.blk g1 28 [.int .i64 3, .int .i64 0, .string (mkS s)]] [] (by kernel_rfl) (by kernel_rfl) trivial ?_
        refine wpr_nil (nx_then ?_)
        refine wpc_false (by kernel_rfl) ?_
        refine wpc_seq ?_
        refine wpc_region [0, 1] (by kernel_rfl) ?_
        refine wpr_run (l₂ := []) true [0, 1] [] [(25, .bool false), (9, .int .i64 3), (5, .bool false), (4, .int .i64 0), (2, .pointer (some ⟨g1, 0, none⟩)), (1, .int .i64 m)] [.blk g1 28 [.int .i64 3, .int .i64 0, .string (mkS s)]] [] (by kernel_rfl) (by kernel_rfl) trivial ?_
        refine wpr_nil (nx_then ?_)
        refine wpc_false (by kernel_rfl) ?_
        refine wpc_seq ?_
        refine wpc_region [0, 1] (by kernel_rfl) ?_
        refine wpr_run (l₂ := []) true [0, 1] [] [(40, .bool true), (9, .int .i64 3), (5, .bool false), (4, .int .i64 0), (2, .pointer (some ⟨g1, 0, none⟩)), (1, .int .i64 m)] [.blk g1 28 [.int .i64 3, .int .i64 0, .string (mkS s)]] [] (by kernel_rfl) (by kernel_rfl) trivial ?_
        refine wpr_nil (nx_then ?_)
        refine wpc_true (by kernel_rfl) ?_
        refine wpc_seq ?_
        refine wpc_region [0, 1, 2, 3, 4, 5, 6, 7, 8] (by kernel_rfl) ?_
        refine wpr_run (l₂ := [3, 4, 5, 6, 7, 8]) true [0, 1, 2] [0] [(45, .agg #[.int .i64 3, .string (mkS s), .int .i64 0, .int .i64 0, .int .i64 0]), (5, .bool false), (4, .int .i64 0), (2, .pointer (some ⟨g1, 0, none⟩))] [.blk g1 28 [.int .i64 3, .int .i64 0, .string (mkS s)]] [] (by kernel_rfl) (by kernel_rfl) trivial ?_
        refine wpr_call (dst := some 46) (rest := [.blk g1 28 [.int .i64 3, .int .i64 0, .string (mkS s)]]) (by kernel_rfl) (TextStr_spec s hl) (give [] (by kernel_rfl)) ?_
        rintro v _ ⟨rfl, rfl⟩
        rw [hp]
        refine wpr_run (l₂ := []) true [4, 5, 6, 7, 8] [] [(7, .int .i64 0), (5, .bool false), (4, .int .i64 0), (2, .pointer (some ⟨g1, 0, none⟩))] [.blk g1 28 [.int .i64 3, .int .i64 0, .string (mkS s)]] [] (by kernel_rfl) (by kernel_rfl) trivial ?_
        refine wpr_nil (nx_then ?_)
        refine wpc_region [0, 1, 2, 3, 4, 5, 6, 7] (by kernel_rfl) ?_
        refine wpr_run (l₂ := []) true [0, 1, 2, 3, 4, 5, 6, 7] [0] [(5, .bool true), (4, .int .i64 0)] [.blk g1 28 [.int .i64 3, .int .i64 0, .string (mkS s)]] [] (by kernel_rfl) (by kernel_rfl) trivial ?_
        refine wpr_nil (nx_block (nx_then (wpc_seq (wpc_seq ?_))))
        refine wpc_region [0, 1] (by kernel_rfl) ?_
        refine wpr_run (l₂ := []) true [0, 1] [] [(73, .bool false), (4, .int .i64 0)] [.blk g1 28 [.int .i64 3, .int .i64 0, .string (mkS s)]] [] (by kernel_rfl) (by kernel_rfl) trivial ?_
        refine wpr_nil (nx_then ?_)
        refine wpc_false (by kernel_rfl) ?_
        refine wpc_skip ?_
        refine nx_then (wpc_seq ?_)
        refine wpc_region [0] (by kernel_rfl) ?_
        refine wpr_run (l₂ := []) true [0] [] [(4, .int .i64 0)] [.blk g1 28 [.int .i64 3, .int .i64 0, .string (mkS s)]] [] (by kernel_rfl) (by kernel_rfl) trivial ?_
        refine wpr_nil (nx_then ?_)
        refine wpc_ret ?_
        refine nx_end (hp' := []) (rest := [.blk g1 28 [.int .i64 3, .int .i64 0, .string (mkS s)]]) [] ((.int .i64 0)) (by kernel_rfl) (by kernel_rfl) (give [] (by kernel_rfl)) (by first | ((repeat (first | exact trivial | refine ⟨trivial, ?_⟩)); done) | assumption) ?_ (.inr rfl)
        exact ⟨by simp [rightB, *], rfl⟩
      | false =>
        refine fn_enter Tryz.func27 rfl 74 rfl fun w0 h0 => ?_
        refine wpc_seq ?_
        refine wpc_region [0, 1] (by kernel_rfl) ?_
        refine wpr_new (l₂ := [1]) true [0] [] (fun g1 => [(2, .pointer (some ⟨g1, 0, none⟩)), (1, .int .i64 m)]) (fun g1 => [.blk g1 28 [.int .i64 3, .int .i64 0, .string (mkS s)]]) (fun g1 => []) (fun g1 => by kernel_rfl) (fun g1 => by kernel_rfl) (fun g1 => trivial) fun g1 => ?_
        refine wpr_run (l₂ := []) true [1] [] [(4, .int .i64 0), (2, .pointer (some ⟨g1, 0, none⟩)), (1, .int .i64 m)] [.blk g1 28 [.int .i64 3, .int .i64 0, .string (mkS s)]] [] (by kernel_rfl) (by kernel_rfl) trivial ?_
        refine wpr_nil (nx_then (wpc_seq ?_))
        refine wpc_region [0] (by kernel_rfl) ?_
        refine wpr_run (l₂ := []) true [0] [] [(5, .bool false), (4, .int .i64 0), (2, .pointer (some ⟨g1, 0, none⟩)), (1, .int .i64 m)] [.blk g1 28 [.int .i64 3, .int .i64 0, .string (mkS s)]] [] (by kernel_rfl) (by kernel_rfl) trivial ?_
        refine wpr_nil (nx_then (wpc_seq (wpc_seq ?_)))
        refine wpc_region [0, 1] (by kernel_rfl) ?_
        refine wpr_run (l₂ := []) true [0, 1] [0] [(9, .int .i64 3), (5, .bool false), (4, .int .i64 0), (2, .pointer (some ⟨g1, 0, none⟩)), (1, .int .i64 m)] [.blk g1 28 [.int .i64 3, .int .i64 0, .string (mkS s)]] [] (by kernel_rfl) (by kernel_rfl) trivial ?_
        refine wpr_nil (nx_then ?_)
        refine wpc_block ?_
        refine wpc_seq ?_
        refine wpc_region [0, 1] (by kernel_rfl) ?_
        refine wpr_run (l₂ := []) true [0, 1] [] [(10, .bool false), (9, .int .i64 3), (5, .bool false), (4, .int .i64 0), (2, .pointer (some ⟨g1, 0, none⟩)), (1, .int .i64 m)] [.blk g1 28 [.int .i64 3, .int .i64 0, .string (mkS s)]] [] (by kernel_rfl) (by kernel_rfl) trivial ?_
        refine wpr_nil (nx_then ?_)
        refine wpc_false (by kernel_rfl) ?_
        refine wpc_seq ?_
        refine wpc_region [0, 1] (by kernel_rfl) ?_
        refine wpr_run (l₂ := []) true [0, 1] [] [(20, .bool false), (9, .int .i64 3), (5, .bool false), (4, .int .i64 0), (2, .pointer (some ⟨g1, 0, none⟩)), (1, .int .i64 m)] [.blk g1 28 [.int .i64 3, .int .i64 0, .string (mkS s)]] [] (by kernel_rfl) (by kernel_rfl) trivial ?_
        refine wpr_nil (nx_then ?_)
        refine wpc_false (by kernel_rfl) ?_
        refine wpc_seq ?_
        refine wpc_region [0, 1] (by kernel_rfl) ?_
        refine wpr_run (l₂ := []) true [0, 1] [] [(25, .bool false), (9, .int .i64 3), (5, .bool false), (4, .int .i64 0), (2, .pointer (some ⟨g1, 0, none⟩)), (1, .int .i64 m)] [.blk g1 28 [.int .i64 3, .int .i64 0, .string (mkS s)]] [] (by kernel_rfl) (by kernel_rfl) trivial ?_
        refine wpr_nil (nx_then ?_)
        refine wpc_false (by kernel_rfl) ?_
        refine wpc_seq ?_
        refine wpc_region [0, 1] (by kernel_rfl) ?_
        refine wpr_run (l₂ := []) true [0, 1] [] [(40, .bool true), (9, .int .i64 3), (5, .bool false), (4, .int .i64 0), (2, .pointer (some ⟨g1, 0, none⟩)), (1, .int .i64 m)] [.blk g1 28 [.int .i64 3, .int .i64 0, .string (mkS s)]] [] (by kernel_rfl) (by kernel_rfl) trivial ?_
        refine wpr_nil (nx_then ?_)
        refine wpc_true (by kernel_rfl) ?_
        refine wpc_seq ?_
        refine wpc_region [0, 1, 2, 3, 4, 5, 6, 7, 8] (by kernel_rfl) ?_
        refine wpr_run (l₂ := [3, 4, 5, 6, 7, 8]) true [0, 1, 2] [0] [(45, .agg #[.int .i64 3, .string (mkS s), .int .i64 0, .int .i64 0, .int .i64 0]), (5, .bool false), (4, .int .i64 0), (2, .pointer (some ⟨g1, 0, none⟩))] [.blk g1 28 [.int .i64 3, .int .i64 0, .string (mkS s)]] [] (by kernel_rfl) (by kernel_rfl) trivial ?_
        refine wpr_call (dst := some 46) (rest := [.blk g1 28 [.int .i64 3, .int .i64 0, .string (mkS s)]]) (by kernel_rfl) (TextStr_spec s hl) (give [] (by kernel_rfl)) ?_
        rintro v _ ⟨rfl, rfl⟩
        rw [hp]
        refine wpr_run (l₂ := []) true [4, 5, 6, 7, 8] [] [(7, .int .i64 2), (5, .bool false), (4, .int .i64 0), (2, .pointer (some ⟨g1, 0, none⟩))] [.blk g1 28 [.int .i64 3, .int .i64 0, .string (mkS s)]] [] (by kernel_rfl) (by kernel_rfl) trivial ?_
        refine wpr_nil (nx_then ?_)
        refine wpc_region [0, 1, 2, 3, 4, 5, 6, 7] (by kernel_rfl) ?_
        refine wpr_run (l₂ := []) true [0, 1, 2, 3, 4, 5, 6, 7] [0] [(5, .bool false), (4, .int .i64 0)] [.blk g1 28 [.int .i64 3, .int .i64 0, .string (mkS s)]] [] (by kernel_rfl) (by kernel_rfl) trivial ?_
        refine wpr_nil (nx_block (nx_then (wpc_seq (wpc_seq ?_))))
        refine wpc_region [0, 1] (by kernel_rfl) ?_
        refine wpr_run (l₂ := []) true [0, 1] [] [(73, .bool true), (4, .int .i64 0)] [.blk g1 28 [.int .i64 3, .int .i64 0, .string (mkS s)]] [] (by kernel_rfl) (by kernel_rfl) trivial ?_
        refine wpr_nil (nx_then ?_)
        refine wpc_true (by kernel_rfl) ?_
        refine wpc_seq ?_
        refine wpc_region [0] (by kernel_rfl) ?_
        refine wpr_run (l₂ := []) true [0] [] [(4, .int .i64 2)] [.blk g1 28 [.int .i64 3, .int .i64 0, .string (mkS s)]] [] (by kernel_rfl) (by kernel_rfl) trivial ?_
        refine wpr_nil (nx_then ?_)
        refine wpc_ret ?_
        refine nx_then_ret ?_
        refine nx_end (hp' := []) (rest := [.blk g1 28 [.int .i64 3, .int .i64 0, .string (mkS s)]]) [] ((.int .i64 2)) (by kernel_rfl) (by kernel_rfl) (give [] (by kernel_rfl)) (by first | ((repeat (first | exact trivial | refine ⟨trivial, ?_⟩)); done) | assumption) ?_ (.inr rfl)
        exact ⟨by simp [rightB, *], rfl⟩
    · cases hp : plainB s with
      | true =>
        refine fn_enter Tryz.func27 rfl 74 rfl fun w0 h0 => ?_
        refine wpc_seq ?_
        refine wpc_region [0, 1] (by kernel_rfl) ?_
        refine wpr_new (l₂ := [1]) true [0] [] (fun g1 => [(2, .pointer (some ⟨g1, 0, none⟩)), (1, .int .i64 m)]) (fun g1 => [.blk g1 28 [.int .i64 3, .int .i64 n, .string (mkS s)]]) (fun g1 => []) (fun g1 => by kernel_rfl) (fun g1 => by kernel_rfl) (fun g1 => trivial) fun g1 => ?_
        refine wpr_run (l₂ := []) true [1] [] [(4, .int .i64 0), (2, .pointer (some ⟨g1, 0, none⟩)), (1, .int .i64 m)] [.blk g1 28 [.int .i64 3, .int .i64 n, .string (mkS s)]] [] (by kernel_rfl) (by kernel_rfl) trivial ?_
        refine wpr_nil (nx_then (wpc_seq ?_))
        refine wpc_region [0] (by kernel_rfl) ?_
        refine wpr_run (l₂ := []) true [0] [] [(5, .bool false), (4, .int .i64 0), (2, .pointer (some ⟨g1, 0, none⟩)), (1, .int .i64 m)] [.blk g1 28 [.int .i64 3, .int .i64 n, .string (mkS s)]] [] (by kernel_rfl) (by kernel_rfl) trivial ?_
        refine wpr_nil (nx_then (wpc_seq (wpc_seq ?_)))
        refine wpc_region [0, 1] (by kernel_rfl) ?_
        refine wpr_run (l₂ := []) true [0, 1] [0] [(9, .int .i64 3), (5, .bool false), (4, .int .i64 0), (2, .pointer (some ⟨g1, 0, none⟩)), (1, .int .i64 m)] [.blk g1 28 [.int .i64 3, .int .i64 n, .string (mkS s)]] [] (by kernel_rfl) (by kernel_rfl) trivial ?_
        refine wpr_nil (nx_then ?_)
        refine wpc_block ?_
        refine wpc_seq ?_
        refine wpc_region [0, 1] (by kernel_rfl) ?_
        refine wpr_run (l₂ := []) true [0, 1] [] [(10, .bool false), (9, .int .i64 3), (5, .bool false), (4, .int .i64 0), (2, .pointer (some ⟨g1, 0, none⟩)), (1, .int .i64 m)] [.blk g1 28 [.int .i64 3, .int .i64 n, .string (mkS s)]] [] (by kernel_rfl) (by kernel_rfl) trivial ?_
        refine wpr_nil (nx_then ?_)
        refine wpc_false (by kernel_rfl) ?_
        refine wpc_seq ?_
        refine wpc_region [0, 1] (by kernel_rfl) ?_
        refine wpr_run (l₂ := []) true [0, 1] [] [(20, .bool false), (9, .int .i64 3), (5, .bool false), (4, .int .i64 0), (2, .pointer (some ⟨g1, 0, none⟩)), (1, .int .i64 m)] [.blk g1 28 [.int .i64 3, .int .i64 n, .string (mkS s)]] [] (by kernel_rfl) (by kernel_rfl) trivial ?_
        refine wpr_nil (nx_then ?_)
        refine wpc_false (by kernel_rfl) ?_
        refine wpc_seq ?_
        refine wpc_region [0, 1] (by kernel_rfl) ?_
        refine wpr_run (l₂ := []) true [0, 1] [] [(25, .bool false), (9, .int .i64 3), (5, .bool false), (4, .int .i64 0), (2, .pointer (some ⟨g1, 0, none⟩)), (1, .int .i64 m)] [.blk g1 28 [.int .i64 3, .int .i64 n, .string (mkS s)]] [] (by kernel_rfl) (by kernel_rfl) trivial ?_
        refine wpr_nil (nx_then ?_)
        refine wpc_false (by kernel_rfl) ?_
        refine wpc_seq ?_
        refine wpc_region [0, 1] (by kernel_rfl) ?_
        refine wpr_run (l₂ := []) true [0, 1] [] [(40, .bool true), (9, .int .i64 3), (5, .bool false), (4, .int .i64 0), (2, .pointer (some ⟨g1, 0, none⟩)), (1, .int .i64 m)] [.blk g1 28 [.int .i64 3, .int .i64 n, .string (mkS s)]] [] (by kernel_rfl) (by kernel_rfl) trivial ?_
        refine wpr_nil (nx_then ?_)
        refine wpc_true (by kernel_rfl) ?_
        refine wpc_seq ?_
        refine wpc_region [0, 1, 2, 3, 4, 5, 6, 7, 8] (by kernel_rfl) ?_
        refine wpr_run (l₂ := [3, 4, 5, 6, 7, 8]) true [0, 1, 2] [0] [(45, .agg #[.int .i64 3, .string (mkS s), .int .i64 0, .int .i64 0, .int .i64 0]), (5, .bool false), (4, .int .i64 0), (2, .pointer (some ⟨g1, 0, none⟩))] [.blk g1 28 [.int .i64 3, .int .i64 n, .string (mkS s)]] [] (by kernel_rfl) (by kernel_rfl) trivial ?_
        refine wpr_call (dst := some 46) (rest := [.blk g1 28 [.int .i64 3, .int .i64 n, .string (mkS s)]]) (by kernel_rfl) (TextStr_spec s hl) (give [] (by kernel_rfl)) ?_
        rintro v _ ⟨rfl, rfl⟩
        rw [hp]
        refine wpr_run (l₂ := []) true [4, 5, 6, 7, 8] [] [(7, .int .i64 0), (5, .bool false), (4, .int .i64 0), (2, .pointer (some ⟨g1, 0, none⟩))] [.blk g1 28 [.int .i64 3, .int .i64 n, .string (mkS s)]] [] (by kernel_rfl) (by kernel_rfl) trivial ?_
        refine wpr_nil (nx_then ?_)
        refine wpc_region [0, 1, 2, 3, 4, 5, 6, 7] (by kernel_rfl) ?_
        refine wpr_run (l₂ := [4, 5, 6, 7]) true [0, 1, 2, 3] [0] [(52, .bool (n == 0)), (7, .int .i64 0), (5, .bool false), (4, .int .i64 0)] [.blk g1 28 [.int .i64 3, .int .i64 n, .string (mkS s)]] [] (by kernel_rfl) (by kernel_rfl) trivial ?_
        refine wpr_ent (ent_set 52 (.bool (n == 0)) (.bool false) (by kernel_rfl) (congrArg _ (by simp only [bne_eq_false_iff_eq, beq_eq_false_iff_ne, ne_eq]; omega))) ?_
        refine wpr_run (l₂ := []) true [4, 5, 6, 7] [] [(5, .bool false), (4, .int .i64 0)] [.blk g1 28 [.int .i64 3, .int .i64 n, .string (mkS s)]] [] (by kernel_rfl) (by kernel_rfl) trivial ?_
        refine wpr_nil (nx_block (nx_then (wpc_seq (wpc_seq ?_))))
        refine wpc_region [0, 1] (by kernel_rfl) ?_
        refine wpr_run (l₂ := []) true [0, 1] [] [(73, .bool true), (4, .int .i64 0)] [.blk g1 28 [.int .i64 3, .int .i64 n, .string (mkS s)]] [] (by kernel_rfl) (by kernel_rfl) trivial ?_
        refine wpr_nil (nx_then ?_)
        refine wpc_true (by kernel_rfl) ?_
        refine wpc_seq ?_
        refine wpc_region [0] (by kernel_rfl) ?_
        refine wpr_run (l₂ := []) true [0] [] [(4, .int .i64 2)] [.blk g1 28 [.int .i64 3, .int .i64 n, .string (mkS s)]] [] (by kernel_rfl) (by kernel_rfl) trivial ?_
        refine wpr_nil (nx_then ?_)
        refine wpc_ret ?_
        refine nx_then_ret ?_
        refine nx_end (hp' := []) (rest := [.blk g1 28 [.int .i64 3, .int .i64 n, .string (mkS s)]]) [] ((.int .i64 2)) (by kernel_rfl) (by kernel_rfl) (give [] (by kernel_rfl)) (by first | ((repeat (first | exact trivial | refine ⟨trivial, ?_⟩)); done) | assumption) ?_ (.inr rfl)
        exact ⟨by simp [rightB, *], rfl⟩
      | false =>
        refine fn_enter Tryz.func27 rfl 74 rfl fun w0 h0 => ?_
        refine wpc_seq ?_
        refine wpc_region [0, 1] (by kernel_rfl) ?_
        refine wpr_new (l₂ := [1]) true [0] [] (fun g1 => [(2, .pointer (some ⟨g1, 0, none⟩)), (1, .int .i64 m)]) (fun g1 => [.blk g1 28 [.int .i64 3, .int .i64 n, .string (mkS s)]]) (fun g1 => []) (fun g1 => by kernel_rfl) (fun g1 => by kernel_rfl) (fun g1 => trivial) fun g1 => ?_
        refine wpr_run (l₂ := []) true [1] [] [(4, .int .i64 0), (2, .pointer (some ⟨g1, 0, none⟩)), (1, .int .i64 m)] [.blk g1 28 [.int .i64 3, .int .i64 n, .string (mkS s)]] [] (by kernel_rfl) (by kernel_rfl) trivial ?_
        refine wpr_nil (nx_then (wpc_seq ?_))
        refine wpc_region [0] (by kernel_rfl) ?_
        refine wpr_run (l₂ := []) true [0] [] [(5, .bool false), (4, .int .i64 0), (2, .pointer (some ⟨g1, 0, none⟩)), (1, .int .i64 m)] [.blk g1 28 [.int .i64 3, .int .i64 n, .string (mkS s)]] [] (by kernel_rfl) (by kernel_rfl) trivial ?_
        refine wpr_nil (nx_then (wpc_seq (wpc_seq ?_)))
        refine wpc_region [0, 1] (by kernel_rfl) ?_
        refine wpr_run (l₂ := []) true [0, 1] [0] [(9, .int .i64 3), (5, .bool false), (4, .int .i64 0), (2, .pointer (some ⟨g1, 0, none⟩)), (1, .int .i64 m)] [.blk g1 28 [.int .i64 3, .int .i64 n, .string (mkS s)]] [] (by kernel_rfl) (by kernel_rfl) trivial ?_
        refine wpr_nil (nx_then ?_)
        refine wpc_block ?_
        refine wpc_seq ?_
        refine wpc_region [0, 1] (by kernel_rfl) ?_
        refine wpr_run (l₂ := []) true [0, 1] [] [(10, .bool false), (9, .int .i64 3), (5, .bool false), (4, .int .i64 0), (2, .pointer (some ⟨g1, 0, none⟩)), (1, .int .i64 m)] [.blk g1 28 [.int .i64 3, .int .i64 n, .string (mkS s)]] [] (by kernel_rfl) (by kernel_rfl) trivial ?_
        refine wpr_nil (nx_then ?_)
        refine wpc_false (by kernel_rfl) ?_
        refine wpc_seq ?_
        refine wpc_region [0, 1] (by kernel_rfl) ?_
        refine wpr_run (l₂ := []) true [0, 1] [] [(20, .bool false), (9, .int .i64 3), (5, .bool false), (4, .int .i64 0), (2, .pointer (some ⟨g1, 0, none⟩)), (1, .int .i64 m)] [.blk g1 28 [.int .i64 3, .int .i64 n, .string (mkS s)]] [] (by kernel_rfl) (by kernel_rfl) trivial ?_
        refine wpr_nil (nx_then ?_)
        refine wpc_false (by kernel_rfl) ?_
        refine wpc_seq ?_
        refine wpc_region [0, 1] (by kernel_rfl) ?_
        refine wpr_run (l₂ := []) true [0, 1] [] [(25, .bool false), (9, .int .i64 3), (5, .bool false), (4, .int .i64 0), (2, .pointer (some ⟨g1, 0, none⟩)), (1, .int .i64 m)] [.blk g1 28 [.int .i64 3, .int .i64 n, .string (mkS s)]] [] (by kernel_rfl) (by kernel_rfl) trivial ?_
        refine wpr_nil (nx_then ?_)
        refine wpc_false (by kernel_rfl) ?_
        refine wpc_seq ?_
        refine wpc_region [0, 1] (by kernel_rfl) ?_
        refine wpr_run (l₂ := []) true [0, 1] [] [(40, .bool true), (9, .int .i64 3), (5, .bool false), (4, .int .i64 0), (2, .pointer (some ⟨g1, 0, none⟩)), (1, .int .i64 m)] [.blk g1 28 [.int .i64 3, .int .i64 n, .string (mkS s)]] [] (by kernel_rfl) (by kernel_rfl) trivial ?_
        refine wpr_nil (nx_then ?_)
        refine wpc_true (by kernel_rfl) ?_
        refine wpc_seq ?_
        refine wpc_region [0, 1, 2, 3, 4, 5, 6, 7, 8] (by kernel_rfl) ?_
        refine wpr_run (l₂ := [3, 4, 5, 6, 7, 8]) true [0, 1, 2] [0] [(45, .agg #[.int .i64 3, .string (mkS s), .int .i64 0, .int .i64 0, .int .i64 0]), (5, .bool false), (4, .int .i64 0), (2, .pointer (some ⟨g1, 0, none⟩))] [.blk g1 28 [.int .i64 3, .int .i64 n, .string (mkS s)]] [] (by kernel_rfl) (by kernel_rfl) trivial ?_
        refine wpr_call (dst := some 46) (rest := [.blk g1 28 [.int .i64 3, .int .i64 n, .string (mkS s)]]) (by kernel_rfl) (TextStr_spec s hl) (give [] (by kernel_rfl)) ?_
        rintro v _ ⟨rfl, rfl⟩
        rw [hp]
        refine wpr_run (l₂ := []) true [4, 5, 6, 7, 8] [] [(7, .int .i64 2), (5, .bool false), (4, .int .i64 0), (2, .pointer (some ⟨g1, 0, none⟩))] [.blk g1 28 [.int .i64 3, .int .i64 n, .string (mkS s)]] [] (by kernel_rfl) (by kernel_rfl) trivial ?_
        refine wpr_nil (nx_then ?_)
        refine wpc_region [0, 1, 2, 3, 4, 5, 6, 7] (by kernel_rfl) ?_
        refine wpr_run (l₂ := [4, 5, 6, 7]) true [0, 1, 2, 3] [0] [(52, .bool (n == 0)), (7, .int .i64 2), (5, .bool false), (4, .int .i64 0)] [.blk g1 28 [.int .i64 3, .int .i64 n, .string (mkS s)]] [] (by kernel_rfl) (by kernel_rfl) trivial ?_
        refine wpr_ent (ent_set 52 (.bool (n == 0)) (.bool false) (by kernel_rfl) (congrArg _ (by simp only [bne_eq_false_iff_eq, beq_eq_false_iff_ne, ne_eq]; omega))) ?_
        refine wpr_run (l₂ := []) true [4, 5, 6, 7] [] [(5, .bool false), (4, .int .i64 0)] [.blk g1 28 [.int .i64 3, .int .i64 n, .string (mkS s)]] [] (by kernel_rfl) (by kernel_rfl) trivial ?_
        refine wpr_nil (nx_block (nx_then (wpc_seq (wpc_seq ?_))))
        refine wpc_region [0, 1] (by kernel_rfl) ?_
        refine wpr_run (l₂ := []) true [0, 1] [] [(73, .bool true), (4, .int .i64 0)] [.blk g1 28 [.int .i64 3, .int .i64 n, .string (mkS s)]] [] (by kernel_rfl) (by kernel_rfl) trivial ?_
        refine wpr_nil (nx_then ?_)
        refine wpc_true (by kernel_rfl) ?_
        refine wpc_seq ?_
        refine wpc_region [0] (by kernel_rfl) ?_
        refine wpr_run (l₂ := []) true [0] [] [(4, .int .i64 2)] [.blk g1 28 [.int .i64 3, .int .i64 n, .string (mkS s)]] [] (by kernel_rfl) (by kernel_rfl) trivial ?_
        refine wpr_nil (nx_then ?_)
        refine wpc_ret ?_
        refine nx_then_ret ?_
        refine nx_end (hp' := []) (rest := [.blk g1 28 [.int .i64 3, .int .i64 n, .string (mkS s)]]) [] ((.int .i64 2)) (by kernel_rfl) (by kernel_rfl) (give [] (by kernel_rfl)) (by first | ((repeat (first | exact trivial | refine ⟨trivial, ?_⟩)); done) | assumption) ?_ (.inr rfl)
        exact ⟨by simp [rightB, *], rfl⟩
  by_cases k4 : k = 4
  · subst k4
    cases s with
    | nil =>
      by_cases h0 : 0 ≤ n
      · by_cases hm : n < m
        · refine fn_enter Tryz.func27 rfl 74 rfl fun w0 h0 => ?_
          refine wpc_seq ?_
          refine wpc_region [0, 1] (by kernel_rfl) ?_
          refine wpr_new (l₂ := [1]) true [0] [] (fun g1 => [(2, .pointer (some ⟨g1, 0, none⟩)), (1, .int .i64 m)]) (fun g1 => [.blk g1 28 [.int .i64 4, .int .i64 n, .string (mkS [])]]) (fun g1 => []) (fun g1 => by kernel_rfl) (fun g1 => by kernel_rfl) (fun g1 => trivial) fun g1 => ?_
          refine wpr_run (l₂ := []) true [1] [] [(4, .int .i64 0), (2, .pointer (some ⟨g1, 0, none⟩)), (1, .int .i64 m)] [.blk g1 28 [.int .i64 4, .int .i64 n, .string (mkS [])]] [] (by kernel_rfl) (by kernel_rfl) trivial ?_
          refine wpr_nil (nx_then (wpc_seq ?_))
          refine wpc_region [0] (by kernel_rfl) ?_
          refine wpr_run (l₂ := []) true [0] [] [(5, .bool false), (4, .int .i64 0), (2, .pointer (some ⟨g1, 0, none⟩)), (1, .int .i64 m)] [.blk g1 28 [.int .i64 4, .int .i64 n, .string (mkS [])]] [] (by kernel_rfl) (by kernel_rfl) trivial ?_
          refine wpr_nil (nx_then (wpc_seq (wpc_seq ?_)))
          refine wpc_region [0, 1] (by kernel_rfl) ?_
          refine wpr_run (l₂ := []) true [0, 1] [0] [(9, .int .i64 4), (5, .bool false), (4, .int .i64 0), (2, .pointer (some ⟨g1, 0, none⟩)), (1, .int .i64 m)] [.blk g1 28 [.int .i64 4, .int .i64 n, .string (mkS [])]] [] (by kernel_rfl) (by kernel_rfl) trivial ?_
          refine wpr_nil (nx_then ?_)
          refine wpc_block ?_
          refine wpc_seq ?_
          refine wpc_region [0, 1] (by kernel_rfl) ?_
          refine wpr_run (l₂ := []) true [0, 1] [] [(10, .bool false), (9, .int .i64 4), (5, .bool false), (4, .int .i64 0), (2, .pointer (some ⟨g1, 0, none⟩)), (1, .int .i64 m)] [.blk g1 28 [.int .i64 4, .int .i64 n, .string (mkS [])]] [] (by kernel_rfl) (by kernel_rfl) trivial ?_
          refine wpr_nil (nx_then ?_)
          refine wpc_false (by kernel_rfl) ?_
          refine wpc_seq ?_
          refine wpc_region [0, 1] (by kernel_rfl) ?_
          refine wpr_run (l₂ := []) true [0, 1] [] [(20, .bool false), (9, .int .i64 4), (5, .bool false), (4, .int .i64 0), (2, .pointer (some ⟨g1, 0, none⟩)), (1, .int .i64 m)] [.blk g1 28 [.int .i64 4, .int .i64 n, .string (mkS [])]] [] (by kernel_rfl) (by kernel_rfl) trivial ?_
          refine wpr_nil (nx_then ?_)
          refine wpc_false (by kernel_rfl) ?_
          refine wpc_seq ?_
          refine wpc_region [0, 1] (by kernel_rfl) ?_
          refine wpr_run (l₂ := []) true [0, 1] [] [(25, .bool false), (9, .int .i64 4), (5, .bool false), (4, .int .i64 0), (2, .pointer (some ⟨g1, 0, none⟩)), (1, .int .i64 m)] [.blk g1 28 [.int .i64 4, .int .i64 n, .string (mkS [])]] [] (by kernel_rfl) (by kernel_rfl) trivial ?_
          refine wpr_nil (nx_then ?_)
          refine wpc_false (by kernel_rfl) ?_
          refine wpc_seq ?_
          refine wpc_region [0, 1] (by kernel_rfl) ?_
          refine wpr_run (l₂ := []) true [0, 1] [] [(40, .bool false), (9, .int .i64 4), (5, .bool false), (4, .int .i64 0), (2, .pointer (some ⟨g1, 0, none⟩)), (1, .int .i64 m)] [.blk g1 28 [.int .i64 4, .int .i64 n, .string (mkS [])]] [] (by kernel_rfl) (by kernel_rfl) trivial ?_
          refine wpr_nil (nx_then ?_)
          refine wpc_false (by kernel_rfl) ?_
          refine wpc_seq ?_
          refine wpc_region [0, 1] (by kernel_rfl) ?_
          refine wpr_run (l₂ := []) true [0, 1] [] [(56, .bool true), (5, .bool false), (4, .int .i64 0), (2, .pointer (some ⟨g1, 0, none⟩)), (1, .int .i64 m)] [.blk g1 28 [.int .i64 4, .int .i64 n, .string (mkS [])]] [] (by kernel_rfl) (by kernel_rfl) trivial ?_
          refine wpr_nil (nx_then ?_)
          refine wpc_true (by kernel_rfl) ?_
          refine wpc_region [0, 1, 2, 3, 4, 5, 6, 7, 8, 9, 10, 11, 12, 13, 14] (by kernel_rfl) ?_
          refine wpr_run (l₂ := [9, 10, 11, 12, 13, 14]) true [0, 1, 2, 3, 4, 5, 6, 7, 8] [0, 0] [(66, .bool (decide (n ≥ 0))), (5, .bool false), (4, .int .i64 0), (2, .pointer (some ⟨g1, 0, none⟩)), (1, .int .i64 m)] [.blk g1 28 [.int .i64 4, .int .i64 n, .string (mkS [])]] [] (by kernel_rfl) (by kernel_rfl) trivial ?_
          refine wpr_ent (ent_set 66 (.bool (decide (n ≥ 0))) (.bool true) (by kernel_rfl) (congrArg _ (decide_eq_true (by omega)))) ?_
          refine wpr_run (l₂ := []) true [9, 10, 11, 12, 13, 14] [0] [(5, .bool (decide (n < m))), (4, .int .i64 0)] [.blk g1 28 [.int .i64 4, .int .i64 n, .string (mkS [])]] [] (by kernel_rfl) (by kernel_rfl) trivial ?_
          refine wpr_nil (nx_block (nx_then (wpc_seq (wpc_seq ?_))))
          refine wpc_region [0, 1] (by kernel_rfl) ?_
          refine wpr_run (l₂ := []) true [0, 1] [] [(73, .bool !decide (n < m)), (4, .int .i64 0)] [.blk g1 28 [.int .i64 4, .int .i64 n, .string (mkS [])]] [] (by kernel_rfl) (by kernel_rfl) trivial ?_
          refine wpr_nil (nx_then ?_)
          refine wpc_ent (ent_set 73 (.bool (!decide (n < m))) (.bool false) (by kernel_rfl) (congrArg _ (by simp; omega))) ?_
          refine wpc_false (by kernel_rfl) ?_
          refine wpc_skip ?_
          refine nx_then (wpc_seq ?_)
          refine wpc_region [0] (by kernel_rfl) ?_
          refine wpr_run (l₂ := []) true [0] [] [(4, .int .i64 0)] [.blk g1 28 [.int .i64 4, .int .i64 n, .string (mkS [])]] [] (by kernel_rfl) (by kernel_rfl) trivial ?_
          refine wpr_nil (nx_then ?_)
          refine wpc_ret ?_
          refine nx_end (hp' := []) (rest := [.blk g1 28 [.int .i64 4, .int .i64 n, .string (mkS [])]]) [] ((.int .i64 0)) (by kernel_rfl) (by kernel_rfl) (give [] (by kernel_rfl)) (by first | ((repeat (first | exact trivial | refine ⟨trivial, ?_⟩)); done) | assumption) ?_ (.inr rfl)
          exact ⟨by simp [rightB, *], rfl⟩
        · refine fn_enter Tryz.func27 rfl 74 rfl fun w0 h0 => ?_
          refine wpc_seq ?_
          refine wpc_region [0, 1] (by kernel_rfl) ?_
          refine wpr_new (l₂ := [1]) true [0] [] (fun g1 => [(2, .pointer (some ⟨g1, 0, none⟩)), (1, .int .i64 m)]) (fun g1 => [.blk g1 28 [.int .i64 4, .int .i64 n, .string (mkS [])]]) (fun g1 => []) (fun g1 => by kernel_rfl) (fun g1 => by kernel_rfl) (fun g1 => trivial) fun g1 => ?_
          refine wpr_run (l₂ := []) true [1] [] [(4, .int .i64 0), (2, .pointer (some ⟨g1, 0, none⟩)), (1, .int .i64 m)] [.blk g1 28 [.int .i64 4, .int .i64 n, .string (mkS [])]] [] (by kernel_rfl) (by kernel_rfl) trivial ?_
          refine wpr_nil (nx_then (wpc_seq ?_))
          refine wpc_region [0] (by kernel_rfl) ?_
          refine wpr_run (l₂ := []) true [0] [] [(5, .bool false), (4, .int .i64 0), (2, .pointer (some ⟨g1, 0, none⟩)), (1, .int .i64 m)] [.blk g1 28 [.int .i64 4, .int .i64 n, .string (mkS [])]] [] (by kernel_rfl) (by kernel_rfl) trivial ?_
          refine wpr_nil (nx_then (wpc_seq (wpc_seq ?_)))
          refine wpc_region [0, 1] (by kernel_rfl) ?_
          refine wpr_run (l₂ := []) true [0, 1] [0] [(9, .int .i64 4), (5, .bool false), (4, .int .i64 0), (2, .pointer (some ⟨g1, 0, none⟩)), (1, .int .i64 m)] [.blk g1 28 [.int .i64 4, .int .i64 n, .string (mkS [])]] [] (by kernel_rfl) (by kernel_rfl) trivial ?_
          refine wpr_nil (nx_then ?_)
          refine wpc_block ?_
          refine wpc_seq ?_
          refine wpc_region [0, 1] (by kernel_rfl) ?_
          refine wpr_run (l₂ := []) true [0, 1] [] [(10, .bool false), (9, .int .i64 4), (5, .bool false), (4, .int .i64 0), (2, .pointer (some ⟨g1, 0, none⟩)), (1, .int .i64 m)] [.blk g1 28 [.int .i64 4, .int .i64 n, .string (mkS [])]] [] (by kernel_rfl) (by kernel_rfl) trivial ?_
          refine wpr_nil (nx_then ?_)
          refine wpc_false (by kernel_rfl) ?_
          refine wpc_seq ?_
          refine wpc_region [0, 1] (by kernel_rfl) ?_
          refine wpr_run (l₂ := []) true [0, 1] [] [(20, .bool false), (9, .int .i64 4), (5, .bool false), (4, .int .i64 0), (2, .pointer (some ⟨g1, 0, none⟩)), (1, .int .i64 m)] [.blk g1 28 [.int .i64 4, .int .i64 n, .string (mkS [])]] [] (by kernel_rfl) (by kernel_rfl) trivial ?_
          refine wpr_nil (nx_then ?_)
          refine wpc_false (by kernel_rfl) ?_
          refine wpc_seq ?_
          refine wpc_region [0, 1] (by kernel_rfl) ?_
          refine wpr_run (l₂ := []) true [0, 1] [] [(25, .bool false), (9, .int .i64 4), (5, .bool false), (4, .int .i64 0), (2, .pointer (some ⟨g1, 0, none⟩)), (1, .int .i64 m)] [.blk g1 28 [.int .i64 4, .int .i64 n, .string (mkS [])]] [] (by kernel_rfl) (by kernel_rfl) trivial ?_
          refine wpr_nil (nx_then ?_)
          refine wpc_false (by kernel_rfl) ?_
          refine wpc_seq ?_
          refine wpc_region [0, 1] (by kernel_rfl) ?_
          refine wpr_run (l₂ := []) true [0, 1] [] [(40, .bool false), (9, .int .i64 4), (5, .bool false), (4, .int .i64 0), (2, .pointer (some ⟨g1, 0, none⟩)), (1, .int .i64 m)] [.blk g1 28 [.int .i64 4, .int .i64 n, .string (mkS [])]] [] (by kernel_rfl) (by kernel_rfl) trivial ?_
          refine wpr_nil (nx_then ?_)
          refine wpc_false (by kernel_rfl) ?_
          refine wpc_seq ?_
          refine wpc_region [0, 1] (by kernel_rfl) ?_
          refine wpr_run (l₂ := []) true [0, 1] [] [(56, .bool true), (5, .bool false), (4, .int .i64 0), (2, .pointer (some ⟨g1, 0, none⟩)), (1, .int .i64 m)] [.blk g1 28 [.int .i64 4, .int .i64 n, .string (mkS [])]] [] (by kernel_rfl) (by kernel_rfl) trivial ?_
          refine wpr_nil (nx_then ?_)
          refine wpc_true (by kernel_rfl) ?_
          refine wpc_region [0, 1, 2, 3, 4, 5, 6, 7, 8, 9, 10, 11, 12, 13, 14] (by kernel_rfl) ?_
          refine wpr_run (l₂ := [9, 10, 11, 12, 13, 14]) true [0, 1, 2, 3, 4, 5, 6, 7, 8] [0, 0] [(66, .bool (decide (n ≥ 0))), (5, .bool false), (4, .int .i64 0), (2, .pointer (some ⟨g1, 0, none⟩)), (1, .int .i64 m)] [.blk g1 28 [.int .i64 4, .int .i64 n, .string (mkS [])]] [] (by kernel_rfl) (by kernel_rfl) trivial ?_
          refine wpr_ent (ent_set 66 (.bool (decide (n ≥ 0))) (.bool true) (by kernel_rfl) (congrArg _ (decide_eq_true (by omega)))) ?_
          refine wpr_run (l₂ := []) true [9, 10, 11, 12, 13, 14] [0] [(5, .bool (decide (n < m))), (4, .int .i64 0)] [.blk g1 28 [.int .i64 4, .int .i64 n, .string (mkS [])]] [] (by kernel_rfl) (by kernel_rfl) trivial ?_
          refine wpr_nil (nx_block (nx_then (wpc_seq (wpc_seq ?_))))
          refine wpc_region [0, 1] (by kernel_rfl) ?_
          refine wpr_run (l₂ := []) true [0, 1] [] [(73, .bool !decide (n < m)), (4, .int .i64 0)] [.blk g1 28 [.int .i64 4, .int .i64 n, .string (mkS [])]] [] (by kernel_rfl) (by kernel_rfl) trivial ?_
          refine wpr_nil (nx_then ?_)
          refine wpc_ent (ent_set 73 (.bool (!decide (n < m))) (.bool true) (by kernel_rfl) (congrArg _ (by simp; omega))) ?_
          refine wpc_true (by kernel_rfl) ?_
          refine wpc_seq ?_
          refine wpc_region [0] (by kernel_rfl) ?_
          refine wpr_run (l₂ := []) true [0] [] [(4, .int .i64 2)] [.blk g1 28 [.int .i64 4, .int .i64 n, .string (mkS [])]] [] (by kernel_rfl) (by kernel_rfl) trivial ?_
          refine wpr_nil (nx_then ?_)
          refine wpc_ret ?_
          refine nx_then_ret ?_
          refine nx_end (hp' := []) (rest := [.blk g1 28 [.int .i64 4, .int .i64 n, .string (mkS [])]]) [] ((.int .i64 2)) (by kernel_rfl) (by kernel_rfl) (give [] (by kernel_rfl)) (by first | ((repeat (first | exact trivial | refine ⟨trivial, ?_⟩)); done) | assumption) ?_ (.inr rfl)
          exact ⟨by simp [rightB, *], rfl⟩
      · refine fn_enter Tryz.func27 rfl 74 rfl fun w0 h0 => ?_
        refine wpc_seq ?_
        refine wpc_region [0, 1] (by kernel_rfl) ?_
        refine wpr_new (l₂ := [1]) true [0] [] (fun g1 => [(2, .pointer (some ⟨g1, 0, none⟩)), (1, .int .i64 m)]) (fun g1 => [.blk g1 28 [.int .i64 4, .int .i64 n, .string (mkS [])]]) (fun g1 => []) (fun g1 => by kernel_rfl) (fun g1 => by kernel_rfl) (fun g1 => trivial) fun g1 => ?_
        refine wpr_run (l₂ := []) true [1] [] [(4, .int .i64 0), (2, .pointer (some ⟨g1, 0, none⟩)), (1, .int .i64 m)] [.blk g1 28 [.int .i64 4, .int .i64 n, .string (mkS [])]] [] (by kernel_rfl) (by kernel_rfl) trivial ?_
        refine wpr_nil (nx_then (wpc_seq ?_))
        refine wpc_region [0] (by kernel_rfl) ?_
        refine wpr_run (l₂ := []) true [0] [] [(5, .bool false), (4, .int .i64 0), (2, .pointer (some ⟨g1, 0, none⟩)), (1, .int .i64 m)] [.blk g1 28 [.int .i64 4, .int .i64 n, .string (mkS [])]] [] (by kernel_rfl) (by kernel_rfl) trivial ?_
        refine wpr_nil (nx_then (wpc_seq (wpc_seq ?_)))
        refine wpc_region [0, 1] (by kernel_rfl) ?_
        refine wpr_run (l₂ := []) true [0, 1] [0] [(9, .int .i64 4), (5, .bool false), (4, .int .i64 0), (2, .pointer (some ⟨g1, 0, none⟩)), (1, .int .i64 m)] [.blk g1 28 [.int .i64 4, .int .i64 n, .string (mkS [])]] [] (by kernel_rfl) (by kernel_rfl) trivial ?_
        refine wpr_nil (nx_then ?_)
        refine wpc_block ?_
        refine wpc_seq ?_
        refine wpc_region [0, 1] (by kernel_rfl) ?_
        refine wpr_run (l₂ := []) true [0, 1] [] [(10, .bool false), (9, .int .i64 4), (5, .bool false), (4, .int .i64 0), (2, .pointer (some ⟨g1, 0, none⟩)), (1, .int .i64 m)] [.blk g1 28 [.int .i64 4, .int .i64 n, .string (mkS [])]] [] (by kernel_rfl) (by kernel_rfl) trivial ?_
        refine wpr_nil (nx_then ?_)
        refine wpc_false (by kernel_rfl) ?_
        refine wpc_seq ?_
        refine wpc_region [0, 1] (by kernel_rfl) ?_
        refine wpr_run (l₂ := []) true [0, 1] [] [(20, .bool false), (9, .int .i64 4), (5, .bool false), (4, .int .i64 0), (2, .pointer (some ⟨g1, 0, none⟩)), (1, .int .i64 m)] [.blk g1 28 [.int .i64 4, .int .i64 n, .string (mkS [])]] [] (by kernel_rfl) (by kernel_rfl) trivial ?_
        refine wpr_nil (nx_then ?_)
        refine wpc_false (by kernel_rfl) ?_
        refine wpc_seq ?_
        refine wpc_region [0, 1] (by kernel_rfl) ?_
        refine wpr_run (l₂ := []) true [0, 1] [] [(25, .bool false), (9, .int .i64 4), (5, .bool false), (4, .int .i64 0), (2, .pointer (some ⟨g1, 0, none⟩)), (1, .int .i64 m)] [.blk g1 28 [.int .i64 4, .int .i64 n, .string (mkS [])]] [] (by kernel_rfl) (by kernel_rfl) trivial ?_
        refine wpr_nil (nx_then ?_)
        refine wpc_false (by kernel_rfl) ?_
        refine wpc_seq ?_
        refine wpc_region [0, 1] (by kernel_rfl) ?_
        refine wpr_run (l₂ := []) true [0, 1] [] [(40, .bool false), (9, .int .i64 4), (5, .bool false), (4, .int .i64 0), (2, .pointer (some ⟨g1, 0, none⟩)), (1, .int .i64 m)] [.blk g1 28 [.int .i64 4, .int .i64 n, .string (mkS [])]] [] (by kernel_rfl) (by kernel_rfl) trivial ?_
        refine wpr_nil (nx_then ?_)
        refine wpc_false (by kernel_rfl) ?_
        refine wpc_seq ?_
        refine wpc_region [0, 1] (by kernel_rfl) ?_
        refine wpr_run (l₂ := []) true [0, 1] [] [(56, .bool true), (5, .bool false), (4, .int .i64 0), (2, .pointer (some ⟨g1, 0, none⟩)), (1, .int .i64 m)] [.blk g1 28 [.int .i64 4, .int .i64 n, .string (mkS [])]] [] (by kernel_rfl) (by kernel_rfl) trivial ?_
        refine wpr_nil (nx_then ?_)
        refine wpc_true (by kernel_rfl) ?_
        refine wpc_region [0, 1, 2, 3, 4, 5, 6, 7, 8, 9, 10, 11, 12, 13, 14] (by kernel_rfl) ?_
        refine wpr_run (l₂ := [9, 10, 11, 12, 13, 14]) true [0, 1, 2, 3, 4, 5, 6, 7, 8] [0, 0] [(66, .bool (decide (n ≥ 0))), (5, .bool false), (4, .int .i64 0), (2, .pointer (some ⟨g1, 0, none⟩)), (1, .int .i64 m)] [.blk g1 28 [.int .i64 4, .int .i64 n, .string (mkS [])]] [] (by kernel_rfl) (by kernel_rfl) trivial ?_
        refine wpr_ent (ent_set 66 (.bool (decide (n ≥ 0))) (.bool false) (by kernel_rfl) (congrArg _ (decide_eq_false (by omega)))) ?_
        refine wpr_run (l₂ := []) true [9, 10, 11, 12, 13, 14] [] [(5, .bool false), (4, .int .i64 0)] [.blk g1 28 [.int .i64 4, .int .i64 n, .string (mkS [])]] [] (by kernel_rfl) (by kernel_rfl) trivial ?_
        refine wpr_nil (nx_block (nx_then (wpc_seq (wpc_seq ?_))))
        refine wpc_region [0, 1] (by kernel_rfl) ?_
        refine wpr_run (l₂ := []) true [0, 1] [] [(73, .bool true), (4, .int .i64 0)] [.blk g1 28 [.int .i64 4, .int .i64 n, .string (mkS [])]] [] (by kernel_rfl) (by kernel_rfl) trivial ?_
        refine wpr_nil (nx_then ?_)
        refine wpc_true (by kernel_rfl) ?_
        refine wpc_seq ?_
        refine wpc_region [0] (by kernel_rfl) ?_
        refine wpr_run (l₂ := []) true [0] [] [(4, .int .i64 2)] [.blk g1 28 [.int .i64 4, .int .i64 n, .string (mkS [])]] [] (by kernel_rfl) (by kernel_rfl) trivial ?_
        refine wpr_nil (nx_then ?_)
        refine wpc_ret ?_
        refine nx_then_ret ?_
        refine nx_end (hp' := []) (rest := [.blk g1 28 [.int .i64 4, .int .i64 n, .string (mkS [])]]) [] ((.int .i64 2)) (by kernel_rfl) (by kernel_rfl) (give [] (by kernel_rfl)) (by first | ((repeat (first | exact trivial | refine ⟨trivial, ?_⟩)); done) | assumption) ?_ (.inr rfl)
        exact ⟨by simp [rightB, *], rfl⟩
    | cons c r =>
      refine fn_enter Tryz.func27 rfl 74 rfl fun w0 h0 => ?_
      refine wpc_seq ?_
      refine wpc_region [0, 1] (by kernel_rfl) ?_
      refine wpr_new (l₂ := [1]) true [0] [] (fun g1 => [(2, .pointer (some ⟨g1, 0, none⟩)), (1, .int .i64 m)]) (fun g1 => [.blk g1 28 [.int .i64 4, .int .i64 n, .string (mkS (c :: r))]]) (fun g1 => []) (fun g1 => by kernel_rfl) (fun g1 => by kernel_rfl) (fun g1 => trivial) fun g1 => ?_
      refine wpr_run (l₂ := []) true [1] [] [(4, .int .i64 0), (2, .pointer (some ⟨g1, 0, none⟩)), (1, .int .i64 m)] [.blk g1 28 [.int .i64 4, .int .i64 n, .string (mkS (c :: r))]] [] (by kernel_rfl) (by kernel_rfl) trivial ?_
      refine wpr_nil (nx_then (wpc_seq ?_))
      refine wpc_region [0] (by kernel_rfl) ?_
      refine wpr_run (l₂ := []) true [0] [] [(5, .bool false), (4, .int .i64 0), (2, .pointer (some ⟨g1, 0, none⟩)), (1, .int .i64 m)] [.blk g1 28 [.int .i64 4, .int .i64 n, .string (mkS (c :: r))]] [] (by kernel_rfl) (by kernel_rfl) trivial ?_
      refine wpr_nil (nx_then (wpc_seq (wpc_seq ?_)))
      refine wpc_region [0, 1] (by kernel_rfl) ?_
      refine wpr_run (l₂ := []) true [0, 1] [0] [(9, .int .i64 4), (5, .bool false), (4, .int .i64 0), (2, .pointer (some ⟨g1, 0, none⟩)), (1, .int .i64 m)] [.blk g1 28 [.int .i64 4, .int .i64 n, .string (mkS (c :: r))]] [] (by kernel_rfl) (by kernel_rfl) trivial ?_
      refine wpr_nil (nx_then ?_)
      refine wpc_block ?_
      refine wpc_seq ?_
      refine wpc_region [0, 1] (by kernel_rfl) ?_
      refine wpr_run (l₂ := []) true [0, 1] [] [(10, .bool false), (9, .int .i64 4), (5, .bool false), (4, .int .i64 0), (2, .pointer (some ⟨g1, 0, none⟩)), (1, .int .i64 m)] [.blk g1 28 [.int .i64 4, .int .i64 n, .string (mkS (c :: r))]] [] (by kernel_rfl) (by kernel_rfl) trivial ?_
      refine wpr_nil (nx_then ?_)
      refine wpc_false (by kernel_rfl) ?_
      refine wpc_seq ?_
      refine wpc_region [0, 1] (by kernel_rfl) ?_
      refine wpr_run (l₂ := []) true [0, 1] [] [(20, .bool false), (9, .int .i64 4), (5, .bool false), (4, .int .i64 0), (2, .pointer (some ⟨g1, 0, none⟩)), (1, .int .i64 m)] [.blk g1 28 [.int .i64 4, .int .i64 n, .string (mkS (c :: r))]] [] (by kernel_rfl) (by kernel_rfl) trivial ?_
      refine wpr_nil (nx_then ?_)
      refine wpc_false (by kernel_rfl) ?_
      refine wpc_seq ?_
      refine wpc_region [0, 1] (by kernel_rfl) ?_
      refine wpr_run (l₂ := []) true [0, 1] [] [(25, .bool false), (9, .int .i64 4), (5, .bool false), (4, .int .i64 0), (2, .pointer (some ⟨g1, 0, none⟩)), (1, .int .i64 m)] [.blk g1 28 [.int .i64 4, .int .i64 n, .string (mkS (c :: r))]] [] (by kernel_rfl) (by kernel_rfl) trivial ?_
      refine wpr_nil (nx_then ?_)
      refine wpc_false (by kernel_rfl) ?_
      refine wpc_seq ?_
      refine wpc_region [0, 1] (by kernel_rfl) ?_
      refine wpr_run (l₂ := []) true [0, 1] [] [(40, .bool false), (9, .int .i64 4), (5, .bool false), (4, .int .i64 0), (2, .pointer (some ⟨g1, 0, none⟩)), (1, .int .i64 m)] [.blk g1 28 [.int .i64 4, .int .i64 n, .string (mkS (c :: r))]] [] (by kernel_rfl) (by kernel_rfl) trivial ?_
      refine wpr_nil (nx_then ?_)
      refine wpc_false (by kernel_rfl) ?_
      refine wpc_seq ?_
      refine wpc_region [0, 1] (by kernel_rfl) ?_
      refine wpr_run (l₂ := []) true [0, 1] [] [(56, .bool true), (5, .bool false), (4, .int .i64 0), (2, .pointer (some ⟨g1, 0, none⟩)), (1, .int .i64 m)] [.blk g1 28 [.int .i64 4, .int .i64 n, .string (mkS (c :: r))]] [] (by kernel_rfl) (by kernel_rfl) trivial ?_
      refine wpr_nil (nx_then ?_)
      refine wpc_true (by kernel_rfl) ?_
      refine wpc_region [0, 1, 2, 3, 4, 5, 6, 7, 8, 9, 10, 11, 12, 13, 14] (by kernel_rfl) ?_
      refine wpr_run (l₂ := []) true [0, 1, 2, 3, 4, 5, 6, 7, 8, 9, 10, 11, 12, 13, 14] [0] [(5, .bool false), (4, .int .i64 0)] [.blk g1 28 [.int .i64 4, .int .i64 n, .string (mkS (c :: r))]] [] (by kernel_rfl) (by kernel_rfl) trivial ?_
      refine wpr_nil (nx_block (nx_then (wpc_seq (wpc_seq ?_))))
      refine wpc_region [0, 1] (by kernel_rfl) ?_
      refine wpr_run (l₂ := []) true [0, 1] [] [(73, .bool true), (4, .int .i64 0)] [.blk g1 28 [.int .i64 4, .int .i64 n, .string (mkS (c :: r))]] [] (by kernel_rfl) (by kernel_rfl) trivial ?_
      refine wpr_nil (nx_then ?_)
      refine wpc_true (by kernel_rfl) ?_
      refine wpc_seq ?_
      refine wpc_region [0] (by kernel_rfl) ?_
      refine wpr_run (l₂ := []) true [0] [] [(4, .int .i64 2)] [.blk g1 28 [.int .i64 4, .int .i64 n, .string (mkS (c :: r))]] [] (by kernel_rfl) (by kernel_rfl) trivial ?_
      refine wpr_nil (nx_then ?_)
      refine wpc_ret ?_
      refine nx_then_ret ?_
      refine nx_end (hp' := []) (rest := [.blk g1 28 [.int .i64 4, .int .i64 n, .string (mkS (c :: r))]]) [] ((.int .i64 2)) (by kernel_rfl) (by kernel_rfl) (give [] (by kernel_rfl)) (by first | ((repeat (first | exact trivial | refine ⟨trivial, ?_⟩)); done) | assumption) ?_ (.inr rfl)
      exact ⟨by simp [rightB, *], rfl⟩
  refine fn_enter Tryz.func27 rfl 74 rfl fun w0 h0 => ?_
  refine wpc_seq ?_
  refine wpc_region [0, 1] (by kernel_rfl) ?_
  refine wpr_new (l₂ := [1]) true [0] [] (fun g1 => [(2, .pointer (some ⟨g1, 0, none⟩)), (1, .int .i64 m)]) (fun g1 => [.blk g1 28 [.int .i64 k, .int .i64 n, .string (mkS s)]]) (fun g1 => []) (fun g1 => by kernel_rfl) (fun g1 => by kernel_rfl) (fun g1 => trivial) fun g1 => ?_
  refine wpr_run (l₂ := []) true [1] [] [(4, .int .i64 0), (2, .pointer (some ⟨g1, 0, none⟩)), (1, .int .i64 m)] [.blk g1 28 [.int .i64 k, .int .i64 n, .string (mkS s)]] [] (by kernel_rfl) (by kernel_rfl) trivial ?_
  refine wpr_nil (nx_then (wpc_seq ?_))
  refine wpc_region [0] (by kernel_rfl) ?_
  refine wpr_run (l₂ := []) true [0] [] [(5, .bool false), (4, .int .i64 0), (2, .pointer (some ⟨g1, 0, none⟩)), (1, .int .i64 m)] [.blk g1 28 [.int .i64 k, .int .i64 n, .string (mkS s)]] [] (by kernel_rfl) (by kernel_rfl) trivial ?_
  refine wpr_nil (nx_then (wpc_seq (wpc_seq ?_)))
  refine wpc_region [0, 1] (by kernel_rfl) ?_
  refine wpr_run (l₂ := []) true [0, 1] [0] [(9, .int .i64 k), (5, .bool false), (4, .int .i64 0), (2, .pointer (some ⟨g1, 0, none⟩)), (1, .int .i64 m)] [.blk g1 28 [.int .i64 k, .int .i64 n, .string (mkS s)]] [] (by kernel_rfl) (by kernel_rfl) trivial ?_
  refine wpr_nil (nx_then ?_)
  refine wpc_block ?_
  refine wpc_seq ?_
  refine wpc_region [0, 1] (by kernel_rfl) ?_
  refine wpr_run (l₂ := []) true [0, 1] [] [(10, .bool (k == 0)), (9, .int .i64 k), (5, .bool false), (4, .int .i64 0), (2, .pointer (some ⟨g1, 0, none⟩)), (1, .int .i64 m)] [.blk g1 28 [.int .i64 k, .int .i64 n, .string (mkS s)]] [] (by kernel_rfl) (by kernel_rfl) trivial ?_
  refine wpr_nil (nx_then ?_)
  refine wpc_ent (ent_set 10 (.bool (k == 0)) (.bool false) (by kernel_rfl) (congrArg _ (by simp only [bne_eq_false_iff_eq, beq_eq_false_iff_ne, ne_eq]; omega))) ?_
  refine wpc_false (by kernel_rfl) ?_
  refine wpc_seq ?_
  refine wpc_region [0, 1] (by kernel_rfl) ?_
  refine wpr_run (l₂ := []) true [0, 1] [] [(20, .bool (k == 1)), (9, .int .i64 k), (5, .bool false), (4, .int .i64 0), (2, .pointer (some ⟨g1, 0, none⟩)), (1, .int .i64 m)] [.blk g1 28 [.int .i64 k, .int .i64 n, .string (mkS s)]] [] (by kernel_rfl) (by kernel_rfl) trivial ?_
  refine wpr_nil (nx_then ?_)
  refine wpc_ent (ent_set 20 (.bool (k == 1)) (.bool false) (by kernel_rfl) (congrArg _ (by simp only [bne_eq_false_iff_eq, beq_eq_false_iff_ne, ne_eq]; omega))) ?_
  refine wpc_false (by kernel_rfl) ?_
  refine wpc_seq ?_
  refine wpc_region [0, 1] (by kernel_rfl) ?_
  refine wpr_run (l₂ := []) true [0, 1] [] [(25, .bool (k == 2)), (9, .int .i64 k), (5, .bool false), (4, .int .i64 0), (2, .pointer (some ⟨g1, 0, none⟩)), (1, .int .i64 m)] [.blk g1 28 [.int .i64 k, .int .i64 n, .string (mkS s)]] [] (by kernel_rfl) (by kernel_rfl) trivial ?_
  refine wpr_nil (nx_then ?_)
  refine wpc_ent (ent_set 25 (.bool (k == 2)) (.bool false) (by kernel_rfl) (congrArg _ (by simp only [bne_eq_false_iff_eq, beq_eq_false_iff_ne, ne_eq]; omega))) ?_
  refine wpc_false (by kernel_rfl) ?_
  refine wpc_seq ?_
  refine wpc_region [0, 1] (by kernel_rfl) ?_
  refine wpr_run (l₂ := []) true [0, 1] [] [(40, .bool (k == 3)), (9, .int .i64 k), (5, .bool false), (4, .int .i64 0), (2, .pointer (some ⟨g1, 0, none⟩)), (1, .int .i64 m)] [.blk g1 28 [.int .i64 k, .int .i64 n, .string (mkS s)]] [] (by kernel_rfl) (by kernel_rfl) trivial ?_
  refine wpr_nil (nx_then ?_)
  refine wpc_ent (ent_set 40 (.bool (k == 3)) (.bool false) (by kernel_rfl) (congrArg _ (by simp only [bne_eq_false_iff_eq, beq_eq_false_iff_ne, ne_eq]; omega))) ?_
  refine wpc_false (by kernel_rfl) ?_
  refine wpc_seq ?_
  refine wpc_region [0, 1] (by kernel_rfl) ?_
  refine wpr_run (l₂ := []) true [0, 1] [] [(56, .bool (k == 4)), (5, .bool false), (4, .int .i64 0), (2, .pointer (some ⟨g1, 0, none⟩)), (1, .int .i64 m)] [.blk g1 28 [.int .i64 k, .int .i64 n, .string (mkS s)]] [] (by kernel_rfl) (by kernel_rfl) trivial ?_
  refine wpr_nil (nx_then ?_)
  refine wpc_ent (ent_set 56 (.bool (k == 4)) (.bool false) (by kernel_rfl) (congrArg _ (by simp only [bne_eq_false_iff_eq, beq_eq_false_iff_ne, ne_eq]; omega))) ?_
  refine wpc_false (by kernel_rfl) ?_
  refine wpc_skip ?_
  refine nx_block (nx_then (wpc_seq (wpc_seq ?_)))
  refine wpc_region [0, 1] (by kernel_rfl) ?_
  refine wpr_run (l₂ := []) true [0, 1] [] [(73, .bool true), (4, .int .i64 0)] [.blk g1 28 [.int .i64 k, .int .i64 n, .string (mkS s)]] [] (by kernel_rfl) (by kernel_rfl) trivial ?_
  refine wpr_nil (nx_then ?_)
  refine wpc_true (by kernel_rfl) ?_
  refine wpc_seq ?_
  refine wpc_region [0] (by kernel_rfl) ?_
  refine wpr_run (l₂ := []) true [0] [] [(4, .int .i64 2)] [.blk g1 28 [.int .i64 k, .int .i64 n, .string (mkS s)]] [] (by kernel_rfl) (by kernel_rfl) trivial ?_
  refine wpr_nil (nx_then ?_)
  refine wpc_ret ?_
  refine nx_then_ret ?_
  refine nx_end (hp' := []) (rest := [.blk g1 28 [.int .i64 k, .int .i64 n, .string (mkS s)]]) [] ((.int .i64 2)) (by kernel_rfl) (by kernel_rfl) (give [] (by kernel_rfl)) (by first | ((repeat (first | exact trivial | refine ⟨trivial, ?_⟩)); done) | assumption) ?_ (.inr rfl)
  exact ⟨by simp [rightB, *], rfl⟩
theorem Right_spec (v : V) (m : Int) (hl : v.s.length ≤ 1048576) : Does Tryz.prog 30 [valV v, .int .i64 m] [] (fun u hp' => u = .bool (rightB v m) ∧ hp' = []) := by
  obtain ⟨k, n, s⟩ := v
  unfold valV
  dsimp only at hl ⊢
  by_cases k0 : k = 0
  · subst k0
    by_cases hn : n = 0
    · subst hn
      cases s with
      | nil =>
        refine fn_enter Tryz.func30 rfl 63 rfl fun w0 h0 => ?_
        refine wpc_seq ?_
        refine wpc_region [0, 1] (by kernel_rfl) ?_
        refine wpr_new (l₂ := [1]) true [0] [] (fun g1 => [(2, .pointer (some ⟨g1, 0, none⟩)), (1, .int .i64 m)]) (fun g1 => [.blk g1 28 [.int .i64 0, .int .i64 0, .string (mkS [])]]) (fun g1 => []) (fun g1 => by kernel_rfl) (fun g1 => by kernel_rfl) (fun g1 => trivial) fun g1 => ?_
        refine wpr_run (l₂ := []) true [1] [] [(4, .bool false), (2, .pointer (some ⟨g1, 0, none⟩)), (1, .int .i64 m)] [.blk g1 28 [.int .i64 0, .int .i64 0, .string (mkS [])]] [] (by kernel_rfl) (by kernel_rfl) trivial ?_
        refine wpr_nil (nx_then (wpc_seq (wpc_seq ?_)))
        refine wpc_region [0, 1] (by kernel_rfl) ?_
        refine wpr_run (l₂ := []) true [0, 1] [0] [(6, .int .i64 0), (4, .bool false), (2, .pointer (some ⟨g1, 0, none⟩)), (1, .int .i64 m)] [.blk g1 28 [.int .i64 0, .int .i64 0, .string (mkS [])]] [] (by kernel_rfl) (by kernel_rfl) trivial ?_
        refine wpr_nil (nx_then ?_)
        refine wpc_block ?_
        refine wpc_seq ?_
        refine wpc_region [0, 1] (by kernel_rfl) ?_
        refine wpr_run (l₂ := []) true [0, 1] [] [(7, .bool true), (6, .int .i64 0), (4, .bool false), (2, .pointer (some ⟨g1, 0, none⟩)), (1, .int .i64 m)] [.blk g1 28 [.int .i64 0, .int .i64 0, .string (mkS [])]] [] (by kernel_rfl) (by kernel_rfl) trivial ?_
        refine wpr_nil (nx_then ?_)
        refine wpc_true (by kernel_rfl) ?_
        refine wpc_seq ?_
        refine wpc_region [0, 1, 2, 3, 4, 5, 6, 7, 8] (by kernel_rfl) ?_
        refine wpr_run (l₂ := []) true [0, 1, 2, 3, 4, 5, 6, 7, 8] [0, 0] [(4, .bool true)] [.blk g1 28 [.int .i64 0, .int .i64 0, .string (mkS [])]] [] (by kernel_rfl) (by kernel_rfl) trivial ?_
        refine wpr_nil (nx_then ?_)
        refine wpc_ret ?_
        refine nx_block_ret ?_
        refine nx_then_ret ?_
        refine nx_end (hp' := []) (rest := [.blk g1 28 [.int .i64 0, .int .i64 0, .string (mkS [])]]) [] ((.bool true)) (by kernel_rfl) (by kernel_rfl) (give [] (by kernel_rfl)) (by first | ((repeat (first | exact trivial | refine ⟨trivial, ?_⟩)); done) | assumption) ?_ (.inr rfl)
        exact ⟨by simp [rightB, *], rfl⟩
      | cons c r =>
        refine fn_enter Tryz.func30 rfl 63 rfl fun w0 h0 => ?_
        refine wpc_seq ?_
        refine wpc_region [0, 1] (by kernel_rfl) ?_
        refine wpr_new (l₂ := [1]) true [0] [] (fun g1 => [(2, .pointer (some ⟨g1, 0, none⟩)), (1, .int .i64 m)]) (fun g1 => [.blk g1 28 [.int .i64 0, .int .i64 0, .string (mkS (c :: r))]]) (fun g1 => []) (fun g1 => by kernel_rfl) (fun g1 => by kernel_rfl) (fun g1 => trivial) fun g1 => ?_
        refine wpr_run (l₂ := []) true [1] [] [(4, .bool false), (2, .pointer (some ⟨g1, 0, none⟩)), (1, .int .i64 m)] [.blk g1 28 [.int .i64 0, .int .i64 0, .string (mkS (c :: r))]] [] (by kernel_rfl) (by kernel_rfl) trivial ?_
        refine wpr_nil (nx_then (wpc_seq (wpc_seq ?_)))
        refine wpc_region [0, 1] (by kernel_rfl) ?_
        refine wpr_run (l₂ := []) true [0, 1] [0] [(6, .int .i64 0), (4, .bool false), (2, .pointer (some ⟨g1, 0, none⟩)), (1, .int .i64 m)] [.blk g1 28 [.int .i64 0, .int .i64 0, .string (mkS (c :: r))]] [] (by kernel_rfl) (by kernel_rfl) trivial ?_
        refine wpr_nil (nx_then ?_)
        refine wpc_block ?_
        refine wpc_seq ?_
        refine wpc_region [0, 1] (by kernel_rfl) ?_
        refine wpr_run (l₂ := []) true [0, 1] [] [(7, .bool true), (6, .int .i64 0), (4, .bool false), (2, .pointer (some ⟨g1, 0, none⟩)), (1, .int .i64 m)] [.blk g1 28 [.int .i64 0, .int .i64 0, .string (mkS (c :: r))]] [] (by kernel_rfl) (by kernel_rfl) trivial ?_
        refine wpr_nil (nx_then ?_)
        refine wpc_true (by kernel_rfl) ?_
        refine wpc_seq ?_
        refine wpc_region [0, 1, 2, 3, 4, 5, 6, 7, 8] (by kernel_rfl) ?_
        refine wpr_run (l₂ := []) true [0, 1, 2, 3, 4, 5, 6, 7, 8] [0, 0] [(4, .bool false)] [.blk g1 28 [.int .i64 0, .int .i64 0, .string (mkS (c :: r))]] [] (by kernel_rfl) (by kernel_rfl) trivial ?_
        refine wpr_nil (nx_then ?_)
        refine wpc_ret ?_
        refine nx_block_ret ?_
        refine nx_then_ret ?_
        refine nx_end (hp' := []) (rest := [.blk g1 28 [.int .i64 0, .int .i64 0, .string (mkS (c :: r))]]) [] ((.bool false)) (by kernel_rfl) (by kernel_rfl) (give [] (by kernel_rfl)) (by first | ((repeat (first | exact trivial | refine ⟨trivial, ?_⟩)); done) | assumption) ?_ (.inr rfl)
        exact ⟨by simp [rightB, *], rfl⟩
    · refine fn_enter Tryz.func30 rfl 63 rfl fun w0 h0 => ?_
      refine wpc_seq ?_
      refine wpc_region [0, 1] (by kernel_rfl) ?_
      refine wpr_new (l₂ := [1]) true [0] [] (fun g1 => [(2, .pointer (some ⟨g1, 0, none⟩)), (1, .int .i64 m)]) (fun g1 => [.blk g1 28 [.int .i64 0, .int .i64 n, .string (mkS s)]]) (fun g1 => []) (fun g1 => by kernel_rfl) (fun g1 => by kernel_rfl) (fun g1 => trivial) fun g1 => ?_
      refine wpr_run (l₂ := []) true [1] [] [(4, .bool false), (2, .pointer (some ⟨g1, 0, none⟩)), (1, .int .i64 m)] [.blk g1 28 [.int .i64 0, .int .i64 n, .string (mkS s)]] [] (by kernel_rfl) (by kernel_rfl) trivial ?_
      refine wpr_nil (nx_then (wpc_seq (wpc_seq ?_)))
      refine wpc_region [0, 1] (by kernel_rfl) ?_
      refine wpr_run (l₂ := []) true [0, 1] [0] [(6, .int .i64 0), (4, .bool false), (2, .pointer (some ⟨g1, 0, none⟩)), (1, .int .i64 m)] [.blk g1 28 [.int .i64 0, .int .i64 n, .string (mkS s)]] [] (by kernel_rfl) (by kernel_rfl) trivial ?_
      refine wpr_nil (nx_then ?_)
      refine wpc_block ?_
      refine wpc_seq ?_
      refine wpc_region [0, 1] (by kernel_rfl) ?_
      refine wpr_run (l₂ := []) true [0, 1] [] [(7, .bool true), (6, .int .i64 0), (4, .bool false), (2, .pointer (some ⟨g1, 0, none⟩)), (1, .int .i64 m)] [.blk g1 28 [.int .i64 0, .int .i64 n, .string (mkS s)]] [] (by kernel_rfl) (by kernel_rfl) trivial ?_
      refine wpr_nil (nx_then ?_)
      refine wpc_true (by kernel_rfl) ?_
      refine wpc_seq ?_
      refine wpc_region [0, 1, 2, 3, 4, 5, 6, 7, 8] (by kernel_rfl) ?_
      refine wpr_run (l₂ := [4, 5, 6, 7, 8]) true [0, 1, 2, 3] [0] [(12, .bool (n == 0)), (4, .bool false), (2, .pointer (some ⟨g1, 0, none⟩))] [.blk g1 28 [.int .i64 0, .int .i64 n, .string (mkS s)]] [] (by kernel_rfl) (by kernel_rfl) trivial ?_
      refine wpr_ent (ent_set 12 (.bool (n == 0)) (.bool false) (by kernel_rfl) (congrArg _ (by simp only [bne_eq_false_iff_eq, beq_eq_false_iff_ne, ne_eq]; omega))) ?_
      refine wpr_run (l₂ := []) true [4, 5, 6, 7, 8] [] [(4, .bool false)] [.blk g1 28 [.int .i64 0, .int .i64 n, .string (mkS s)]] [] (by kernel_rfl) (by kernel_rfl) trivial ?_
      refine wpr_nil (nx_then ?_)
      refine wpc_ret ?_
      refine nx_block_ret ?_
      refine nx_then_ret ?_
      refine nx_end (hp' := []) (rest := [.blk g1 28 [.int .i64 0, .int .i64 n, .string (mkS s)]]) [] ((.bool false)) (by kernel_rfl) (by kernel_rfl) (give [] (by kernel_rfl)) (by first | ((repeat (first | exact trivial | refine ⟨trivial, ?_⟩)); done) | assumption) ?_ (.inr rfl)
      exact ⟨by simp [rightB, *], rfl⟩
  by_cases k1 : k = 1
  · subst k1
    cases s with
    | nil =>
      refine fn_enter Tryz.func30 rfl 63 rfl fun w0 h0 => ?_
      refine wpc_seq ?_
      refine wpc_region [0, 1] (by kernel_rfl) ?_
      refine wpr_new (l₂ := [1]) true [0] [] (fun g1 => [(2, .pointer (some ⟨g1, 0, none⟩)), (1, .int .i64 m)]) (fun g1 => [.blk g1 28 [.int .i64 1, .int .i64 n, .string (mkS [])]]) (fun g1 => []) (fun g1 => by kernel_rfl) (fun g1 => by kernel_rfl) (fun g1 => trivial) fun g1 => ?_
      refine wpr_run (l₂ := []) true [1] [] [(4, .bool false), (2, .pointer (some ⟨g1, 0, none⟩)), (1, .int .i64 m)] [.blk g1 28 [.int .i64 1, .int .i64 n, .string (mkS [])]] [] (by kernel_rfl) (by kernel_rfl) trivial ?_
      refine wpr_nil (nx_then (wpc_seq (wpc_seq ?_)))
      refine wpc_region [0, 1] (by kernel_rfl) ?_
      refine wpr_run (l₂ := []) true [0, 1] [0] [(6, .int .i64 1), (4, .bool false), (2, .pointer (some ⟨g1, 0, none⟩)), (1, .int .i64 m)] [.blk g1 28 [.int .i64 1, .int .i64 n, .string (mkS [])]] [] (by kernel_rfl) (by kernel_rfl) trivial ?_
      refine wpr_nil (nx_then ?_)
      refine wpc_block ?_
      refine wpc_seq ?_
      refine wpc_region [0, 1] (by kernel_rfl) ?_
      refine wpr_run (l₂ := []) true [0, 1] [] [(7, .bool false), (6, .int .i64 1), (4, .bool false), (2, .pointer (some ⟨g1, 0, none⟩)), (1, .int .i64 m)] [.blk g1 28 [.int .i64 1, .int .i64 n, .string (mkS [])]] [] (by kernel_rfl) (by kernel_rfl) trivial ?_
      refine wpr_nil (nx_then ?_)
      refine wpc_false (by kernel_rfl) ?_
      refine wpc_seq ?_
      refine wpc_region [0, 1] (by kernel_rfl) ?_
      refine wpr_run (l₂ := []) true [0, 1] [] [(17, .bool true), (6, .int .i64 1), (4, .bool false), (2, .pointer (some ⟨g1, 0, none⟩)), (1, .int .i64 m)] [.blk g1 28 [.int .i64 1, .int .i64 n, .string (mkS [])]] [] (by kernel_rfl) (by kernel_rfl) trivial ?_
      refine wpr_nil (nx_then ?_)
      refine wpc_true (by kernel_rfl) ?_
      refine wpc_seq ?_
      refine wpc_region [0, 1, 2, 3] (by kernel_rfl) ?_
      refine wpr_run (l₂ := []) true [0, 1, 2, 3] [0] [(4, .bool true)] [.blk g1 28 [.int .i64 1, .int .i64 n, .string (mkS [])]] [] (by kernel_rfl) (by kernel_rfl) trivial ?_
      refine wpr_nil (nx_then ?_)
      refine wpc_ret ?_
      refine nx_block_ret ?_
      refine nx_then_ret ?_
      refine nx_end (hp' := []) (rest := [.blk g1 28 [.int .i64 1, .int .i64 n, .string (mkS [])]]) [] ((.bool true)) (by kernel_rfl) (by kernel_rfl) (give [] (by kernel_rfl)) (by first | ((repeat (first | exact trivial | refine ⟨trivial, ?_⟩)); done) | assumption) ?_ (.inr rfl)
      exact ⟨by simp [rightB, *], rfl⟩
    | cons c r =>
      refine fn_enter Tryz.func30 rfl 63 rfl fun w0 h0 => ?_
      refine wpc_seq ?_
      refine wpc_region [0, 1] (by kernel_rfl) ?_
      refine wpr_new (l₂ := [1]) true [0] [] (fun g1 => [(2, .pointer (some ⟨g1, 0, none⟩)), (1, .int .i64 m)]) (fun g1 => [.blk g1 28 [.int .i64 1, .int .i64 n, .string (mkS (c :: r))]]) (fun g1 => []) (fun g1 => by kernel_rfl) (fun g1 => by kernel_rfl) (fun g1 => trivial) fun g1 => ?_
      refine wpr_run (l₂ := []) true [1] [] [(4, .bool false), (2, .pointer (some ⟨g1, 0, none⟩)), (1, .int .i64 m)] [.blk g1 28 [.int .i64 1, .int .i64 n, .string (mkS (c :: r))]] [] (by kernel_rfl) (by kernel_rfl) trivial ?_
      refine wpr_nil (nx_then (wpc_seq (wpc_seq ?_)))
      refine wpc_region [0, 1] (by kernel_rfl) ?_
      refine wpr_run (l₂ := []) true [0, 1] [0] [(6, .int .i64 1), (4, .bool false), (2, .pointer (some ⟨g1, 0, none⟩)), (1, .int .i64 m)] [.blk g1 28 [.int .i64 1, .int .i64 n, .string (mkS (c :: r))]] [] (by kernel_rfl) (by kernel_rfl) trivial ?_
      refine wpr_nil (nx_then ?_)
      refine wpc_block ?_
      refine wpc_seq ?_
      refine wpc_region [0, 1] (by kernel_rfl) ?_
      refine wpr_run (l₂ := []) true [0, 1] [] [(7, .bool false), (6, .int .i64 1), (4, .bool false), (2, .pointer (some ⟨g1, 0, none⟩)), (1, .int .i64 m)] [.blk g1 28 [.int .i64 1, .int .i64 n, .string (mkS (c :: r))]] [] (by kernel_rfl) (by kernel_rfl) trivial ?_
      refine wpr_nil (nx_then ?_)
      refine wpc_false (by kernel_rfl) ?_
      refine wpc_seq ?_
      refine wpc_region [0, 1] (by kernel_rfl) ?_
      refine wpr_run (l₂ := []) true [0, 1] [] [(17, .bool true), (6, .int .i64 1), (4, .bool false), (2, .pointer (some ⟨g1, 0, none⟩)), (1, .int .i64 m)] [.blk g1 28 [.int .i64 1, .int .i64 n, .string (mkS (c :: r))]] [] (by kernel_rfl) (by kernel_rfl) trivial ?_
      refine wpr_nil (nx_then ?_)
      refine wpc_true (by kernel_rfl) ?_
      refine wpc_seq ?_
      refine wpc_region [0, 1, 2, 3] (by kernel_rfl) ?_
      refine wpr_run (l₂ := []) true [0, 1, 2, 3] [0] [(4, .bool false)] [.blk g1 28 [.int .i64 1, .int .i64 n, .string (mkS (c :: r))]] [] (by kernel_rfl) (by kernel_rfl) trivial ?_
      refine wpr_nil (nx_then ?_)
      refine wpc_ret ?_
      refine nx_block_ret ?_
      refine nx_then_ret ?_
      refine nx_end (hp' := []) (rest := [.blk g1 28 [.int .i64 1, .int .i64 n, .string (mkS (c :: r))]]) [] ((.bool false)) (by kernel_rfl) (by kernel_rfl) (give [] (by kernel_rfl)) (by first | ((repeat (first | exact trivial | refine ⟨trivial, ?_⟩)); done) | assumption) ?_ (.inr rfl)
      exact ⟨by simp [rightB, *], rfl⟩
  by_cases k2 : k = 2
  · subst k2
    cases s with
    | nil =>
      by_cases hn : n = 0
      · subst hn
        refine fn_enter Tryz.func30 rfl 63 rfl fun w0 h0 => ?_
        refine wpc_seq ?_
        refine wpc_region [0, 1] (by kernel_rfl) ?_
        refine wpr_new (l₂ := [1]) true [0] [] (fun g1 => [(2, .pointer (some ⟨g1, 0, none⟩)), (1, .int .i64 m)]) (fun g1 => [.blk g1 28 [.int .i64 2, .int .i64 0, .string (mkS [])]]) (fun g1 => []) (fun g1 => by kernel_rfl) (fun g1 => by kernel_rfl) (fun g1 => trivial) fun g1 => ?_
        refine wpr_run (l₂ := []) true [1] [] [(4, .bool false), (2, .pointer (some ⟨g1, 0, none⟩)), (1, .int .i64 m)] [.blk g1 28 [.int .i64 2, .int .i64 0, .string (mkS [])]] [] (by kernel_rfl) (by kernel_rfl) trivial ?_
        refine wpr_nil (nx_then (wpc_seq (wpc_seq ?_)))
        refine wpc_region [0, 1] (by kernel_rfl) ?_
        refine wpr_run (l₂ := []) true [0, 1] [0] [(6, .int .i64 2), (4, .bool false), (2, .pointer (some ⟨g1, 0, none⟩)), (1, .int .i64 m)] [.blk g1 28 [.int .i64 2, .int .i64 0, .string (mkS [])]] [] (by kernel_rfl) (by kernel_rfl) trivial ?_
        refine wpr_nil (nx_then ?_)
        refine wpc_block ?_
        refine wpc_seq ?_
        refine wpc_region [0, 1] (by kernel_rfl) ?_
        refine wpr_run (l₂ := []) true [0, 1] [] [(7, .bool false), (6, .int .i64 2), (4, .bool false), (2, .pointer (some ⟨g1, 0, none⟩)), (1, .int .i64 m)] [.blk g1 28 [.int .i64 2, .int .i64 0, .string (mkS [])]] [] (by kernel_rfl) (by kernel_rfl) trivial ?_
        refine wpr_nil (nx_then ?_)
        refine wpc_false (by kernel_rfl) ?_
        refine wpc_seq ?_
        refine wpc_region [0, 1] (by kernel_rfl) ?_
        refine wpr_run (l₂ := []) true [0, 1] [] [(17, .bool false), (6, .int .i64 2), (4, .bool false), (2, .pointer (some ⟨g1, 0, none⟩)), (1, .int .i64 m)] [.blk g1 28 [.int .i64 2, .int .i64 0, .string (mkS [])]] [] (by kernel_rfl) (by kernel_rfl) trivial ?_
        refine wpr_nil (nx_then ?_)
        refine wpc_false (by kernel_rfl) ?_
        refine wpc_seq ?_
        refine wpc_region [0, 1] (by kernel_rfl) ?_
        refine wpr_run (l₂ := []) true [0, 1] [] [(22, .bool true), (6, .int .i64 2), (4, .bool false), (2, .pointer (some ⟨g1, 0, none⟩)), (1, .int .i64 m)] [.blk g1 28 [.int .i64 2, .int .i64 0, .string (mkS [])]] [] (by kernel_rfl) (by kernel_rfl) trivial ?_
        refine wpr_nil (nx_then ?_)
        refine wpc_true (by kernel_rfl) ?_
        refine wpc_seq ?_
        refine wpc_region [0, 1, 2, 3, 4, 5, 6, 7, 8, 9, 10, 11, 12, 13] (by kernel_rfl) ?_
        refine wpr_run (l₂ := []) true [0, 1, 2, 3, 4, 5, 6, 7, 8, 9, 10, 11, 12, 13] [0, 0] [(4, .bool true)] [.blk g1 28 [.int .i64 2, .int .i64 0, .string (mkS [])]] [] (by kernel_rfl) (by kernel_rfl) trivial ?_
        refine wpr_nil (nx_then ?_)
        refine wpc_ret ?_
        refine nx_block_ret ?_
        refine nx_then_ret ?_
        refine nx_end (hp' := []) (rest := [.blk g1 28 [.int .i64 2, .int .i64 0, .string (mkS [])]]) [] ((.bool true)) (by kernel_rfl) (by kernel_rfl) (give [] (by kernel_rfl)) (by first | ((repeat (first | exact trivial | refine ⟨trivial, ?_⟩)); done) | assumption) ?_ (.inr rfl)
        exact ⟨by simp [rightB, *], rfl⟩
      · by_cases hn1 : n = 1
        · subst hn1
          refine fn_enter Tryz.func30 rfl 63 rfl fun w0 h0 => ?_
          refine wpc_seq ?_
          refine wpc_region [0, 1] (by kernel_rfl) ?_
          refine wpr_new (l₂ := [1]) true [0] [] (fun g1 => [(2, .pointer (some ⟨g1, 0, none⟩)), (1, .int .i64 m)]) (fun g1 => [.blk g1 28 [.int .i64 2, .int .i64 1, .string (mkS [])]]) (fun g1 => []) (fun g1 => by kernel_rfl) (fun g1 => by kernel_rfl) (fun g1 => trivial) fun g1 => ?_
          refine wpr_run (l₂ := []) true [1] [] [(4, .bool false), (2, .pointer (some ⟨g1, 0, none⟩)), (1, .int .i64 m)] [.blk g1 28 [.int .i64 2, .int .i64 1, .string (mkS [])]] [] (by kernel_rfl) (by kernel_rfl) trivial ?_
          refine wpr_nil (nx_then (wpc_seq (wpc_seq ?_)))
          refine wpc_region [0, 1] (by kernel_rfl) ?_
          refine wpr_run (l₂ := []) true [0, 1] [0] [(6, .int .i64 2), (4, .bool false), (2, .pointer (some ⟨g1, 0, none⟩)), (1, .int .i64 m)] [.blk g1 28 [.int .i64 2, .int .i64 1, .string (mkS [])]] [] (by kernel_rfl) (by kernel_rfl) trivial ?_
          refine wpr_nil (nx_then ?_)
          refine wpc_block ?_
          refine wpc_seq ?_
          refine wpc_region [0, 1] (by kernel_rfl) ?_
          refine wpr_run (l₂ := []) true [0, 1] [] [(7, .bool false), (6, .int .i64 2), (4, .bool false), (2, .pointer (some ⟨g1, 0, none⟩)), (1, .int .i64 m)] [.blk g1 28 [.int .i64 2, .int .i64 1, .string (mkS [])]] [] (by kernel_rfl) (by kernel_rfl) trivial ?_
          refine wpr_nil (nx_then ?_)
          refine wpc_false (by kernel_rfl) ?_
          refine wpc_seq ?_
          refine wpc_region [0, 1] (by kernel_rfl) ?_
          refine wpr_run (l₂ := []) true [0, 1] [] [(17, .bool false), (6, .int .i64 2), (4, .bool false), (2, .pointer (some ⟨g1, 0, none⟩)), (1, .int .i64 m)] [.blk g1 28 [.int .i64 2, .int .i64 1, .string (mkS [])]] [] (by kernel_rfl) (by kernel_rfl) trivial ?_
          refine wpr_nil (nx_then ?_)
          refine wpc_false (by kernel_rfl) ?_
          refine wpc_seq ?_
          refine wpc_region [0, 1] (by kernel_rfl) ?_
          refine wpr_run (l₂ := []) true [0, 1] [] [(22, .bool true), (6, .int .i64 2), (4, .bool false), (2, .pointer (some ⟨g1, 0, none⟩)), (1, .int .i64 m)] [.blk g1 28 [.int .i64 2, .int .i64 1, .string (mkS [])]] [] (by kernel_rfl) (by kernel_rfl) trivial ?_
          refine wpr_nil (nx_then ?_)
          refine wpc_true (by kernel_rfl) ?_
          refine wpc_seq ?_
          refine wpc_region [0, 1, 2, 3, 4, 5, 6, 7, 8, 9, 10, 11, 12, 13] (by kernel_rfl) ?_
          refine wpr_run (l₂ := []) true [0, 1, 2, 3, 4, 5, 6, 7, 8, 9, 10, 11, 12, 13] [0, 0, 0] [(4, .bool true)] [.blk g1 28 [.int .i64 2, .int .i64 1, .string (mkS [])]] [] (by kernel_rfl) (by kernel_rfl) trivial ?_
          refine wpr_nil (nx_then ?_)
          refine wpc_ret ?_
          refine nx_block_ret ?_
          refine nx_then_ret ?_
          refine nx_end (hp' := []) (rest := [.blk g1 28 [.int .i64 2, .int .i64 1, .string (mkS [])]]) [] ((.bool true)) (by kernel_rfl) (by kernel_rfl) (give [] (by kernel_rfl)) (by first | ((repeat (first | exact trivial | refine ⟨trivial, ?_⟩)); done) | assumption) ?_ (.inr rfl)
          exact ⟨by simp [rightB, *], rfl⟩
        · refine fn_enter Tryz.func30 rfl 63 rfl fun w0 h0 => ?_
          refine wpc_seq ?_
          refine wpc_region [0, 1] (by kernel_rfl) ?_
          refine wpr_new (l₂ := [1]) true [0] [] (fun g1 => [(2, .pointer (some ⟨g1, 0, none⟩)), (1, .int .i64 m)]) (fun g1 => [.blk g1 28 [.int .i64 2, .int .i64 n, .string (mkS [])]]) (fun g1 => []) (fun g1 => by kernel_rfl) (fun g1 => by kernel_rfl) (fun g1 => trivial) fun g1 => ?_
          refine wpr_run (l₂ := []) true [1] [] [(4, .bool false), (2, .pointer (some ⟨g1, 0, none⟩)), (1, .int .i64 m)] [.blk g1 28 [.int .i64 2, .int .i64 n, .string (mkS [])]] [] (by kernel_rfl) (by kernel_rfl) trivial ?_
          refine wpr_nil (nx_then (wpc_seq (wpc_seq ?_)))
          refine wpc_region [0, 1] (by kernel_rfl) ?_
          refine wpr_run (l₂ := []) true [0, 1] [0] [(6, .int .i64 2), (4, .bool false), (2, .pointer (some ⟨g1, 0, none⟩)), (1, .int .i64 m)] [.blk g1 28 [.int .i64 2, .int .i64 n, .string (mkS [])]] [] (by kernel_rfl) (by kernel_rfl) trivial ?_
          refine wpr_nil (nx_then ?_)
          refine wpc_block ?_
          refine wpc_seq ?_
          refine wpc_region [0, 1] (by kernel_rfl) ?_
          refine wpr_run (l₂ := []) true [0, 1] [] [(7, .bool false), (6, .int .i64 2), (4, .bool false), (2, .pointer (some ⟨g1, 0, none⟩)), (1, .int .i64 m)] [.blk g1 28 [.int .i64 2, .int .i64 n, .string (mkS [])]] [] (by kernel_rfl) (by kernel_rfl) trivial ?_
          refine wpr_nil (nx_then ?_)
          refine wpc_false (by kernel_rfl) ?_
          refine wpc_seq ?_
          refine wpc_region [0, 1] (by kernel_rfl) ?_
          refine wpr_run (l₂ := []) true [0, 1] [] [(17, .bool false), (6, .int .i64 2), (4, .bool false), (2, .pointer (some ⟨g1, 0, none⟩)), (1, .int .i64 m)] [.blk g1 28 [.int .i64 2, .int .i64 n, .string (mkS [])]] [] (by kernel_rfl) (by kernel_rfl) trivial ?_
          refine wpr_nil (nx_then ?_)
          refine wpc_false (by kernel_rfl) ?_
          refine wpc_seq ?_
          refine wpc_region [0, 1] (by kernel_rfl) ?_
          refine wpr_run (l₂ := []) true [0, 1] [] [(22, .bool true), (6, .int .i64 2), (4, .bool false), (2, .pointer (some ⟨g1, 0, none⟩)), (1, .int .i64 m)] [.blk g1 28 [.int .i64 2, .int .i64 n, .string (mkS [])]] [] (by kernel_rfl) (by kernel_rfl) trivial ?_
          refine wpr_nil (nx_then ?_)
          refine wpc_true (by kernel_rfl) ?_
          refine wpc_seq ?_
          refine wpc_region [0, 1, 2, 3, 4, 5, 6, 7, 8, 9, 10, 11, 12, 13] (by kernel_rfl) ?_
          refine wpr_run (l₂ := [8, 9, 10, 11, 12, 13]) true [0, 1, 2, 3, 4, 5, 6, 7] [0, 0] [(31, .bool (n == 0)), (27, .bool true), (4, .bool false), (2, .pointer (some ⟨g1, 0, none⟩))] [.blk g1 28 [.int .i64 2, .int .i64 n, .string (mkS [])]] [] (by kernel_rfl) (by kernel_rfl) trivial ?_
          refine wpr_ent (ent_set 31 (.bool (n == 0)) (.bool false) (by kernel_rfl) (congrArg _ (by simp only [bne_eq_false_iff_eq, beq_eq_false_iff_ne, ne_eq]; omega))) ?_
          refine wpr_run (l₂ := []) true [8, 9, 10, 11, 12, 13] [0] [(4, .bool (n == 1))] [.blk g1 28 [.int .i64 2, .int .i64 n, .string (mkS [])]] [] (by kernel_rfl) (by kernel_rfl) trivial ?_
          refine wpr_nil (nx_then ?_)
          refine wpc_ret ?_
          refine nx_block_ret ?_
          refine nx_then_ret ?_
          refine nx_end (hp' := []) (rest := [.blk g1 28 [.int .i64 2, .int .i64 n, .string (mkS [])]]) [] ((.bool (n == 1))) (by kernel_rfl) (by kernel_rfl) (give [] (by kernel_rfl)) (by first | ((repeat (first | exact trivial | refine ⟨trivial, ?_⟩)); done) | assumption) ?_ (.inr rfl)
          exact ⟨by simp [rightB, *], rfl⟩
    | cons c r =>
      refine fn_enter Tryz.func30 rfl 63 rfl fun w0 h0 => ?_
      refine wpc_seq ?_
      refine wpc_region [0, 1] (by kernel_rfl) ?_
      refine wpr_new (l₂ := [1]) true [0] [] (fun g1 => [(2, .pointer (some ⟨g1, 0, none⟩)), (1, .int .i64 m)]) (fun g1 => [.blk g1 28 [.int .i64 2, .int .i64 n, .string (mkS (c :: r))]]) (fun g1 => []) (fun g1 => by kernel_rfl) (fun g1 => by kernel_rfl) (fun g1 => trivial) fun g1 => ?_
      refine wpr_run (l₂ := []) true [1] [] [(4, .bool false), (2, .pointer (some ⟨g1, 0, none⟩)), (1, .int .i64 m)] [.blk g1 28 [.int .i64 2, .int .i64 n, .string (mkS (c :: r))]] [] (by kernel_rfl) (by kernel_rfl) trivial ?_
      refine wpr_nil (nx_then (wpc_seq (wpc_seq ?_)))
      refine wpc_region [0, 1] (by kernel_rfl) ?_
      refine wpr_run (l₂ := []) true [0, 1] [0] [(6, .int .i64 2), (4, .bool false), (2, .pointer (some ⟨g1, 0, none⟩)), (1, .int .i64 m)] [.blk g1 28 [.int .i64 2, .int .i64 n, .string (mkS (c :: r))]] [] (by kernel_rfl) (by kernel_rfl) trivial ?_
      refine wpr_nil (nx_then ?_)
      refine wpc_block ?_
      refine wpc_seq ?_
      refine wpc_region [0, 1] (by kernel_rfl) ?_
      refine wpr_run (l₂ := []) true [0, 1] [] [(7, .bool false), (6, .int .i64 2), (4, .bool false), (2, .pointer (some ⟨g1, 0, none⟩)), (1, .int .i64 m)] [.blk g1 28 [.int .i64 2, .int .i64 n, .string (mkS (c :: r))]] [] (by kernel_rfl) (by kernel_rfl) trivial ?_
      refine wpr_nil (nx_then ?_)
      refine wpc_false (by kernel_rfl) ?_
      refine wpc_seq ?_
      refine wpc_region [0, 1] (by kernel_rfl) ?_
      refine wpr_run (l₂ := []) true [0, 1] [] [(17, .bool false), (6, .int .i64 2), (4, .bool false), (2, .pointer (some ⟨g1, 0, none⟩)), (1, .int .i64 m)] [.blk g1 28 [.int .i64 2, .int .i64 n, .string (mkS (c :: r))]] [] (by kernel_rfl) (by kernel_rfl) trivial ?_
      refine wpr_nil (nx_then ?_)
      refine wpc_false (by kernel_rfl) ?_
      refine wpc_seq ?_
      refine wpc_region [0, 1] (by kernel_rfl) ?_
      refine wpr_run (l₂ := []) true [0, 1] [] [(22, .bool true), (6, .int .i64 2), (4, .bool false), (2, .pointer (some ⟨g1, 0, none⟩)), (1, .int .i64 m)] [.blk g1 28 [.int .i64 2, .int .i64 n, .string (mkS (c :: r))]] [] (by kernel_rfl) (by kernel_rfl) trivial ?_
      refine wpr_nil (nx_then ?_)
      refine wpc_true (by kernel_rfl) ?_
      refine wpc_seq ?_
      refine wpc_region [0, 1, 2, 3, 4, 5, 6, 7, 8, 9, 10, 11, 12, 13] (by kernel_rfl) ?_
      refine wpr_run (l₂ := []) true [0, 1, 2, 3, 4, 5, 6, 7, 8, 9, 10, 11, 12, 13] [0] [(4, .bool false)] [.blk g1 28 [.int .i64 2, .int .i64 n, .string (mkS (c :: r))]] [] (by kernel_rfl) (by kernel_rfl) trivial ?_
      refine wpr_nil (nx_then ?_)
      refine wpc_ret ?_
      refine nx_block_ret ?_
      refine nx_then_ret ?_
      refine nx_end (hp' := []) (rest := [.blk g1 28 [.int .i64 2, .int .i64 n, .string (mkS (c :: r))]]) [] ((.bool false)) (by kernel_rfl) (by kernel_rfl) (give [] (by kernel_rfl)) (by first | ((repeat (first | exact trivial | refine ⟨trivial, ?_⟩)); done) | assumption) ?_ (.inr rfl)
      exact ⟨by simp [rightB, *], rfl⟩
  by_cases k3 : k = 3
  · subst k3
    by_cases hn : n = 0
    · subst hn
      cases hp : plainB s with
      | true =>
        refine fn_enter Tryz.func30 rfl 63 rfl fun w0 h0 => ?_
        refine wpc_seq ?_
        refine wpc_region [0, 1] (by kernel_rfl) ?_
        refine wpr_new (l₂ := [1]) true [0] [] (fun g1 => [(2, .pointer (some ⟨g1, 0, none⟩)), (1, .int .i64 m)]) (fun g1 => [.blk g1 28 [.int .i64 3, .int .i64 0, .string (mkS s)]]) (fun g1 => []) (fun g1 => by kernel_rfl) (fun g1 => by kernel_rfl) (fun g1 => trivial) fun g1 => ?_
        refine wpr_run (l₂ := []) true [1] [] [(4, .bool false), (2, .pointer (some ⟨g1, 0, none⟩)), (1, .int .i64 m)] [.blk g1 28 [.int .i64 3, .int .i64 0, .string (mkS s)]] [] (by kernel_rfl) (by kernel_rfl) trivial ?_
        refine wpr_nil (nx_then (wpc_seq (wpc_seq ?_)))
        refine wpc_region [0, 1] (by kernel_rfl) ?_
        refine wpr_run (l₂ := []) true [0, 1] [0] [(6, .int .i64 3), (4, .bool false), (2, .pointer (some ⟨g1, 0, none⟩)), (1, .int .i64 m)] [.blk g1 28 [.int .i64 3, .int .i64 0, .string (mkS s)]] [] (by kernel_rfl) (by kernel_rfl) trivial ?_
        refine wpr_nil (nx_then ?_)
        refine wpc_block ?_
        refine wpc_seq ?_
        refine wpc_region [0, 1] (by kernel_rfl) ?_
        refine wpr_run (l₂ := []) true [0, 1] [] [(7, .bool false), (6, .int .i64 3), (4, .bool false), (2, .pointer (some ⟨g1, 0, none⟩)), (1, .int .i64 m)] [.blk g1 28 [.int .i64 3, .int .i64 0, .string (mkS s)]] [] (by kernel_rfl) (by kernel_rfl) trivial ?_
        refine wpr_nil (nx_then ?_)
        refine wpc_false (by kernel_rfl) ?_
        refine wpc_seq ?_
        refine wpc_region [0, 1] (by kernel_rfl) ?_
        refine wpr_run (l₂ := []) true [0, 1] [] [(17, .bool false), (6, .int .i64 3), (4, .bool false), (2, .pointer (some ⟨g1, 0, none⟩)), (1, .int .i64 m)] [.blk g1 28 [.int .i64 3, .int .i64 0, .string (mkS s)]] [] (by kernel_rfl) (by kernel_rfl) trivial ?_
        refine wpr_nil (nx_then ?_)
        refine wpc_false (by kernel_rfl) ?_
        refine wpc_seq ?_
        refine wpc_region [0, 1] (by kernel_rfl) ?_
        refine wpr_run (l₂ := []) true [0, 1] [] [(22, .bool false), (6, .int .i64 3), (4, .bool false), (2, .pointer (some ⟨g1, 0, none⟩)), (1, .int .i64 m)] [.blk g1 28 [.int .i64 3, .int .i64 0, .string (mkS s)]] [] (by kernel_rfl) (by kernel_rfl) trivial ?_
        refine wpr_nil (nx_then ?_)
        refine wpc_false (by kernel_rfl) ?_
        refine wpc_seq ?_
        refine wpc_region [0, 1] (by kernel_rfl) ?_
        refine wpr_run (l₂ := []) true [0, 1] [] [(37, .bool true), (6, .int .i64 3), (4, .bool false), (2, .pointer (some ⟨g1, 0, none⟩)), (1, .int .i64 m)] [.blk g1 28 [.int .i64 3, .int .i64 0, .string (mkS s)]] [] (by kernel_rfl) (by kernel_rfl) trivial ?_
        refine wpr_nil (nx_then ?_)
        refine wpc_true (by kernel_rfl) ?_
        refine wpc_seq ?_
        refine wpc_region [0, 1, 2, 3, 4, 5, 6, 7, 8] (by kernel_rfl) ?_
        refine wpr_run (l₂ := [6, 7, 8]) true [0, 1, 2, 3, 4, 5] [0, 0] [(44, .string (mkS s)), (42, .bool true), (4, .bool false)] [.blk g1 28 [.int .i64 3, .int .i64 0, .string (mkS s)]] [] (by kernel_rfl) (by kernel_rfl) trivial ?_
        refine wpr_call (dst := some 45) (rest := [.blk g1 28 [.int .i64 3, .int .i64 0, .string (mkS s)]]) (by kernel_rfl) (rPlain_spec s hl) (give [] (by kernel_rfl)) ?_
        rintro v _ ⟨rfl, rfl⟩
        rw [hp]
        refine wpr_run (l₂ := []) true [7, 8] [] [(4, .bool true)] [.blk g1 28 [.int .i64 3, .int .i64 0, .string (mkS s)]] [] (by kernel_rfl) (by kernel_rfl) trivial ?_
        refine wpr_nil (nx_then ?_)
        refine wpc_ret ?_
        refine nx_block_ret ?_
        refine nx_then_ret ?_
        refine nx_end (hp' := []) (rest := [.blk g1 28 [.int .i64 3, .int .i64 0, .string (mkS s)]]) [] ((.bool true)) (by kernel_rfl) (by kernel_rfl) (give [] (by kernel_rfl)) (by first | ((repeat (first | exact trivial | refine ⟨trivial, ?_⟩)); done) | assumption) ?_ (.inr rfl)
        exact ⟨by simp [rightB, *], rfl⟩
      | false =>
        refine fn_enter Tryz.func30 rfl 63 rfl fun w0 h0 => ?_
        refine wpc_seq ?_
        refine wpc_region [0, 1] (by kernel_rfl) ?_
        refine wpr_new (l₂ := [1]) true [0] [] (fun g1 => [(2, .pointer (some ⟨g1, 0, none⟩)), (1, .int .i64 m)]) (fun g1 => [.blk g1 28 [.int .i64 3, .int .i64 0, .string (mkS s)]]) (fun g1 => []) (fun g1 => by kernel_rfl) (fun g1 => by kernel_rfl) (fun g1 => trivial) fun g1 => ?_
        refine wpr_run (l₂ := []) true [1] [] [(4, .bool false), (2, .pointer (some ⟨g1, 0, none⟩)), (1, .int .i64 m)] [.blk g1 28 [.int .i64 3, .int .i64 0, .string (mkS s)]] [] (by kernel_rfl) (by kernel_rfl) trivial ?_
        refine wpr_nil (nx_then (wpc_seq (wpc_seq ?_)))
        refine wpc_region [0, 1] (by kernel_rfl) ?_
        refine wpr_run (l₂ := []) true [0, 1] [0] [(6, .int .i64 3), (4, .bool false), (2, .pointer (some ⟨g1, 0, none⟩)), (1, .int .i64 m)] [.blk g1 28 [.int .i64 3, .int .i64 0, .string (mkS s)]] [] (by kernel_rfl) (by kernel_rfl) trivial ?_
        refine wpr_nil (nx_then ?_)
        refine wpc_block ?_
        refine wpc_seq ?_
        refine wpc_region [0, 1] (by kernel_rfl) ?_
        refine wpr_run (l₂ := []) true [0, 1] [] [(7, .bool false), (6, .int .i64 3), (4, .bool false), (2, .pointer (some ⟨g1, 0, none⟩)), (1, .int .i64 m)] [.blk g1 28 [.int .i64 3, .int .i64 0, .string (mkS s)]] [] (by kernel_rfl) (by kernel_rfl) trivial ?_
        refine wpr_nil (nx_then ?_)
        refine wpc_false (by kernel_rfl) ?_
        refine wpc_seq ?_
        refine wpc_region [0, 1] (by kernel_rfl) ?_
        refine wpr_run (l₂ := []) true [0, 1] [] [(17, .bool false), (6, .int .i64 3), (4, .bool false), (2, .pointer (some ⟨g1, 0, none⟩)), (1, .int .i64 m)] [.blk g1 28 [.int .i64 3, .int .i64 0, .string (mkS s)]] [] (by kernel_rfl) (by kernel_rfl) trivial ?_
        refine wpr_nil (nx_then ?_)
        refine wpc_false (by kernel_rfl) ?_
        refine wpc_seq ?_
        refine wpc_region [0, 1] (by kernel_rfl) ?_
        refine wpr_run (l₂ := []) true [0, 1] [] [(22, .bool false), (6, .int .i64 3), (4, .bool false), (2, .pointer (some ⟨g1, 0, none⟩)), (1, .int .i64 m)] [.blk g1 28 [.int .i64 3, .int .i64 0, .string (mkS s)]] [] (by kernel_rfl) (by kernel_rfl) trivial ?_
        refine wpr_nil (nx_then ?_)
        refine wpc_false (by kernel_rfl) ?_
        refine wpc_seq ?_
        refine wpc_region [0, 1] (by kernel_rfl) ?_
        refine wpr_run (l₂ := []) true [0, 1] [] [(37, .bool true), (6, .int .i64 3), (4, .bool false), (2, .pointer (some ⟨g1, 0, none⟩)), (1, .int .i64 m)] [.blk g1 28 [.int .i64 3, .int .i64 0, .string (mkS s)]] [] (by kernel_rfl) (by kernel_rfl) trivial ?_
        refine wpr_nil (nx_then ?_)
        refine wpc_true (by kernel_rfl) ?_
        refine wpc_seq ?_
        refine wpc_region [0, 1, 2, 3, 4, 5, 6, 7, 8] (by kernel_rfl) ?_
        refine wpr_run (l₂ := [6, 7, 8]) true [0, 1, 2, 3, 4, 5] [0, 0] [(44, .string (mkS s)), (42, .bool true), (4, .bool false)] [.blk g1 28 [.int .i64 3, .int .i64 0, .string (mkS s)]] [] (by kernel_rfl) (by kernel_rfl) trivial ?_
        refine wpr_call (dst := some 45) (rest := [.blk g1 28 [.int .i64 3, .int .i64 0, .string (mkS s)]]) (by kernel_rfl) (rPlain_spec s hl) (give [] (by kernel_rfl)) ?_
        rintro v _ ⟨rfl, rfl⟩
        rw [hp]
        refine wpr_run (l₂ := []) true [7, 8] [] [(4, .bool false)] [.blk g1 28 [.int .i64 3, .int .i64 0, .string (mkS s)]] [] (by kernel_rfl) (by kernel_rfl) trivial ?_
        refine wpr_nil (nx_then ?_)
        refine wpc_ret ?_
        refine nx_block_ret ?_
        refine nx_then_ret ?_
        refine nx_end (hp' := []) (rest := [.blk g1 28 [.int .i64 3, .int .i64 0, .string (mkS s)]]) [] ((.bool false)) (by kernel_rfl) (by kernel_rfl) (give [] (by kernel_rfl)) (by first | ((repeat (first | exact trivial | refine ⟨trivial, ?_⟩)); done) | assumption) ?_ (.inr rfl)
        exact ⟨by simp [rightB, *], rfl⟩
    · refine fn_enter Tryz.func30 rfl 63 rfl fun w0 h0 => ?_
      refine wpc_seq ?_
      refine wpc_region [0, 1] (by kernel_rfl) ?_
      refine wpr_new (l₂ := [1]) true [0] [] (fun g1 => [(2, .pointer (some ⟨g1, 0, none⟩)), (1, .int .i64 m)]) (fun g1 => [.blk g1 28 [.int .i64 3, .int .i64 n, .string (mkS s)]]) (fun g1 => []) (fun g1 => by kernel_rfl) (fun g1 => by kernel_rfl) (fun g1 => trivial) fun g1 => ?_
      refine wpr_run (l₂ := []) true [1] [] [(4, .bool false), (2, .pointer (some ⟨g1, 0, none⟩)), (1, .int .i64 m)] [.blk g1 28 [.int .i64 3, .int .i64 n, .string (mkS s)]] [] (by kernel_rfl) (by kernel_rfl) trivial ?_
      refine wpr_nil (nx_then (wpc_seq (wpc_seq ?_)))
      refine wpc_region [0, 1] (by kernel_rfl) ?_
      refine wpr_run (l₂ := []) true [0, 1] [0] [(6, .int .i64 3), (4, .bool false), (2, .pointer (some ⟨g1, 0, none⟩)), (1, .int .i64 m)] [.blk g1 28 [.int .i64 3, .int .i64 n, .string (mkS s)]] [] (by kernel_rfl) (by kernel_rfl) trivial ?_
      refine wpr_nil (nx_then ?_)
      refine wpc_block ?_
      refine wpc_seq ?_
      refine wpc_region [0, 1] (by kernel_rfl) ?_
      refine wpr_run (l₂ := []) true [0, 1] [] [(7, .bool false), (6, .int .i64 3), (4, .bool false), (2, .pointer (some ⟨g1, 0, none⟩)), (1, .int .i64 m)] [.blk g1 28 [.int .i64 3, .int .i64 n, .string (mkS s)]] [] (by kernel_rfl) (by kernel_rfl) trivial ?_
      refine wpr_nil (nx_then ?_)
      refine wpc_false (by kernel_rfl) ?_
      refine wpc_seq ?_
      refine wpc_region [0, 1] (by kernel_rfl) ?_
      refine wpr_run (l₂ := []) true [0, 1] [] [(17, .bool false), (6, .int .i64 3), (4, .bool false), (2, .pointer (some ⟨g1, 0, none⟩)), (1, .int .i64 m)] [.blk g1 28 [.int .i64 3, .int .i64 n, .string (mkS s)]] [] (by kernel_rfl) (by kernel_rfl) trivial ?_
      refine wpr_nil (nx_then ?_)
      refine wpc_false (by kernel_rfl) ?_
      refine wpc_seq ?_
      refine wpc_region [0, 1] (by kernel_rfl) ?_
      refine wpr_run (l₂ := []) true [0, 1] [] [(22, .bool false), (6, .int .i64 3), (4, .bool false), (2, .pointer (some ⟨g1, 0, none⟩)), (1, .int .i64 m)] [.blk g1 28 [.int .i64 3, .int .i64 n, .string (mkS s)]] [] (by kernel_rfl) (by kernel_rfl) trivial ?_
      refine wpr_nil (nx_then ?_)
      refine wpc_false (by kernel_rfl) ?_
      refine wpc_seq ?_
      refine wpc_region [0, 1] (by kernel_rfl) ?_
      refine wpr_run (l₂ := []) true [0, 1] [] [(37, .bool true), (6, .int .i64 3), (4, .bool false), (2, .pointer (some ⟨g1, 0, none⟩)), (1, .int .i64 m)] [.blk g1 28 [.int .i64 3, .int .i64 n, .string (mkS s)]] [] (by kernel_rfl) (by kernel_rfl) trivial ?_
      refine wpr_nil (nx_then ?_)
      refine wpc_true (by kernel_rfl) ?_
      refine wpc_seq ?_
      refine wpc_region [0, 1, 2, 3, 4, 5, 6, 7, 8] (by kernel_rfl) ?_
      refine wpr_run (l₂ := [4, 5, 6, 7, 8]) true [0, 1, 2, 3] [0] [(42, .bool (n == 0)), (4, .bool false), (2, .pointer (some ⟨g1, 0, none⟩))] [.blk g1 28 [.int .i64 3, .int .i64 n, .string (mkS s)]] [] (by kernel_rfl) (by kernel_rfl) trivial ?_
      refine wpr_ent (ent_set 42 (.bool (n == 0)) (.bool false) (by kernel_rfl) (congrArg _ (by simp only [bne_eq_false_iff_eq, beq_eq_false_iff_ne, ne_eq]; omega))) ?_
      refine wpr_run (l₂ := []) true [4, 5, 6, 7, 8] [] [(4, .bool false)] [.blk g1 28 [.int .i64 3, .int .i64 n, .string (mkS s)]] [] (by kernel_rfl) (by kernel_rfl) trivial ?_
      refine wpr_nil (nx_then ?_)
      refine wpc_ret ?_
      refine nx_block_ret ?_
      refine nx_then_ret ?_
      refine nx_end (hp' := []) (rest := [.blk g1 28 [.int .i64 3, .int .i64 n, .string (mkS s)]]) [] ((.bool false)) (by kernel_rfl) (by kernel_rfl) (give [] (by kernel_rfl)) (by first | ((repeat (first | exact trivial | refine ⟨trivial, ?_⟩)); done) | assumption) ?_ (.inr rfl)
      exact ⟨by simp [rightB, *], rfl⟩
  by_cases k4 : k = 4
  · subst k4
    cases s with
    | nil =>
      by_cases h0 : 0 ≤ n
      · by_cases hm : n < m
        · refine fn_enter Tryz.func30 rfl 63 rfl fun w0 h0 => ?_
          refine wpc_seq ?_
          refine wpc_region [0, 1] (by kernel_rfl) ?_
          refine wpr_new (l₂ := [1]) true [0] [] (fun g1 => [(2, .pointer (some ⟨g1, 0, none⟩)), (1, .int .i64 m)]) (fun g1 => [.blk g1 28 [.int .i64 4, .int .i64 n, .string (mkS [])]]) (fun g1 => []) (fun g1 => by kernel_rfl) (fun g1 => by kernel_rfl) (fun g1 => trivial) fun g1 => ?_
          refine wpr_run (l₂ := []) true [1] [] [(4, .bool false), (2, .pointer (some ⟨g1, 0, none⟩)), (1, .int .i64 m)] [.blk g1 28 [.int .i64 4, .int .i64 n, .string (mkS [])]] [] (by kernel_rfl) (by kernel_rfl) trivial ?_
          refine wpr_nil (nx_then (wpc_seq (wpc_seq ?_)))
          refine wpc_region [0, 1] (by kernel_rfl) ?_
          refine wpr_run (l₂ := []) true [0, 1] [0] [(6, .int .i64 4), (4, .bool false), (2, .pointer (some ⟨g1, 0, none⟩)), (1, .int .i64 m)] [.blk g1 28 [.int .i64 4, .int .i64 n, .string (mkS [])]] [] (by kernel_rfl) (by kernel_rfl) trivial ?_
          refine wpr_nil (nx_then ?_)
          refine wpc_block ?_
          refine wpc_seq ?_
          refine wpc_region [0, 1] (by kernel_rfl) ?_
          refine wpr_run (l₂ := []) true [0, 1] [] [(7, .bool false), (6, .int .i64 4), (4, .bool false), (2, .pointer (some ⟨g1, 0, none⟩)), (1, .int .i64 m)] [.blk g1 28 [.int .i64 4, .int .i64 n, .string (mkS [])]] [] (by kernel_rfl) (by kernel_rfl) trivial ?_
          refine wpr_nil (nx_then ?_)
          refine wpc_false (by kernel_rfl) ?_
          refine wpc_seq ?_
          refine wpc_region [0, 1] (by kernel_rfl) ?_
          refine wpr_run (l₂ := []) true [0, 1] [] [(17, .bool false), (6, .int .i64 4), (4, .bool false), (2, .pointer (some ⟨g1, 0, none⟩)), (1, .int .i64 m)] [.blk g1 28 [.int .i64 4, .int .i64 n, .string (mkS [])]] [] (by kernel_rfl) (by kernel_rfl) trivial ?_
          refine wpr_nil (nx_then ?_)
          refine wpc_false (by kernel_rfl) ?_
          refine wpc_seq ?_
          refine wpc_region [0, 1] (by kernel_rfl) ?_
          refine wpr_run (l₂ := []) true [0, 1] [] [(22, .bool false), (6, .int .i64 4), (4, .bool false), (2, .pointer (some ⟨g1, 0, none⟩)), (1, .int .i64 m)] [.blk g1 28 [.int .i64 4, .int .i64 n, .string (mkS [])]] [] (by kernel_rfl) (by kernel_rfl) trivial ?_
          refine wpr_nil (nx_then ?_)
          refine wpc_false (by kernel_rfl) ?_
          refine wpc_seq ?_
          refine wpc_region [0, 1] (by kernel_rfl) ?_
          refine wpr_run (l₂ := []) true [0, 1] [] [(37, .bool false), (6, .int .i64 4), (4, .bool false), (2, .pointer (some ⟨g1, 0, none⟩)), (1, .int .i64 m)] [.blk g1 28 [.int .i64 4, .int .i64 n, .string (mkS [])]] [] (by kernel_rfl) (by kernel_rfl) trivial ?_
          refine wpr_nil (nx_then ?_)
          refine wpc_false (by kernel_rfl) ?_
          refine wpc_seq ?_
          refine wpc_region [0, 1] (by kernel_rfl) ?_
          refine wpr_run (l₂ := []) true [0, 1] [] [(47, .bool true), (4, .bool false), (2, .pointer (some ⟨g1, 0, none⟩)), (1, .int .i64 m)] [.blk g1 28 [.int .i64 4, .int .i64 n, .string (mkS [])]] [] (by kernel_rfl) (by kernel_rfl) trivial ?_
          refine wpr_nil (nx_then ?_)
          refine wpc_true (by kernel_rfl) ?_
          refine wpc_seq ?_
          refine wpc_region [0, 1, 2, 3, 4, 5, 6, 7, 8, 9, 10, 11, 12, 13, 14] (by kernel_rfl) ?_
          refine wpr_run (l₂ := [9, 10, 11, 12, 13, 14]) true [0, 1, 2, 3, 4, 5, 6, 7, 8] [0, 0] [(57, .bool (decide (n ≥ 0))), (4, .bool false), (2, .pointer (some ⟨g1, 0, none⟩)), (1, .int .i64 m)] [.blk g1 28 [.int .i64 4, .int .i64 n, .string (mkS [])]] [] (by kernel_rfl) (by kernel_rfl) trivial ?_
          refine wpr_ent (ent_set 57 (.bool (decide (n ≥ 0))) (.bool true) (by kernel_rfl) (congrArg _ (decide_eq_true (by omega)))) ?_
          refine wpr_run (l₂ := []) true [9, 10, 11, 12, 13, 14] [0] [(4, .bool (decide (n < m)))] [.blk g1 28 [.int .i64 4, .int .i64 n, .string (mkS [])]] [] (by kernel_rfl) (by kernel_rfl) trivial ?_
          refine wpr_nil (nx_then ?_)
          refine wpc_ret ?_
          refine nx_block_ret ?_
          refine nx_then_ret ?_
          refine nx_end (hp' := []) (rest := [.blk g1 28 [.int .i64 4, .int .i64 n, .string (mkS [])]]) [] ((.bool (decide (n < m)))) (by kernel_rfl) (by kernel_rfl) (give [] (by kernel_rfl)) (by first | ((repeat (first | exact trivial | refine ⟨trivial, ?_⟩)); done) | assumption) ?_ (.inr rfl)
          exact ⟨by simp [rightB, *], rfl⟩
        · refine fn_enter Tryz.func30 rfl 63 rfl fun w0 h0 => ?_
          refine wpc_seq ?_
          refine wpc_region [0, 1] (by kernel_rfl) ?_
          refine wpr_new (l₂ := [1]) true [0] [] (fun g1 => [(2, .pointer (some ⟨g1, 0, none⟩)), (1, .int .i64 m)]) (fun g1 => [.blk g1 28 [.int .i64 4, .int .i64 n, .string (mkS [])]]) (fun g1 => []) (fun g1 => by kernel_rfl) (fun g1 => by kernel_rfl) (fun g1 => trivial) fun g1 => ?_
          refine wpr_run (l₂ := []) true [1] [] [(4, .bool false), (2, .pointer (some ⟨g1, 0, none⟩)), (1, .int .i64 m)] [.blk g1 28 [.int .i64 4, .int .i64 n, .string (mkS [])]] [] (by kernel_rfl) (by kernel_rfl) trivial ?_
          refine wpr_nil (nx_then (wpc_seq (wpc_seq ?_)))
          refine wpc_region [0, 1] (by kernel_rfl) ?_
          refine wpr_run (l₂ := []) true [0, 1] [0] [(6, .int .i64 4), (4, .bool false), (2, .pointer (some ⟨g1, 0, none⟩)), (1, .int .i64 m)] [.blk g1 28 [.int .i64 4, .int .i64 n, .string (mkS [])]] [] (by kernel_rfl) (by kernel_rfl) trivial ?_
          refine wpr_nil (nx_then ?_)
          refine wpc_block ?_
          refine wpc_seq ?_
          refine wpc_region [0, 1] (by kernel_rfl) ?_
          refine wpr_run (l₂ := []) true [0, 1] [] [(7, .bool false), (6, .int .i64 4), (4, .bool false), (2, .pointer (some ⟨g1, 0, none⟩)), (1, .int .i64 m)] [.blk g1 28 [.int .i64 4, .int .i64 n, .string (mkS [])]] [] (by kernel_rfl) (by kernel_rfl) trivial ?_
          refine wpr_nil (nx_then ?_)
          refine wpc_false (by kernel_rfl) ?_
          refine wpc_seq ?_
          refine wpc_region [0, 1] (by kernel_rfl) ?_
          refine wpr_run (l₂ := []) true [0, 1] [] [(17, .bool false), (6, .int .i64 4), (4, .bool false), (2, .pointer (some ⟨g1, 0, none⟩)), (1, .int .i64 m)] [.blk g1 28 [.int .i64 4, .int .i64 n, .string (mkS [])]] [] (by kernel_rfl) (by kernel_rfl) trivial ?_
          refine wpr_nil (nx_then ?_)
          refine wpc_false (by kernel_rfl) ?_
          refine wpc_seq ?_
          refine wpc_region [0, 1] (by kernel_rfl) ?_
          refine wpr_run (l₂ := []) true [0, 1] [] [(22, .bool false), (6, .int .i64 4), (4, .bool false), (2, .pointer (some ⟨g1, 0, none⟩)), (1, .int .i64 m)] [.blk g1 28 [.int .i64 4, .int .i64 n, .string (mkS [])]] [] (by kernel_rfl) (by kernel_rfl) trivial ?_
          refine wpr_nil (nx_then ?_)
          refine wpc_false (by kernel_rfl) ?_
          refine wpc_seq ?_
          refine wpc_region [0, 1] (by kernel_rfl) ?_
          refine wpr_run (l₂ := []) true [0, 1] [] [(37, .bool false), (6, .int .i64 4), (4, .bool false), (2, .pointer (some ⟨g1, 0, none⟩)), (1, .int .i64 m)] [.blk g1 28 [.int .i64 4, .int .i64 n, .string (mkS [])]] [] (by kernel_rfl) (by kernel_rfl) trivial ?_
          refine wpr_nil (nx_then ?_)
          refine wpc_false (by kernel_rfl) ?_
          refine wpc_seq ?_
          refine wpc_region [0, 1] (by kernel_rfl) ?_
          refine wpr_run (l₂ := []) true [0, 1] [] [(47, .bool true), (4, .bool false), (2, .pointer (some ⟨g1, 0, none⟩)), (1, .int .i64 m)] [.blk g1 28 [.int .i64 4, .int .i64 n, .string (mkS [])]] [] (by kernel_rfl) (by kernel_rfl) trivial ?_
          refine wpr_nil (nx_then ?_)
          refine wpc_true (by kernel_rfl) ?_
          refine wpc_seq ?_
          refine wpc_region [0, 1, 2, 3, 4, 5, 6, 7, 8, 9, 10, 11, 12, 13, 14] (by kernel_rfl) ?_
          refine wpr_run (l₂ := [9, 10, 11, 12, 13, 14]) true [0, 1, 2, 3, 4, 5, 6, 7, 8] [0, 0] [(57, .bool (decide (n ≥ 0))), (4, .bool false), (2, .pointer (some ⟨g1, 0, none⟩)), (1, .int .i64 m)] [.blk g1 28 [.int .i64 4, .int .i64 n, .string (mkS [])]] [] (by kernel_rfl) (by kernel_rfl) trivial ?_
          refine wpr_ent (ent_set 57 (.bool (decide (n ≥ 0))) (.bool true) (by kernel_rfl) (congrArg _ (decide_eq_true (by omega)))) ?_
          refine wpr_run (l₂ := []) true [9, 10, 11, 12, 13, 14] [0] [(4, .bool (decide (n < m)))] [.blk g1 28 [.int .i64 4, .int .i64 n, .string (mkS [])]] [] (by kernel_rfl) (by kernel_rfl) trivial ?_
          refine wpr_nil (nx_then ?_)
          refine wpc_ret ?_
          refine nx_block_ret ?_
          refine nx_then_ret ?_
          refine nx_end (hp' := []) (rest := [.blk g1 28 [.int .i64 4, .int .i64 n, .string (mkS [])]]) [] ((.bool (decide (n < m)))) (by kernel_rfl) (by kernel_rfl) (give [] (by kernel_rfl)) (by first | ((repeat (first | exact trivial | refine ⟨trivial, ?_⟩)); done) | assumption) ?_ (.inr rfl)
          exact ⟨by simp [rightB, *], rfl⟩
      · refine fn_enter Tryz.func30 rfl 63 rfl fun w0 h0 => ?_
        refine wpc_seq ?_
        refine wpc_region [0, 1] (by kernel_rfl) ?_
        refine wpr_new (l₂ := [1]) true [0] [] (fun g1 => [(2, .pointer (some ⟨g1, 0, none⟩)), (1, .int .i64 m)]) (fun g1 => [.blk g1 28 [.int .i64 4, .int .i64 n, .string (mkS [])]]) (fun g1 => []) (fun g1 => by kernel_rfl) (fun g1 => by kernel_rfl) (fun g1 => trivial) fun g1 => ?_
        refine wpr_run (l₂ := []) true [1] [] [(4, .bool false), (2, .pointer (some ⟨g1, 0, none⟩)), (1, .int .i64 m)] [.blk g1 28 [.int .i64 4, .int .i64 n, .string (mkS [])]] [] (by kernel_rfl) (by kernel_rfl) trivial ?_
        refine wpr_nil (nx_then (wpc_seq (wpc_seq ?_)))
        refine wpc_region [0, 1] (by kernel_rfl) ?_
        refine wpr_run (l₂ := []) true [0, 1] [0] [(6, .int .i64 4), (4, .bool false), (2, .pointer (some ⟨g1, 0, none⟩)), (1, .int .i64 m)] [.blk g1 28 [.int .i64 4, .int .i64 n, .string (mkS [])]] [] (by kernel_rfl) (by kernel_rfl) trivial ?_
        refine wpr_nil (nx_then ?_)
        refine wpc_block ?_
        refine wpc_seq ?_
        refine wpc_region [0, 1] (by kernel_rfl) ?_
        refine wpr_run (l₂ := []) true [0, 1] [] [(7, .bool false), (6, .int .i64 4), (4, .bool false), (2, .pointer (some ⟨g1, 0, none⟩)), (1, .int .i64 m)] [.blk g1 28 [.int .i64 4, .int .i64 n, .string (mkS [])]] [] (by kernel_rfl) (by kernel_rfl) trivial ?_
        refine wpr_nil (nx_then ?_)
        refine wpc_false (by kernel_rfl) ?_
        refine wpc_seq ?_
        refine wpc_region [0, 1] (by kernel_rfl) ?_
        refine wpr_run (l₂ := []) true [0, 1] [] [(17, .bool false), (6, .int .i64 4), (4, .bool false), (2, .pointer (some ⟨g1, 0, none⟩)), (1, .int .i64 m)] [.blk g1 28 [.int .i64 4, .int .i64 n, .string (mkS [])]] [] (by kernel_rfl) (by kernel_rfl) trivial ?_
        refine wpr_nil (nx_then ?_)
        refine wpc_false (by kernel_rfl) ?_
        refine wpc_seq ?_
        refine wpc_region [0, 1] (by kernel_rfl) ?_
        refine wpr_run (l₂ := []) true [0, 1] [] [(22, .bool false), (6, .int .i64 4), (4, .bool false), (2, .pointer (some ⟨g1, 0, none⟩)), (1, .int .i64 m)] [.blk g1 28 [.int .i64 4, .int .i64 n, .string (mkS [])]] [] (by kernel_rfl) (by kernel_rfl) trivial ?_
        refine wpr_nil (nx_then ?_)
        refine wpc_false (by kernel_rfl) ?_
        refine wpc_seq ?_
        refine wpc_region [0, 1] (by kernel_rfl) ?_
        refine wpr_run (l₂ := []) true [0, 1] [] [(37, .bool false), (6, .int .i64 4), (4, .bool false), (2, .pointer (some ⟨g1, 0, none⟩)), (1, .int .i64 m)] [.blk g1 28 [.int .i64 4, .int .i64 n, .string (mkS [])]] [] (by kernel_rfl) (by kernel_rfl) trivial ?_
        refine wpr_nil (nx_then ?_)
        refine wpc_false (by kernel_rfl) ?_
        refine wpc_seq ?_
        refine wpc_region [0, 1] (by kernel_rfl) ?_
        refine wpr_run (l₂ := []) true [0, 1] [] [(47, .bool true), (4, .bool false), (2, .pointer (some ⟨g1, 0, none⟩)), (1, .int .i64 m)] [.blk g1 28 [.int .i64 4, .int .i64 n, .string (mkS [])]] [] (by kernel_rfl) (by kernel_rfl) trivial ?_
        refine wpr_nil (nx_then ?_)
        refine wpc_true (by kernel_rfl) ?_
        refine wpc_seq ?_
        refine wpc_region [0, 1, 2, 3, 4, 5, 6, 7, 8, 9, 10, 11, 12, 13, 14] (by kernel_rfl) ?_
        refine wpr_run (l₂ := [9, 10, 11, 12, 13, 14]) true [0, 1, 2, 3, 4, 5, 6, 7, 8] [0, 0] [(57, .bool (decide (n ≥ 0))), (4, .bool false), (2, .pointer (some ⟨g1, 0, none⟩)), (1, .int .i64 m)] [.blk g1 28 [.int .i64 4, .int .i64 n, .string (mkS [])]] [] (by kernel_rfl) (by kernel_rfl) trivial ?_
        refine wpr_ent (ent_set 57 (.bool (decide (n ≥ 0))) (.bool false) (by kernel_rfl) (congrArg _ (decide_eq_false (by omega)))) ?_
        refine wpr_run (l₂ := []) true [9, 10, 11, 12, 13, 14] [] [(4, .bool false)] [.blk g1 28 [.int .i64 4, .int .i64 n, .string (mkS [])]] [] (by kernel_rfl) (by kernel_rfl) trivial ?_
        refine wpr_nil (nx_then ?_)
        refine wpc_ret ?_
        refine nx_block_ret ?_
        refine nx_then_ret ?_
        refine nx_end (hp' := []) (rest := [.blk g1 28 [.int .i64 4, .int .i64 n, .string (mkS [])]]) [] ((.bool false)) (by kernel_rfl) (by kernel_rfl) (give [] (by kernel_rfl)) (by first | ((repeat (first | exact trivial | refine ⟨trivial, ?_⟩)); done) | assumption) ?_ (.inr rfl)
        exact ⟨by simp [rightB, *], rfl⟩
    | cons c r =>
      refine fn_enter Tryz.func30 rfl 63 rfl fun w0 h0 => ?_
      refine wpc_seq ?_
      refine wpc_region [0, 1] (by kernel_rfl) ?_
      refine wpr_new (l₂ := [1]) true [0] [] (fun g1 => [(2, .pointer (some ⟨g1, 0, none⟩)), (1, .int .i64 m)]) (fun g1 => [.blk g1 28 [.int .i64 4, .int .i64 n, .string (mkS (c :: r))]]) (fun g1 => []) (fun g1 => by kernel_rfl) (fun g1 => by kernel_rfl) (fun g1 => trivial) fun g1 => ?_
      refine wpr_run (l₂ := []) true [1] [] [(4, .bool false), (2, .pointer (some ⟨g1, 0, none⟩)), (1, .int .i64 m)] [.blk g1 28 [.int .i64 4, .int .i64 n, .string (mkS (c :: r))]] [] (by kernel_rfl) (by kernel_rfl) trivial ?_
      refine wpr_nil (nx_then (wpc_seq (wpc_seq ?_)))
      refine wpc_region [0, 1] (by kernel_rfl) ?_
      refine wpr_run (l₂ := []) true [0, 1] [0] [(6, .int .i64 4), (4, .bool false), (2, .pointer (some ⟨g1, 0, none⟩)), (1, .int .i64 m)] [.blk g1 28 [.int .i64 4, .int .i64 n, .string (mkS (c :: r))]] [] (by kernel_rfl) (by kernel_rfl) trivial ?_
      refine wpr_nil (nx_then ?_)
      refine wpc_block ?_
      refine wpc_seq ?_
      refine wpc_region [0, 1] (by kernel_rfl) ?_
      refine wpr_run (l₂ := []) true [0, 1] [] [(7, .bool false), (6, .int .i64 4), (4, .bool false), (2, .pointer (some ⟨g1, 0, none⟩)), (1, .int .i64 m)] [.blk g1 28 [.int .i64 4, .int .i64 n, .string (mkS (c :: r))]] [] (by kernel_rfl) (by kernel_rfl) trivial ?_
      refine wpr_nil (nx_then ?_)
      refine wpc_false (by kernel_rfl) ?_
      refine wpc_seq ?_
      refine wpc_region [0, 1] (by kernel_rfl) ?_
      refine wpr_run (l₂ := []) true [0, 1] [] [(17, .bool false), (6, .int .i64 4), (4, .bool false), (2, .pointer (some ⟨g1, 0, none⟩)), (1, .int .i64 m)] [.blk g1 28 [.int .i64 4, .int .i64 n, .string (mkS (c :: r))]] [] (by kernel_rfl) (by kernel_rfl) trivial ?_
      refine wpr_nil (nx_then ?_)
      refine wpc_false (by kernel_rfl) ?_
      refine wpc_seq ?_
      refine wpc_region [0, 1] (by kernel_rfl) ?_
      refine wpr_run (l₂ := []) true [0, 1] [] [(22, .bool false), (6, .int .i64 4), (4, .bool false), (2, .pointer (some ⟨g1, 0, none⟩)), (1, .int .i64 m)] [.blk g1 28 [.int .i64 4, .int .i64 n, .string (mkS (c :: r))]] [] (by kernel_rfl) (by kernel_rfl) trivial ?_
      refine wpr_nil (nx_then ?_)
      refine wpc_false (by kernel_rfl) ?_
      refine wpc_seq ?_
      refine wpc_region [0, 1] (by kernel_rfl) ?_
      refine wpr_run (l₂ := []) true [0, 1] [] [(37, .bool false), (6, .int .i64 4), (4, .bool false), (2, .pointer (some ⟨g1, 0, none⟩)), (1, .int .i64 m)] [.blk g1 28 [.int .i64 4, .int .i64 n, .string (mkS (c :: r))]] [] (by kernel_rfl) (by kernel_rfl) trivial ?_
      refine wpr_nil (nx_then ?_)
      refine wpc_false (by kernel_rfl) ?_
      refine wpc_seq ?_
      refine wpc_region [0, 1] (by kernel_rfl) ?_
      refine wpr_run (l₂ := []) true [0, 1] [] [(47, .bool true), (4, .bool false), (2, .pointer (some ⟨g1, 0, none⟩)), (1, .int .i64 m)] [.blk g1 28 [.int .i64 4, .int .i64 n, .string (mkS (c :: r))]] [] (by kernel_rfl) (by kernel_rfl) trivial ?_
      refine wpr_nil (nx_then ?_)
      refine wpc_true (by kernel_rfl) ?_
      refine wpc_seq ?_
      refine wpc_region [0, 1, 2, 3, 4, 5, 6, 7, 8, 9, 10, 11, 12, 13, 14] (by kernel_rfl) ?_
      refine wpr_run (l₂ := []) true [0, 1, 2, 3, 4, 5, 6, 7, 8, 9, 10, 11, 12, 13, 14] [0] [(4, .bool false)] [.blk g1 28 [.int .i64 4, .int .i64 n, .string (mkS (c :: r))]] [] (by kernel_rfl) (by kernel_rfl) trivial ?_
      refine wpr_nil (nx_then ?_)
      refine wpc_ret ?_
      refine nx_block_ret ?_
      refine nx_then_ret ?_
      refine nx_end (hp' := []) (rest := [.blk g1 28 [.int .i64 4, .int .i64 n, .string (mkS (c :: r))]]) [] ((.bool false)) (by kernel_rfl) (by kernel_rfl) (give [] (by kernel_rfl)) (by first | ((repeat (first | exact trivial | refine ⟨trivial, ?_⟩)); done) | assumption) ?_ (.inr rfl)
      exact ⟨by simp [rightB, *], rfl⟩
  refine fn_enter Tryz.func30 rfl 63 rfl fun w0 h0 => ?_
  refine wpc_seq ?_
  refine wpc_region [0, 1] (by kernel_rfl) ?_
  refine wpr_new (l₂ := [1]) true [0] [] (fun g1 => [(2, .pointer (some ⟨g1, 0, none⟩)), (1, .int .i64 m)]) (fun g1 => [.blk g1 28 [.int .i64 k, .int .i64 n, .string (mkS s)]]) (fun g1 => []) (fun g1 => by kernel_rfl) (fun g1 => by kernel_rfl) (fun g1 => trivial) fun g1 => ?_
  refine wpr_run (l₂ := []) true [1] [] [(4, .bool false), (2, .pointer (some ⟨g1, 0, none⟩)), (1, .int .i64 m)] [.blk g1 28 [.int .i64 k, .int .i64 n, .string (mkS s)]] [] (by kernel_rfl) (by kernel_rfl) trivial ?_
  refine wpr_nil (nx_then (wpc_seq (wpc_seq ?_)))
  refine wpc_region [0, 1] (by kernel_rfl) ?_
  refine wpr_run (l₂ := []) true [0, 1] [0] [(6, .int .i64 k), (4, .bool false), (2, .pointer (some ⟨g1, 0, none⟩)), (1, .int .i64 m)] [.blk g1 28 [.int .i64 k, .int .i64 n, .string (mkS s)]] [] (by kernel_rfl) (by kernel_rfl) trivial ?_
  refine wpr_nil (nx_then ?_)
  refine wpc_block ?_
  refine wpc_seq ?_
  refine wpc_region [0, 1] (by kernel_rfl) ?_
  refine wpr_run (l₂ := []) true [0, 1] [] [(7, .bool (k == 0)), (6, .int .i64 k), (4, .bool false), (2, .pointer (some ⟨g1, 0, none⟩)), (1, .int .i64 m)] [.blk g1 28 [.int .i64 k, .int .i64 n, .string (mkS s)]] [] (by kernel_rfl) (by kernel_rfl) trivial ?_
  refine wpr_nil (nx_then ?_)
  refine wpc_ent (ent_set 7 (.bool (k == 0)) (.bool false) (by kernel_rfl) (congrArg _ (by simp only [bne_eq_false_iff_eq, beq_eq_false_iff_ne, ne_eq]; omega))) ?_
  refine wpc_false (by kernel_rfl) ?_
  refine wpc_seq ?_
  refine wpc_region [0, 1] (by kernel_rfl) ?_
  refine wpr_run (l₂ := []) true [0, 1] [] [(17, .bool (k == 1)), (6, .int .i64 k), (4, .bool false), (2, .pointer (some ⟨g1, 0, none⟩)), (1, .int .i64 m)] [.blk g1 28 [.int .i64 k, .int .i64 n, .string (mkS s)]] [] (by kernel_rfl) (by kernel_rfl) trivial ?_
  refine wpr_nil (nx_then ?_)
  refine wpc_ent (ent_set 17 (.bool (k == 1)) (.bool false) (by kernel_rfl) (congrArg _ (by simp only [bne_eq_false_iff_eq, beq_eq_false_iff_ne, ne_eq]; omega))) ?_
  refine wpc_false (by kernel_rfl) ?_
  refine wpc_seq ?_
  refine wpc_region [0, 1] (by kernel_rfl) ?_
  refine wpr_run (l₂ := []) true [0, 1] [] [(22, .bool (k == 2)), (6, .int .i64 k), (4, .bool false), (2, .pointer (some ⟨g1, 0, none⟩)), (1, .int .i64 m)] [.blk g1 28 [.int .i64 k, .int .i64 n, .string (mkS s)]] [] (by kernel_rfl) (by kernel_rfl) trivial ?_
  refine wpr_nil (nx_then ?_)
  refine wpc_ent (ent_set 22 (.bool (k == 2)) (.bool false) (by kernel_rfl) (congrArg _ (by simp only [bne_eq_false_iff_eq, beq_eq_false_iff_ne, ne_eq]; omega))) ?_
  refine wpc_false (by kernel_rfl) ?_
  refine wpc_seq ?_
  refine wpc_region [0, 1] (by kernel_rfl) ?_
  refine wpr_run (l₂ := []) true [0, 1] [] [(37, .bool (k == 3)), (6, .int .i64 k), (4, .bool false), (2, .pointer (some ⟨g1, 0, none⟩)), (1, .int .i64 m)] [.blk g1 28 [.int .i64 k, .int .i64 n, .string (mkS s)]] [] (by kernel_rfl) (by kernel_rfl) trivial ?_
  refine wpr_nil (nx_then ?_)
  refine wpc_ent (ent_set 37 (.bool (k == 3)) (.bool false) (by kernel_rfl) (congrArg _ (by simp only [bne_eq_false_iff_eq, beq_eq_false_iff_ne, ne_eq]; omega))) ?_
  refine wpc_false (by kernel_rfl) ?_
  refine wpc_seq ?_
  refine wpc_region [0, 1] (by kernel_rfl) ?_
  refine wpr_run (l₂ := []) true [0, 1] [] [(47, .bool (k == 4)), (4, .bool false), (2, .pointer (some ⟨g1, 0, none⟩)), (1, .int .i64 m)] [.blk g1 28 [.int .i64 k, .int .i64 n, .string (mkS s)]] [] (by kernel_rfl) (by kernel_rfl) trivial ?_
  refine wpr_nil (nx_then ?_)
  refine wpc_ent (ent_set 47 (.bool (k == 4)) (.bool false) (by kernel_rfl) (congrArg _ (by simp only [bne_eq_false_iff_eq, beq_eq_false_iff_ne, ne_eq]; omega))) ?_
  refine wpc_false (by kernel_rfl) ?_
  refine wpc_skip ?_
  refine nx_block (nx_then (wpc_seq ?_))
  refine wpc_region [0] (by kernel_rfl) ?_
  refine wpr_run (l₂ := []) true [0] [] [(4, .bool false)] [.blk g1 28 [.int .i64 k, .int .i64 n, .string (mkS s)]] [] (by kernel_rfl) (by kernel_rfl) trivial ?_
  refine wpr_nil (nx_then ?_)
  refine wpc_ret ?_
  refine nx_end (hp' := []) (rest := [.blk g1 28 [.int .i64 k, .int .i64 n, .string (mkS s)]]) [] ((.bool false)) (by kernel_rfl) (by kernel_rfl) (give [] (by kernel_rfl)) (by first | ((repeat (first | exact trivial | refine ⟨trivial, ?_⟩)); done) | assumption) ?_ (.inr rfl)
  exact ⟨by simp [rightB, *], rfl⟩
end Go.Proofs.YtpfhleghgkeemaaGreatDoor
