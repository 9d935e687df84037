import Derived.Test.YtpfhleghgkeemaaGreatDoorH26
import Derived.Test.YtpfhleghgkeemaaGreatDoorX23
import Derived.Test.YtpfhleghgkeemaaGreatDoorX16
namespace Go.Proofs.YtpfhleghgkeemaaGreatDoor
open Go Go.Sx
set_option linter.unusedSimpArgs false

def cellsL (k : Nat) : List V := (List.range k).map fun (j : Nat) => numV (j : Int)
theorem cellsL_len (k : Nat) : (cellsL k).length = k := by simp [cellsL]
theorem cellsL_succ (k : Nat) : cellsL (k + 1) = cellsL k ++ [numV k] := by simp [cellsL, List.range_succ]
def fullL (k i : Nat) : List O := List.replicate i ([], cellsL k)
theorem fullL_succ (k i : Nat) : fullL k i ++ [([], cellsL k)] = fullL k (i + 1) := by simp [fullL, List.replicate_succ']
theorem fullL_used (k : Nat) : ∀ i, usedO (fullL k i) = (k + 1) * i
  | 0 => by simp [fullL, usedO, usedN]
  | i + 1 => by rw [← fullL_succ, usedO_snoc, fullL_used k i, Nat.mul_succ, cellsL_len]
theorem cellsL_ok (k m : Nat) : objB m [] (cellsL k) = true := by
  simp [objB, cellsL, cellB, rightB, numV]
theorem cellsL_sm (k : Nat) : smL (cellsL k) := by
  intro v hv
  obtain ⟨j, _, rfl⟩ := List.mem_map.1 hv
  unfold V.sm numV; simp
theorem full_alloc (most : Int) (k i : Nat) : allocR most (fullL k i) [] (cellsL k) = if (k : Int) < most - ((k + 1) * i : Nat) then (fullL k (i + 1), atV i, 0) else (fullL k i, noV, 12) := by
  unfold allocR
  rw [cellsL_ok, if_pos rfl, fullL_used, cellsL_len, fullL_succ]
  simp [fullL]
theorem val_one (v : V) : Sx.One (valC v) := by have := vals_one [v]; simpa using this
set_option maxHeartbeats 4000000 in
theorem HeapFull_spec (m k n : Int) : Does Tryz.prog 3 [.int .i64 m, .int .i64 k, .int .i64 n] [gWords, gPow] (fun v hp' => v = .bool true ∧ hp' = []) := by
  by_cases hg : k < 0 ∨ 50 < k ∨ n < 0 ∨ 500 < n
  · by_cases h1 : k < 0
    · refine fn_enter Tryz.func3 rfl 117 rfl fun w0 h0 => ?_
      refine wpc_seq ?_
      refine wpc_region [0] (by kernel_rfl) ?_
      refine wpr_run (l₂ := []) true [0] [] [(6, .bool false), (0, .int .i64 m), (1, .int .i64 k), (2, .int .i64 n)] [gWords, gPow] [] (by kernel_rfl) (by kernel_rfl) trivial ?_
      refine wpr_nil (nx_then (wpc_seq (wpc_seq ?_)))
      refine wpc_region [0, 1, 2, 3, 4, 5, 6, 7, 8, 9, 10, 11, 12, 13] (by kernel_rfl) ?_
      refine wpr_run (l₂ := [3, 4, 5, 6, 7, 8, 9, 10, 11, 12, 13]) true [0, 1, 2] [] [(17, .bool (decide (k < 0))), (6, .bool false), (0, .int .i64 m), (1, .int .i64 k), (2, .int .i64 n)] [gWords, gPow] [] (by kernel_rfl) (by kernel_rfl) trivial ?_
      refine wpr_ent (ent_set 17 (.bool (decide (k < 0))) (.bool true) (by kernel_rfl) (congrArg _ (decide_eq_true (by omega)))) ?_
      refine wpr_run (l₂ := []) true [3, 4, 5, 6, 7, 8, 9, 10, 11, 12, 13] [] [(28, .bool true), (6, .bool false), (0, .int .i64 m), (1, .int .i64 k), (2, .int .i64 n)] [gWords, gPow] [] (by kernel_rfl) (by kernel_rfl) trivial ?_
      refine wpr_nil (nx_then ?_)
      refine wpc_true (by kernel_rfl) ?_
      refine wpc_seq ?_
      refine wpc_region [0, 1] (by kernel_rfl) ?_
      refine wpr_call (dst := some 29) (rest := [gWords, gPow]) (by kernel_rfl) (lives_spec) (Give.view (c := gWords) (Give.view (c := gPow) (give (pre := []) (rest := [gWords, gPow]) [] (by kernel_rfl)) 1 (by kernel_rfl) view_gPow) 0 (by kernel_rfl) view_ro) ?_
      rintro v _ ⟨rfl, rfl⟩
      refine wpr_run (l₂ := []) true [1] [] [(6, .bool true), (0, .int .i64 m), (1, .int .i64 k), (2, .int .i64 n)] [gWords, gPow] [] (by kernel_rfl) (by kernel_rfl) trivial ?_
      refine wpr_nil (nx_then ?_)
      refine wpc_ret ?_
      refine nx_then_ret ?_
      refine nx_end (hp' := []) (rest := [gWords, gPow]) [] ((.bool true)) (by kernel_rfl) (by kernel_rfl) (give [] (by kernel_rfl)) (by first | ((repeat (first | exact trivial | refine ⟨trivial, ?_⟩)); done) | assumption) ?_ (.inr rfl)
      exact ⟨rfl, rfl⟩
    · by_cases h2 : 50 < k
      · refine fn_enter Tryz.func3 rfl 117 rfl fun w0 h0 => ?_
        refine wpc_seq ?_
        refine wpc_region [0] (by kernel_rfl) ?_
        refine wpr_run (l₂ := []) true [0] [] [(6, .bool false), (0, .int .i64 m), (1, .int .i64 k), (2, .int .i64 n)] [gWords, gPow] [] (by kernel_rfl) (by kernel_rfl) trivial ?_
        refine wpr_nil (nx_then (wpc_seq (wpc_seq ?_)))
        refine wpc_region [0, 1, 2, 3, 4, 5, 6, 7, 8, 9, 10, 11, 12, 13] (by kernel_rfl) ?_
        refine wpr_run (l₂ := [3, 4, 5, 6, 7, 8, 9, 10, 11, 12, 13]) true [0, 1, 2] [] [(17, .bool (decide (k < 0))), (6, .bool false), (0, .int .i64 m), (1, .int .i64 k), (2, .int .i64 n)] [gWords, gPow] [] (by kernel_rfl) (by kernel_rfl) trivial ?_
        refine wpr_ent (ent_set 17 (.bool (decide (k < 0))) (.bool false) (by kernel_rfl) (congrArg _ (decide_eq_false (by omega)))) ?_
        refine wpr_run (l₂ := [7, 8, 9, 10, 11, 12, 13]) true [3, 4, 5, 6] [] [(21, .bool (decide (k > 50))), (6, .bool false), (0, .int .i64 m), (1, .int .i64 k), (2, .int .i64 n)] [gWords, gPow] [] (by kernel_rfl) (by kernel_rfl) trivial ?_
        refine wpr_ent (ent_set 21 (.bool (decide (k > 50))) (.bool true) (by kernel_rfl) (congrArg _ (decide_eq_true (by omega)))) ?_
        refine wpr_run (l₂ := []) true [7, 8, 9, 10, 11, 12, 13] [] [(28, .bool true), (6, .bool false), (0, .int .i64 m), (1, .int .i64 k), (2, .int .i64 n)] [gWords, gPow] [] (by kernel_rfl) (by kernel_rfl) trivial ?_
        refine wpr_nil (nx_then ?_)
        refine wpc_true (by kernel_rfl) ?_
        refine wpc_seq ?_
        refine wpc_region [0, 1] (by kernel_rfl) ?_
        refine wpr_call (dst := some 29) (rest := [gWords, gPow]) (by kernel_rfl) (lives_spec) (Give.view (c := gWords) (Give.view (c := gPow) (give (pre := []) (rest := [gWords, gPow]) [] (by kernel_rfl)) 1 (by kernel_rfl) view_gPow) 0 (by kernel_rfl) view_ro) ?_
        rintro v _ ⟨rfl, rfl⟩
        refine wpr_run (l₂ := []) true [1] [] [(6, .bool true), (0, .int .i64 m), (1, .int .i64 k), (2, .int .i64 n)] [gWords, gPow] [] (by kernel_rfl) (by kernel_rfl) trivial ?_
        refine wpr_nil (nx_then ?_)
        refine wpc_ret ?_
        refine nx_then_ret ?_
        refine nx_end (hp' := []) (rest := [gWords, gPow]) [] ((.bool true)) (by kernel_rfl) (by kernel_rfl) (give [] (by kernel_rfl)) (by first | ((repeat (first | exact trivial | refine ⟨trivial, ?_⟩)); done) | assumption) ?_ (.inr rfl)
        exact ⟨rfl, rfl⟩
      · by_cases h3 : n < 0
        · refine fn_enter Tryz.func3 rfl 117 rfl fun w0 h0 => ?_
          refine wpc_seq ?_
          refine wpc_region [0] (by kernel_rfl) ?_
          refine wpr_run (l₂ := []) true [0] [] [(6, .bool false), (0, .int .i64 m), (1, .int .i64 k), (2, .int .i64 n)] [gWords, gPow] [] (by kernel_rfl) (by kernel_rfl) trivial ?_
          refine wpr_nil (nx_then (wpc_seq (wpc_seq ?_)))
          refine wpc_region [0, 1, 2, 3, 4, 5, 6, 7, 8, 9, 10, 11, 12, 13] (by kernel_rfl) ?_
          refine wpr_run (l₂ := [3, 4, 5, 6, 7, 8, 9, 10, 11, 12, 13]) true [0, 1, 2] [] [(17, .bool (decide (k < 0))), (6, .bool false), (0, .int .i64 m), (1, .int .i64 k), (2, .int .i64 n)] [gWords, gPow] [] (by kernel_rfl) (by kernel_rfl) trivial ?_
          refine wpr_ent (ent_set 17 (.bool (decide (k < 0))) (.bool false) (by kernel_rfl) (congrArg _ (decide_eq_false (by omega)))) ?_
          refine wpr_run (l₂ := [7, 8, 9, 10, 11, 12, 13]) true [3, 4, 5, 6] [] [(21, .bool (decide (k > 50))), (6, .bool false), (0, .int .i64 m), (1, .int .i64 k), (2, .int .i64 n)] [gWords, gPow] [] (by kernel_rfl) (by kernel_rfl) trivial ?_
          refine wpr_ent (ent_set 21 (.bool (decide (k > 50))) (.bool false) (by kernel_rfl) (congrArg _ (decide_eq_false (by omega)))) ?_
          refine wpr_run (l₂ := [11, 12, 13]) true [7, 8, 9, 10] [] [(25, .bool (decide (n < 0))), (6, .bool false), (0, .int .i64 m), (1, .int .i64 k), (2, .int .i64 n)] [gWords, gPow] [] (by kernel_rfl) (by kernel_rfl) trivial ?_
          refine wpr_ent (ent_set 25 (.bool (decide (n < 0))) (.bool true) (by kernel_rfl) (congrArg _ (decide_eq_true (by omega)))) ?_
          refine wpr_run (l₂ := []) true [11, 12, 13] [] [(28, .bool true), (6, .bool false), (0, .int .i64 m), (1, .int .i64 k), (2, .int .i64 n)] [gWords, gPow] [] (by kernel_rfl) (by kernel_rfl) trivial ?_
          refine wpr_nil (nx_then ?_)
          refine wpc_true (by kernel_rfl) ?_
          refine wpc_seq ?_
          refine wpc_region [0, 1] (by kernel_rfl) ?_
          refine wpr_call (dst := some 29) (rest := [gWords, gPow]) (by kernel_rfl) (lives_spec) (Give.view (c := gWords) (Give.view (c := gPow) (give (pre := []) (rest := [gWords, gPow]) [] (by kernel_rfl)) 1 (by kernel_rfl) view_gPow) 0 (by kernel_rfl) view_ro) ?_
          rintro v _ ⟨rfl, rfl⟩
          refine wpr_run (l₂ := []) true [1] [] [(6, .bool true), (0, .int .i64 m), (1, .int .i64 k), (2, .int .i64 n)] [gWords, gPow] [] (by kernel_rfl) (by kernel_rfl) trivial ?_
          refine wpr_nil (nx_then ?_)
          refine wpc_ret ?_
          refine nx_then_ret ?_
          refine nx_end (hp' := []) (rest := [gWords, gPow]) [] ((.bool true)) (by kernel_rfl) (by kernel_rfl) (give [] (by kernel_rfl)) (by first | ((repeat (first | exact trivial | refine ⟨trivial, ?_⟩)); done) | assumption) ?_ (.inr rfl)
          exact ⟨rfl, rfl⟩
        · refine fn_enter Tryz.func3 rfl 117 rfl fun w0 h0 => ?_
          refine wpc_seq ?_
          refine wpc_region [0] (by kernel_rfl) ?_
          refine wpr_run (l₂ := []) true [0] [] [(6, .bool false), (0, .int .i64 m), (1, .int .i64 k), (2, .int .i64 n)] [gWords, gPow] [] (by kernel_rfl) (by kernel_rfl) trivial ?_
          refine wpr_nil (nx_then (wpc_seq (wpc_seq ?_)))
          refine wpc_region [0, 1, 2, 3, 4, 5, 6, 7, 8, 9, 10, 11, 12, 13] (by kernel_rfl) ?_
          refine wpr_run (l₂ := [3, 4, 5, 6, 7, 8, 9, 10, 11, 12, 13]) true [0, 1, 2] [] [(17, .bool (decide (k < 0))), (6, .bool false), (0, .int .i64 m), (1, .int .i64 k), (2, .int .i64 n)] [gWords, gPow] [] (by kernel_rfl) (by kernel_rfl) trivial ?_
          refine wpr_ent (ent_set 17 (.bool (decide (k < 0))) (.bool false) (by kernel_rfl) (congrArg _ (decide_eq_false (by omega)))) ?_
          refine wpr_run (l₂ := [7, 8, 9, 10, 11, 12, 13]) true [3, 4, 5, 6] [] [(21, .bool (decide (k > 50))), (6, .bool false), (0, .int .i64 m), (1, .int .i64 k), (2, .int .i64 n)] [gWords, gPow] [] (by kernel_rfl) (by kernel_rfl) trivial ?_
          refine wpr_ent (ent_set 21 (.bool (decide (k > 50))) (.bool false) (by kernel_rfl) (congrArg _ (decide_eq_false (by omega)))) ?_
          refine wpr_run (l₂ := [11, 12, 13]) true [7, 8, 9, 10] [] [(25, .bool (decide (n < 0))), (6, .bool false), (0, .int .i64 m), (1, .int .i64 k), (2, .int .i64 n)] [gWords, gPow] [] (by kernel_rfl) (by kernel_rfl) trivial ?_
          refine wpr_ent (ent_set 25 (.bool (decide (n < 0))) (.bool false) (by kernel_rfl) (congrArg _ (decide_eq_false (by omega)))) ?_
          refine wpr_run (l₂ := []) true [11, 12, 13] [] [(28, .bool (decide (n > 500))), (6, .bool false), (0, .int .i64 m), (1, .int .i64 k), (2, .int .i64 n)] [gWords, gPow] [] (by kernel_rfl) (by kernel_rfl) trivial ?_
          refine wpr_nil (nx_then ?_)
          refine wpc_ent (ent_set 28 (.bool (decide (n > 500))) (.bool true) (by kernel_rfl) (congrArg _ (decide_eq_true (by omega)))) ?_
          refine wpc_true (by kernel_rfl) ?_
          refine wpc_seq ?_
          refine wpc_region [0, 1] (by kernel_rfl) ?_
          refine wpr_call (dst := some 29) (rest := [gWords, gPow]) (by kernel_rfl) (lives_spec) (Give.view (c := gWords) (Give.view (c := gPow) (give (pre := []) (rest := [gWords, gPow]) [] (by kernel_rfl)) 1 (by kernel_rfl) view_gPow) 0 (by kernel_rfl) view_ro) ?_
          rintro v _ ⟨rfl, rfl⟩
          refine wpr_run (l₂ := []) true [1] [] [(6, .bool true), (0, .int .i64 m), (1, .int .i64 k), (2, .int .i64 n)] [gWords, gPow] [] (by kernel_rfl) (by kernel_rfl) trivial ?_
          refine wpr_nil (nx_then ?_)
          refine wpc_ret ?_
          refine nx_then_ret ?_
          refine nx_end (hp' := []) (rest := [gWords, gPow]) [] ((.bool true)) (by kernel_rfl) (by kernel_rfl) (give [] (by kernel_rfl)) (by first | ((repeat (first | exact trivial | refine ⟨trivial, ?_⟩)); done) | assumption) ?_ (.inr rfl)
          exact ⟨rfl, rfl⟩
  · obtain ⟨k, rfl⟩ : ∃ k' : Nat, k = k' := ⟨k.toNat, by omega⟩
    obtain ⟨n, rfl⟩ : ∃ n' : Nat, n = n' := ⟨n.toNat, by omega⟩
    have hk : k ≤ 50 := by omega
    have hn : n ≤ 500 := by omega
    have hmo := mostI_le m
    refine fn_enter Tryz.func3 rfl 117 rfl fun w0 h0 => ?_
    refine wpc_seq ?_
    refine wpc_region [0] (by kernel_rfl) ?_
    refine wpr_run (l₂ := []) true [0] [] [(6, .bool false), (0, .int .i64 m), (1, .int .i64 (↑k : Int)), (2, .int .i64 (↑n : Int))] [gWords, gPow] [] (by kernel_rfl) (by kernel_rfl) trivial ?_
    refine wpr_nil (nx_then (wpc_seq (wpc_seq ?_)))
    refine wpc_region [0, 1, 2, 3, 4, 5, 6, 7, 8, 9, 10, 11, 12, 13] (by kernel_rfl) ?_
    refine wpr_run (l₂ := [7, 8, 9, 10, 11, 12, 13]) true [0, 1, 2, 3, 4, 5, 6] [] [(21, .bool (decide ((↑k : Int) > 50))), (6, .bool false), (0, .int .i64 m), (1, .int .i64 (↑k : Int)), (2, .int .i64 (↑n : Int))] [gWords, gPow] [] (by kernel_rfl) (by kernel_rfl) trivial ?_
    refine wpr_ent (ent_set 21 (.bool (decide ((↑k : Int) > 50))) (.bool false) (by kernel_rfl) (congrArg _ (decide_eq_false (by omega)))) ?_
    refine wpr_run (l₂ := []) true [7, 8, 9, 10, 11, 12, 13] [] [(28, .bool (decide ((↑n : Int) > 500))), (6, .bool false), (0, .int .i64 m), (1, .int .i64 (↑k : Int)), (2, .int .i64 (↑n : Int))] [gWords, gPow] [] (by kernel_rfl) (by kernel_rfl) trivial ?_
    refine wpr_nil (nx_then ?_)
    refine wpc_ent (ent_set 28 (.bool (decide ((↑n : Int) > 500))) (.bool false) (by kernel_rfl) (congrArg _ (decide_eq_false (by omega)))) ?_
    refine wpc_false (by kernel_rfl) ?_
    refine wpc_skip ?_
    refine nx_then (wpc_seq ?_)
    refine wpc_region [0, 1, 2] (by kernel_rfl) ?_
    refine wpr_run (l₂ := [1, 2]) true [0] [] [(30, .int .i64 m), (6, .bool false), (0, .int .i64 m), (1, .int .i64 (↑k : Int)), (2, .int .i64 (↑n : Int))] [gWords, gPow] [] (by kernel_rfl) (by kernel_rfl) trivial ?_
    refine wpr_call (dst := some 31) (rest := [gWords, gPow]) (by kernel_rfl) (New_spec m) (give [] (by kernel_rfl)) ?_
    rintro v _ ⟨g, rfl, rfl⟩
    refine wpr_run (l₂ := []) true [2] [] [(7, .pointer (some ⟨g, 0, none⟩)), (6, .bool false), (0, .int .i64 m), (1, .int .i64 (↑k : Int)), (2, .int .i64 (↑n : Int))] [.blk g 59 [.bool true, .int .i64 (mostI m), .int .i64 0, .slice none 0 0], gWords, gPow] [] (by kernel_rfl) (by kernel_rfl) trivial ?_
    refine wpr_nil (nx_then (wpc_seq (wpc_seq ?_)))
    refine wpc_region [0, 1] (by kernel_rfl) ?_
    refine wpr_run (l₂ := []) true [0, 1] [] [(33, .bool false), (7, .pointer (some ⟨g, 0, none⟩)), (6, .bool false), (0, .int .i64 m), (1, .int .i64 (↑k : Int)), (2, .int .i64 (↑n : Int))] [.blk g 59 [.bool true, .int .i64 (mostI m), .int .i64 0, .slice none 0 0], gWords, gPow] [] (by kernel_rfl) (by kernel_rfl) trivial ?_
    refine wpr_nil (nx_then ?_)
    refine wpc_false (by kernel_rfl) ?_
    refine wpc_skip ?_
    refine nx_then (wpc_seq ?_)
    refine wpc_region [0, 1, 2, 3] (by kernel_rfl) ?_
    refine wpr_run (l₂ := []) true [0, 1, 2, 3] [] [(8, .int .i64 (if (if 4096 < m then 4096 else m) > 0 then if 4096 < m then 4096 else m else 0)), (7, .pointer (some ⟨g, 0, none⟩)), (6, .bool false), (1, .int .i64 (↑k : Int)), (2, .int .i64 (↑n : Int))] [.blk g 59 [.bool true, .int .i64 (mostI m), .int .i64 0, .slice none 0 0], gWords, gPow] [] (by kernel_rfl) (by kernel_rfl) trivial ?_
    refine wpr_nil (nx_then (wpc_seq (wpc_seq ?_)))
    refine wpc_region [0] (by kernel_rfl) ?_
    refine wpr_run (l₂ := []) true [0] [] [(9, .int .i64 0), (8, .int .i64 (if (if 4096 < m then 4096 else m) > 0 then if 4096 < m then 4096 else m else 0)), (7, .pointer (some ⟨g, 0, none⟩)), (6, .bool false), (1, .int .i64 (↑k : Int)), (2, .int .i64 (↑n : Int))] [.blk g 59 [.bool true, .int .i64 (mostI m), .int .i64 0, .slice none 0 0], gWords, gPow] [] (by kernel_rfl) (by kernel_rfl) trivial ?_
    refine wpr_nil (nx_then ?_)
    refine wpc_block ?_
    obtain ⟨M, hM⟩ : ∃ M, M = mostI m := ⟨_, rfl⟩
    refine wpc_ent (ent_set 8 _ (.int .i64 M) (by kernel_rfl) (by rw [hM])) ?_
    rw [← hM] at hmo ⊢
    refine wpc_loop (X := {y : Nat × Option Addr × Nat × List Ob // y.1 ≤ n ∧ y.2.2.2.map Ob.o = fullL k y.1 ∧ (((k + 1) * y.1 : Nat) : Int) ≤ M}) (fun y => St.mk [(9, .int .i64 (y.1.1 : Int)), (8, .int .i64 M), (7, .pointer (some ⟨g, 0, none⟩)), (6, .bool false), (1, .int .i64 k), (2, .int .i64 n)]
      [.blk g 59 [.bool true, .int .i64 M, .int .i64 ((k + 1) * y.1.1 : Nat), .slice y.1.2.1 y.1.2.2.2.length y.1.2.2.1], row 43 2 y.1.2.1 y.1.2.2.2.length y.1.2.2.1 (y.1.2.2.2.flatMap objC), star (y.1.2.2.2.map obRow), gWords, gPow]) (fun y => n - y.1.1) ⟨(0, none, 0, []), Nat.zero_le _, rfl, by simp; exact hmo.1⟩ ?_ ?_
    · show Ent _ _ (St.mk _ [.blk g 59 [.bool true, .int .i64 M, .int .i64 ((k + 1) * 0 : Nat), .slice none 0 0], row 43 2 none 0 0 [], star [], gWords, gPow])
      exact Ent.trans ent_star_nil (Ent.trans (ent_nil 43 2) (Ent.trans (ent_hp [2, 0, 0, 0, 0] rfl) (ent_fr (by kernel_rfl))))
    rintro ⟨⟨i, a1, c1, l1⟩, hi, hm, hu⟩
    dsimp only at hi hm hu ⊢
    by_cases hlt : i < n
    · refine wpc_seq ?_
      refine wpc_seq ?_
      refine wpc_region [0, 1, 2] (by kernel_rfl) ?_
      refine wpr_run (l₂ := []) true [0, 1, 2] [] [(39, .bool (decide ((↑i : Int) < (↑n : Int)))), (9, .int .i64 (↑i : Int)), (8, .int .i64 M), (7, .pointer (some ⟨g, 0, none⟩)), (6, .bool false), (1, .int .i64 (↑k : Int)), (2, .int .i64 (↑n : Int))] ([.blk g 59 [.bool true, .int .i64 M, .int .i64 (↑((k + 1) * i) : Int), .slice a1 l1.length c1], row 43 2 a1 l1.length c1 (List.flatMap objC l1), star (List.map obRow l1), gWords, gPow]) [] (by kernel_rfl) (by kernel_rfl) trivial ?_
      refine wpr_nil (nx_then ?_)
      refine wpc_ent (ent_set 39 (.bool (decide ((↑i : Int) < (↑n : Int)))) (.bool true) (by kernel_rfl) (congrArg _ (decide_eq_true (by omega)))) ?_
      refine wpc_true (by kernel_rfl) ?_
      refine wpc_skip ?_
      refine nx_then (wpc_seq ?_)
      refine wpc_block ?_
      refine wpc_seq ?_
      refine wpc_region [0] (by kernel_rfl) ?_
      refine wpr_run (l₂ := []) true [0] [] [(10, .slice none 0 0), (9, .int .i64 (↑i : Int)), (8, .int .i64 M), (7, .pointer (some ⟨g, 0, none⟩)), (6, .bool false), (1, .int .i64 (↑k : Int)), (2, .int .i64 (↑n : Int))] ([.blk g 59 [.bool true, .int .i64 M, .int .i64 (↑((k + 1) * i) : Int), .slice a1 l1.length c1], row 43 2 a1 l1.length c1 (List.flatMap objC l1), star (List.map obRow l1), gWords, gPow]) [] (by kernel_rfl) (by kernel_rfl) trivial ?_
      refine wpr_nil (nx_then (wpc_seq (wpc_seq ?_)))
      refine wpc_region [0] (by kernel_rfl) ?_
      refine wpr_run (l₂ := []) true [0] [] [(11, .int .i64 0), (10, .slice none 0 0), (9, .int .i64 (↑i : Int)), (8, .int .i64 M), (7, .pointer (some ⟨g, 0, none⟩)), (6, .bool false), (1, .int .i64 (↑k : Int)), (2, .int .i64 (↑n : Int))] ([.blk g 59 [.bool true, .int .i64 M, .int .i64 (↑((k + 1) * i) : Int), .slice a1 l1.length c1], row 43 2 a1 l1.length c1 (List.flatMap objC l1), star (List.map obRow l1), gWords, gPow]) [] (by kernel_rfl) (by kernel_rfl) trivial ?_
      refine wpr_nil (nx_then ?_)
      refine wpc_block ?_
      refine wpc_loop (X := {y : Nat × Option Addr × Nat // y.1 ≤ k}) (fun y => St.mk [(11, .int .i64 (y.1.1 : Int)), (10, .slice y.1.2.1 (cellsL y.1.1).length y.1.2.2), (9, .int .i64 (i : Int)), (8, .int .i64 M), (7, .pointer (some ⟨g, 0, none⟩)), (6, .bool false), (1, .int .i64 k), (2, .int .i64 n)]
        [row 28 3 y.1.2.1 (cellsL y.1.1).length y.1.2.2 ((cellsL y.1.1).flatMap valC), .blk g 59 [.bool true, .int .i64 M, .int .i64 ((k + 1) * i : Nat), .slice a1 l1.length c1], row 43 2 a1 l1.length c1 (l1.flatMap objC), star (l1.map obRow), gWords, gPow]) (fun y => k - y.1.1) ⟨(0, none, 0), Nat.zero_le _⟩ ?_ ?_
      · exact Ent.trans (ent_nil 28 3) (ent_fr (by kernel_rfl))
      rintro ⟨⟨j, a2, c2⟩, hj⟩
      dsimp only at hj ⊢
      have hcl := cellsL_len j
      by_cases hjk : j < k
      · refine wpc_seq ?_
        refine wpc_seq ?_
        refine wpc_region [0, 1, 2] (by kernel_rfl) ?_
        refine wpr_run (l₂ := []) true [0, 1, 2] [] [(44, .bool (decide ((↑j : Int) < (↑k : Int)))), (11, .int .i64 (↑j : Int)), (10, .slice a2 (cellsL j).length c2), (9, .int .i64 (↑i : Int)), (8, .int .i64 M), (7, .pointer (some ⟨g, 0, none⟩)), (6, .bool false), (1, .int .i64 (↑k : Int)), (2, .int .i64 (↑n : Int))] ([row 28 3 a2 (cellsL j).length c2 (List.flatMap valC (cellsL j)), .blk g 59 [.bool true, .int .i64 M, .int .i64 (↑((k + 1) * i) : Int), .slice a1 l1.length c1], row 43 2 a1 l1.length c1 (List.flatMap objC l1), star (List.map obRow l1), gWords, gPow]) [] (by kernel_rfl) (by kernel_rfl) trivial ?_
        refine wpr_nil (nx_then ?_)
        refine wpc_ent (ent_set 44 (.bool (decide ((↑j : Int) < (↑k : Int)))) (.bool true) (by kernel_rfl) (congrArg _ (decide_eq_true (by omega)))) ?_
        refine wpc_true (by kernel_rfl) ?_
        refine wpc_skip ?_
        refine nx_then (wpc_seq ?_)
        refine wpc_block ?_
        refine wpc_region [0, 1, 2, 3, 4, 5] (by kernel_rfl) ?_
        refine wpr_run (l₂ := [2, 3, 4, 5]) true [0, 1] [] [(48, .int .i64 (↑j : Int)), (47, .slice a2 (cellsL j).length c2), (11, .int .i64 (↑j : Int)), (10, .slice a2 (cellsL j).length c2), (9, .int .i64 (↑i : Int)), (8, .int .i64 M), (7, .pointer (some ⟨g, 0, none⟩)), (6, .bool false), (1, .int .i64 (↑k : Int)), (2, .int .i64 (↑n : Int))] ([row 28 3 a2 (cellsL j).length c2 (List.flatMap valC (cellsL j)), .blk g 59 [.bool true, .int .i64 M, .int .i64 (↑((k + 1) * i) : Int), .slice a1 l1.length c1], row 43 2 a1 l1.length c1 (List.flatMap objC l1), star (List.map obRow l1), gWords, gPow]) [] (by kernel_rfl) (by kernel_rfl) trivial ?_
        refine wpr_call (dst := some 49) (rest := ([row 28 3 a2 (cellsL j).length c2 (List.flatMap valC (cellsL j)), .blk g 59 [.bool true, .int .i64 M, .int .i64 (↑((k + 1) * i) : Int), .slice a1 l1.length c1], row 43 2 a1 l1.length c1 (List.flatMap objC l1), star (List.map obRow l1), gWords, gPow])) (by kernel_rfl) (number_spec j) (give [] (by kernel_rfl)) ?_
        rintro v _ ⟨rfl, rfl⟩
        refine wpr_new (l₂ := [4, 5]) true [3] [] (fun g1 => [(50, .slice (some ⟨g1, 0, none⟩) 1 1), (47, .slice a2 (cellsL j).length c2), (11, .int .i64 (↑j : Int)), (10, .slice a2 (cellsL j).length c2), (9, .int .i64 (↑i : Int)), (8, .int .i64 M), (7, .pointer (some ⟨g, 0, none⟩)), (6, .bool false), (1, .int .i64 (↑k : Int)), (2, .int .i64 (↑n : Int))]) (fun g1 => ([row 28 3 a2 (cellsL j).length c2 (List.flatMap valC (cellsL j)), .blk g 59 [.bool true, .int .i64 M, .int .i64 (↑((k + 1) * i) : Int), .slice a1 l1.length c1], row 43 2 a1 l1.length c1 (List.flatMap objC l1), star (List.map obRow l1), gWords, gPow, .blk g1 28 [.int .i64 1, .int .i64 (↑j : Int), .string (mkS [])]])) (fun g1 => []) (fun g1 => by kernel_rfl) (fun g1 => by kernel_rfl) (fun g1 => trivial) fun g1 => ?_
        refine wpr_ent (ent_turn (c := .blk g1 28 (valC (numV j))) 6 (ro (some ⟨g1, 0, none⟩) (valC (numV j))) rfl (turn_rblk (val_one _)) rfl) ?_
        refine wpr_app (a := a2) (n := ((cellsL j).length)) (cap := c2) (x := (.slice (some ⟨g1, 0, none⟩) 1 1)) (t := 25) (xt := 25) (dst := some 51) (by kernel_rfl) (e := 28) (sz := 3) (bytes := 32) (by kernel_rfl) 0 (xs := (List.flatMap valC (cellsL j))) (by kernel_rfl) (m := 1) (news := (valC (numV j))) (fun w h => src_ro h 6 rfl rfl (fun e => by cases e)) (by unfold maxLen; omega) (by omega) ?_
        intro a3 c3 hn3
        rw [show (cellsL j).length + 1 = (cellsL (j + 1)).length by rw [cellsL_len, cellsL_len], show (cellsL j).flatMap valC ++ valC (numV j) = (cellsL (j + 1)).flatMap valC by rw [cellsL_succ, List.flatMap_append]; simp]
        refine wpr_run (l₂ := []) true [5] [] ([(10, .slice a3 (cellsL (j + 1)).length c3), (11, .int .i64 (↑j : Int)), (9, .int .i64 (↑i : Int)), (8, .int .i64 M), (7, .pointer (some ⟨g, 0, none⟩)), (6, .bool false), (1, .int .i64 (↑k : Int)), (2, .int .i64 (↑n : Int))]) ([row 28 3 a3 (cellsL (j + 1)).length c3 (List.flatMap valC (cellsL (j + 1))), .blk g 59 [.bool true, .int .i64 M, .int .i64 (↑((k + 1) * i) : Int), .slice a1 l1.length c1], row 43 2 a1 l1.length c1 (List.flatMap objC l1), star (List.map obRow l1), gWords, gPow, ro (some ⟨g1, 0, none⟩) (valC (numV (↑j : Int)))]) [] (by kernel_rfl) (by kernel_rfl) trivial ?_
        refine wpr_nil (nx_block (nx_then ?_))
        refine wpc_region [0, 1, 2] (by kernel_rfl) ?_
        refine wpr_run (l₂ := []) true [0, 1, 2] [] ([(11, .int .i64 ((↑j : Int) + 1)), (10, .slice a3 (cellsL (j + 1)).length c3), (9, .int .i64 (↑i : Int)), (8, .int .i64 M), (7, .pointer (some ⟨g, 0, none⟩)), (6, .bool false), (1, .int .i64 (↑k : Int)), (2, .int .i64 (↑n : Int))]) ([row 28 3 a3 (cellsL (j + 1)).length c3 (List.flatMap valC (cellsL (j + 1))), .blk g 59 [.bool true, .int .i64 M, .int .i64 (↑((k + 1) * i) : Int), .slice a1 l1.length c1], row 43 2 a1 l1.length c1 (List.flatMap objC l1), star (List.map obRow l1), gWords, gPow, ro (some ⟨g1, 0, none⟩) (valC (numV (↑j : Int)))]) ([inI64 ((↑j : Int) + (1 : Int))]) (by kernel_rfl) (by kernel_rfl) ⟨by unfold inI64; omega, trivial⟩ ?_
        refine wpr_nil ?_
        exact fun a' w' hS' => ⟨⟨(j + 1, a3, c3), hjk⟩, by dsimp only; omega, ent_fr (by kernel_rfl) _ _ (ent_hp [0, 0, 0, 0, 0, 0] rfl _ _ hS')⟩
      · obtain rfl : j = k := by omega
        refine wpc_fact (fun w h => row_cap h 0 rfl) fun hcap => ?_
        refine wpc_fact (p := a2 = none → cellsL j = []) (fun w h e => ?_) fun hnil => ?_
        · rcases Nat.eq_zero_or_pos (cellsL j).length with h0 | h0
          · exact List.eq_nil_of_length_eq_zero h0
          · obtain ⟨g9, o9, e9⟩ := row_addr h 0 rfl h0
            rw [e] at e9; cases e9
        have hal := Alloc_o g M a1 c1 l1 (fullL j i) hm [] (cellsL j) a2 c2 hmo (by rw [fullL_used]; exact hu) hnil hcap.2.1 (by omega) (by decide) (cellsL_sm j)
        rw [full_alloc, fullL_used] at hal
        have hms : (j + 1) * (i + 1) = (j + 1) * i + (j + 1) := Nat.mul_succ _ _
        have hml : (j + 1) * i ≤ 51 * 500 := Nat.mul_le_mul (by omega) (by omega)
        have hmc : ((i : Int) + 1) * ((j : Int) + 1) = ((j + 1) * (i + 1) : Nat) := by rw [Int.mul_comm]; norm_cast
        have hmc2 : (i : Int) * ((j : Int) + 1) = ((j + 1) * i : Nat) := by rw [Int.mul_comm]; norm_cast
        by_cases hf : (j : Int) < M - ((j + 1) * i : Nat)
        · rw [if_pos hf] at hal
          dsimp only at hal
          rw [fullL_used] at hal
          unfold heapB heapR heapS valV atV at hal
          dsimp only at hal
          refine wpc_seq (wpc_seq ?_)
          refine wpc_region [0, 1, 2] (by kernel_rfl) ?_
          refine wpr_run (l₂ := []) true [0, 1, 2] [] [(44, .bool (decide ((↑j : Int) < (↑j : Int)))), (11, .int .i64 (↑j : Int)), (10, .slice a2 (cellsL j).length c2), (9, .int .i64 (↑i : Int)), (8, .int .i64 M), (7, .pointer (some ⟨g, 0, none⟩)), (6, .bool false), (1, .int .i64 (↑j : Int)), (2, .int .i64 (↑n : Int))] ([row 28 3 a2 (cellsL j).length c2 (List.flatMap valC (cellsL j)), .blk g 59 [.bool true, .int .i64 M, .int .i64 (↑((j + 1) * i) : Int), .slice a1 l1.length c1], row 43 2 a1 l1.length c1 (List.flatMap objC l1), star (List.map obRow l1), gWords, gPow]) [] (by kernel_rfl) (by kernel_rfl) trivial ?_
          refine wpr_nil (nx_then ?_)
          refine wpc_ent (ent_set 44 (.bool (decide ((↑j : Int) < (↑j : Int)))) (.bool false) (by kernel_rfl) (congrArg _ (by simp))) ?_
          refine wpc_false (by kernel_rfl) ?_
          refine wpc_exit ?_
          refine nx_then_exit ?_
          refine nx_then_exit ?_
          refine nx_block_here ?_
          refine nx_then (wpc_seq ?_)
          refine wpc_region [0, 1, 2, 3, 4, 5, 6, 7, 8] (by kernel_rfl) ?_
          refine wpr_run (l₂ := [2, 3, 4, 5, 6, 7, 8]) true [0, 1] [] [(54, .slice a2 (cellsL j).length c2), (53, .pointer (some ⟨g, 0, none⟩)), (9, .int .i64 (↑i : Int)), (8, .int .i64 M), (7, .pointer (some ⟨g, 0, none⟩)), (6, .bool false), (1, .int .i64 (↑j : Int)), (2, .int .i64 (↑n : Int))] ([row 28 3 a2 (cellsL j).length c2 (List.flatMap valC (cellsL j)), .blk g 59 [.bool true, .int .i64 M, .int .i64 (↑((j + 1) * i) : Int), .slice a1 l1.length c1], row 43 2 a1 l1.length c1 (List.flatMap objC l1), star (List.map obRow l1), gWords, gPow]) [] (by kernel_rfl) (by kernel_rfl) trivial ?_
          refine wpr_call (dst := some 55) (rest := [row 28 3 a2 (cellsL j).length c2 (List.flatMap valC (cellsL j)), gWords, gPow]) (by kernel_rfl) (hal) (Give.reorder (Give.view (c := (row 28 3 a2 (cellsL j).length c2 (List.flatMap valC (cellsL j)))) (Give.view (c := gWords) (give (pre := ([.blk g 59 [.bool true, .int .i64 M, .int .i64 (↑((j + 1) * i) : Int), .slice a1 l1.length c1], row 43 2 a1 l1.length c1 (List.flatMap objC l1), star (List.map obRow l1)])) (rest := [row 28 3 a2 (cellsL j).length c2 (List.flatMap valC (cellsL j)), gWords, gPow]) [1, 1, 1] (by kernel_rfl)) 1 (by kernel_rfl) view_ro) 0 (by kernel_rfl) view_row) [2, 2, 2, 0, 0] (by kernel_rfl)) ?_
          rintro v _ ⟨a3, c3, l3, hm3, rfl, rfl⟩
          refine wpr_new (l₂ := [7, 8]) true [3, 4, 5, 6] [] (fun g1 => [(12, .pointer (some ⟨g1, 0, none⟩)), (57, .int .i64 0), (56, .agg #[.int .i64 4, .int .i64 (↑i : Int), .string (mkS [])]), (9, .int .i64 (↑i : Int)), (8, .int .i64 M), (7, .pointer (some ⟨g, 0, none⟩)), (6, .bool false), (1, .int .i64 (↑j : Int)), (2, .int .i64 (↑n : Int))]) (fun g1 => ([.blk g 59 [.bool true, .int .i64 M, .int .i64 (↑((j + 1) * (i + 1)) : Int), .slice a3 l3.length c3], row 43 2 a3 l3.length c3 (List.flatMap objC l3), star (List.map obRow l3), row 28 3 a2 (cellsL j).length c2 (List.flatMap valC (cellsL j)), gWords, gPow, .blk g1 28 [.int .i64 0, .int .i64 0, .string ⟨#[]⟩]])) (fun g1 => []) (fun g1 => by kernel_rfl) (fun g1 => by kernel_rfl) (fun g1 => trivial) fun g1 => ?_
          refine wpr_run (l₂ := []) true [7, 8] [6, 6, 6] [(13, .int .i64 0), (12, .pointer (some ⟨g1, 0, none⟩)), (9, .int .i64 (↑i : Int)), (8, .int .i64 M), (7, .pointer (some ⟨g, 0, none⟩)), (6, .bool false), (1, .int .i64 (↑j : Int)), (2, .int .i64 (↑n : Int))] ([.blk g 59 [.bool true, .int .i64 M, .int .i64 (↑((j + 1) * (i + 1)) : Int), .slice a3 l3.length c3], row 43 2 a3 l3.length c3 (List.flatMap objC l3), star (List.map obRow l3), row 28 3 a2 (cellsL j).length c2 (List.flatMap valC (cellsL j)), gWords, gPow, .blk g1 28 [.int .i64 4, .int .i64 (↑i : Int), .string (mkS [])]]) [] (by kernel_rfl) (by kernel_rfl) trivial ?_
          refine wpr_nil (nx_then (wpc_seq ?_))
          refine wpc_region [0, 1, 2, 3, 4, 5, 6, 7] (by kernel_rfl) ?_
          refine wpr_run (l₂ := []) true [0, 1, 2, 3, 4, 5, 6, 7] [] ([(14, .bool (decide (((↑i : Int) + 1) * ((↑j : Int) + 1) ≤ M))), (13, .int .i64 0), (12, .pointer (some ⟨g1, 0, none⟩)), (9, .int .i64 (↑i : Int)), (8, .int .i64 M), (7, .pointer (some ⟨g, 0, none⟩)), (6, .bool false), (1, .int .i64 (↑j : Int)), (2, .int .i64 (↑n : Int))]) ([.blk g 59 [.bool true, .int .i64 M, .int .i64 (↑((j + 1) * (i + 1)) : Int), .slice a3 l3.length c3], row 43 2 a3 l3.length c3 (List.flatMap objC l3), star (List.map obRow l3), row 28 3 a2 (cellsL j).length c2 (List.flatMap valC (cellsL j)), gWords, gPow, .blk g1 28 [.int .i64 4, .int .i64 (↑i : Int), .string (mkS [])]]) ([inI64 ((↑i : Int) + (1 : Int)), inI64 ((↑j : Int) + (1 : Int)), inI64 (((↑i : Int) + (1 : Int)) * ((↑j : Int) + (1 : Int)))]) (by kernel_rfl) (by kernel_rfl) ⟨by unfold inI64; omega, by unfold inI64; omega, by unfold inI64; omega, trivial⟩ ?_
          refine wpr_nil (nx_then (wpc_seq (wpc_seq ?_)))
          refine wpc_ent (ent_set 14 (.bool (decide (((↑i : Int) + 1) * ((↑j : Int) + 1) ≤ M))) (.bool true) (by kernel_rfl) (by rw [decide_eq_true (by omega)])) ?_
          refine wpc_draw (by kernel_rfl) [.blk g1 28 [.int .i64 4, .int .i64 (↑i : Int), .string (mkS [])]] (sub_of [6] (by kernel_rfl)) 30 (by kernel_rfl) ?_
          refine wpa_take true [(0, []), (1, []), (2, [0, 0, 0]), (3, [])] [(68, .int .i64 (↑i : Int)), (67, .agg #[.int .i64 4, .int .i64 (↑i : Int), .string (mkS [])]), (66, .bool true), (14, .bool true), (13, .int .i64 0), (12, .pointer (some ⟨g1, 0, none⟩)), (9, .int .i64 (↑i : Int)), (8, .int .i64 M), (7, .pointer (some ⟨g, 0, none⟩)), (6, .bool false), (1, .int .i64 (↑j : Int)), (2, .int .i64 (↑n : Int))] (#[true, true, true, true, false, false, false, false, false, false, false, false, false, false, false, false, false, false, false, false, false, false, false, false, false, false, false, false, false, false]) [] (n := 26) (by kernel_rfl) (by kernel_rfl) (by kernel_rfl) trivial ?_
          refine wpa_call (i := 4) (n := 25) (dst := some 69) (rest := ([.blk g 59 [.bool true, .int .i64 M, .int .i64 (↑((j + 1) * (i + 1)) : Int), .slice a3 l3.length c3], row 43 2 a3 l3.length c3 (List.flatMap objC l3), star (List.map obRow l3), row 28 3 a2 (cellsL j).length c2 (List.flatMap valC (cellsL j)), gWords, gPow, .blk g1 28 [.int .i64 4, .int .i64 (↑i : Int), .string (mkS [])]])) (by kernel_rfl) (by kernel_rfl) (at_spec i) (give [] (by kernel_rfl)) (sub_of [6] (by kernel_rfl)) ?_
          rintro v _ ⟨rfl, rfl⟩
          refine wpa_eqc_same (i := 5) (n := 24) (by kernel_rfl) (b := false) (t := 28) (xs := valC (atV i)) (dst := some 70) (by kernel_rfl) (by kernel_rfl) (sub_of [6] (by kernel_rfl)) ?_
          refine wpa_take true [(6, []), (7, []), (8, []), (9, []), (10, []), (11, []), (12, []), (13, []), (14, []), (15, []), (16, []), (17, []), (18, []), (19, []), (20, []), (21, []), (22, []), (23, []), (24, []), (25, []), (27, [])] [(92, .int .i64 M), (90, .pointer (some ⟨g, 0, none⟩)), (89, .bool false), (14, .bool true), (9, .int .i64 (↑i : Int)), (8, .int .i64 M), (7, .pointer (some ⟨g, 0, none⟩)), (6, .bool false), (1, .int .i64 (↑j : Int)), (2, .int .i64 (↑n : Int))] (#[true, true, true, true, true, true, true, true, true, true, true, true, true, true, true, true, true, true, true, true, true, true, true, true, true, true, false, true, false, false]) [] (n := 3) (by kernel_rfl) (by kernel_rfl) (by kernel_rfl) trivial ?_
          refine wpa_call (i := 26) (n := 2) (dst := some 91) (rest := [row 43 2 a3 l3.length c3 (List.flatMap objC l3), star (List.map obRow l3), row 28 3 a2 (cellsL j).length c2 (List.flatMap valC (cellsL j)), gWords, gPow, .blk g1 28 [.int .i64 4, .int .i64 (↑i : Int), .string (mkS [])]]) (by kernel_rfl) (by kernel_rfl) (Used_spec g M ((j + 1) * (i + 1)) (.slice a3 l3.length c3)) (give [0] (by kernel_rfl)) (sub_of [5] (by kernel_rfl)) ?_
          rintro v _ ⟨rfl, rfl⟩
          refine wpa_take true [(28, []), (29, [])] ([(94, .bool (decide ((↑((j + 1) * (i + 1)) : Int) > M))), (14, .bool true), (9, .int .i64 (↑i : Int)), (8, .int .i64 M), (7, .pointer (some ⟨g, 0, none⟩)), (6, .bool false), (1, .int .i64 (↑j : Int)), (2, .int .i64 (↑n : Int))]) (#[true, true, true, true, true, true, true, true, true, true, true, true, true, true, true, true, true, true, true, true, true, true, true, true, true, true, true, true, true, true]) [] (n := 0) (by kernel_rfl) (by kernel_rfl) (by kernel_rfl) trivial ?_
          refine wpa_done 0 (by kernel_rfl) ?_
          refine nx_then ?_
          refine wpc_ent (ent_set 94 (.bool (decide ((↑((j + 1) * (i + 1)) : Int) > M))) (.bool false) (by kernel_rfl) (congrArg _ (decide_eq_false (by omega)))) ?_
          refine wpc_false (by kernel_rfl) ?_
          refine wpc_skip ?_
          refine nx_then (wpc_seq ?_)
          refine wpc_region [0, 1] (by kernel_rfl) ?_
          refine wpr_run (l₂ := []) true [0, 1] [] [(96, .bool false), (9, .int .i64 (↑i : Int)), (8, .int .i64 M), (7, .pointer (some ⟨g, 0, none⟩)), (6, .bool false), (1, .int .i64 (↑j : Int)), (2, .int .i64 (↑n : Int))] ([.blk g 59 [.bool true, .int .i64 M, .int .i64 (↑((j + 1) * (i + 1)) : Int), .slice a3 l3.length c3], row 43 2 a3 l3.length c3 (List.flatMap objC l3), star (List.map obRow l3), row 28 3 a2 (cellsL j).length c2 (List.flatMap valC (cellsL j)), gWords, gPow, .blk g1 28 [.int .i64 4, .int .i64 (↑i : Int), .string (mkS [])]]) [] (by kernel_rfl) (by kernel_rfl) trivial ?_
          refine wpr_nil (nx_then ?_)
          refine wpc_false (by kernel_rfl) ?_
          refine wpc_skip ?_
          refine nx_block (nx_then ?_)
          refine wpc_region [0, 1, 2] (by kernel_rfl) ?_
          refine wpr_run (l₂ := []) true [0, 1, 2] [] ([(9, .int .i64 ((↑i : Int) + 1)), (8, .int .i64 M), (7, .pointer (some ⟨g, 0, none⟩)), (6, .bool false), (1, .int .i64 (↑j : Int)), (2, .int .i64 (↑n : Int))]) ([.blk g 59 [.bool true, .int .i64 M, .int .i64 (↑((j + 1) * (i + 1)) : Int), .slice a3 l3.length c3], row 43 2 a3 l3.length c3 (List.flatMap objC l3), star (List.map obRow l3), row 28 3 a2 (cellsL j).length c2 (List.flatMap valC (cellsL j)), gWords, gPow, .blk g1 28 [.int .i64 4, .int .i64 (↑i : Int), .string (mkS [])]]) ([inI64 ((↑i : Int) + (1 : Int))]) (by kernel_rfl) (by kernel_rfl) ⟨by unfold inI64; omega, trivial⟩ ?_
          refine wpr_nil ?_
          exact fun a' w' hS' => ⟨⟨(i + 1, a3, c3, l3), hlt, hm3, by show (((j + 1) * (i + 1) : Nat) : Int) ≤ M; omega⟩, by dsimp only; omega, ent_fr (by kernel_rfl) _ _ (ent_hp [0, 0, 0, 1, 1] rfl _ _ hS')⟩
        · rw [if_neg hf] at hal
          dsimp only at hal
          rw [fullL_used] at hal
          unfold heapB heapR heapS valV noV at hal
          dsimp only at hal
          refine wpc_seq (wpc_seq ?_)
          refine wpc_region [0, 1, 2] (by kernel_rfl) ?_
          refine wpr_run (l₂ := []) true [0, 1, 2] [] [(44, .bool (decide ((↑j : Int) < (↑j : Int)))), (11, .int .i64 (↑j : Int)), (10, .slice a2 (cellsL j).length c2), (9, .int .i64 (↑i : Int)), (8, .int .i64 M), (7, .pointer (some ⟨g, 0, none⟩)), (6, .bool false), (1, .int .i64 (↑j : Int)), (2, .int .i64 (↑n : Int))] ([row 28 3 a2 (cellsL j).length c2 (List.flatMap valC (cellsL j)), .blk g 59 [.bool true, .int .i64 M, .int .i64 (↑((j + 1) * i) : Int), .slice a1 l1.length c1], row 43 2 a1 l1.length c1 (List.flatMap objC l1), star (List.map obRow l1), gWords, gPow]) [] (by kernel_rfl) (by kernel_rfl) trivial ?_
          refine wpr_nil (nx_then ?_)
          refine wpc_ent (ent_set 44 (.bool (decide ((↑j : Int) < (↑j : Int)))) (.bool false) (by kernel_rfl) (congrArg _ (by simp))) ?_
          refine wpc_false (by kernel_rfl) ?_
          refine wpc_exit ?_
          refine nx_then_exit ?_
          refine nx_then_exit ?_
          refine nx_block_here ?_
          refine nx_then (wpc_seq ?_)
          refine wpc_region [0, 1, 2, 3, 4, 5, 6, 7, 8] (by kernel_rfl) ?_
          refine wpr_run (l₂ := [2, 3, 4, 5, 6, 7, 8]) true [0, 1] [] [(54, .slice a2 (cellsL j).length c2), (53, .pointer (some ⟨g, 0, none⟩)), (9, .int .i64 (↑i : Int)), (8, .int .i64 M), (7, .pointer (some ⟨g, 0, none⟩)), (6, .bool false), (1, .int .i64 (↑j : Int)), (2, .int .i64 (↑n : Int))] ([row 28 3 a2 (cellsL j).length c2 (List.flatMap valC (cellsL j)), .blk g 59 [.bool true, .int .i64 M, .int .i64 (↑((j + 1) * i) : Int), .slice a1 l1.length c1], row 43 2 a1 l1.length c1 (List.flatMap objC l1), star (List.map obRow l1), gWords, gPow]) [] (by kernel_rfl) (by kernel_rfl) trivial ?_
          refine wpr_call (dst := some 55) (rest := [row 28 3 a2 (cellsL j).length c2 (List.flatMap valC (cellsL j)), gWords, gPow]) (by kernel_rfl) (hal) (Give.reorder (Give.view (c := (row 28 3 a2 (cellsL j).length c2 (List.flatMap valC (cellsL j)))) (Give.view (c := gWords) (give (pre := ([.blk g 59 [.bool true, .int .i64 M, .int .i64 (↑((j + 1) * i) : Int), .slice a1 l1.length c1], row 43 2 a1 l1.length c1 (List.flatMap objC l1), star (List.map obRow l1)])) (rest := [row 28 3 a2 (cellsL j).length c2 (List.flatMap valC (cellsL j)), gWords, gPow]) [1, 1, 1] (by kernel_rfl)) 1 (by kernel_rfl) view_ro) 0 (by kernel_rfl) view_row) [2, 2, 2, 0, 0] (by kernel_rfl)) ?_
          rintro v _ ⟨a3, c3, l3, hm3, rfl, rfl⟩
          refine wpr_new (l₂ := [7, 8]) true [3, 4, 5, 6] [] (fun g1 => [(12, .pointer (some ⟨g1, 0, none⟩)), (57, .int .i64 12), (56, .agg #[.int .i64 0, .int .i64 0, .string (mkS [])]), (9, .int .i64 (↑i : Int)), (8, .int .i64 M), (7, .pointer (some ⟨g, 0, none⟩)), (6, .bool false), (1, .int .i64 (↑j : Int)), (2, .int .i64 (↑n : Int))]) (fun g1 => ([.blk g 59 [.bool true, .int .i64 M, .int .i64 (↑((j + 1) * i) : Int), .slice a3 l3.length c3], row 43 2 a3 l3.length c3 (List.flatMap objC l3), star (List.map obRow l3), row 28 3 a2 (cellsL j).length c2 (List.flatMap valC (cellsL j)), gWords, gPow, .blk g1 28 [.int .i64 0, .int .i64 0, .string ⟨#[]⟩]])) (fun g1 => []) (fun g1 => by kernel_rfl) (fun g1 => by kernel_rfl) (fun g1 => trivial) fun g1 => ?_
          refine wpr_run (l₂ := []) true [7, 8] [6, 6, 6] [(13, .int .i64 12), (12, .pointer (some ⟨g1, 0, none⟩)), (9, .int .i64 (↑i : Int)), (8, .int .i64 M), (7, .pointer (some ⟨g, 0, none⟩)), (6, .bool false), (1, .int .i64 (↑j : Int)), (2, .int .i64 (↑n : Int))] ([.blk g 59 [.bool true, .int .i64 M, .int .i64 (↑((j + 1) * i) : Int), .slice a3 l3.length c3], row 43 2 a3 l3.length c3 (List.flatMap objC l3), star (List.map obRow l3), row 28 3 a2 (cellsL j).length c2 (List.flatMap valC (cellsL j)), gWords, gPow, .blk g1 28 [.int .i64 0, .int .i64 0, .string (mkS [])]]) [] (by kernel_rfl) (by kernel_rfl) trivial ?_
          refine wpr_nil (nx_then (wpc_seq ?_))
          refine wpc_region [0, 1, 2, 3, 4, 5, 6, 7] (by kernel_rfl) ?_
          refine wpr_run (l₂ := []) true [0, 1, 2, 3, 4, 5, 6, 7] [] ([(14, .bool (decide (((↑i : Int) + 1) * ((↑j : Int) + 1) ≤ M))), (13, .int .i64 12), (12, .pointer (some ⟨g1, 0, none⟩)), (9, .int .i64 (↑i : Int)), (8, .int .i64 M), (7, .pointer (some ⟨g, 0, none⟩)), (6, .bool false), (1, .int .i64 (↑j : Int)), (2, .int .i64 (↑n : Int))]) ([.blk g 59 [.bool true, .int .i64 M, .int .i64 (↑((j + 1) * i) : Int), .slice a3 l3.length c3], row 43 2 a3 l3.length c3 (List.flatMap objC l3), star (List.map obRow l3), row 28 3 a2 (cellsL j).length c2 (List.flatMap valC (cellsL j)), gWords, gPow, .blk g1 28 [.int .i64 0, .int .i64 0, .string (mkS [])]]) ([inI64 ((↑i : Int) + (1 : Int)), inI64 ((↑j : Int) + (1 : Int)), inI64 (((↑i : Int) + (1 : Int)) * ((↑j : Int) + (1 : Int)))]) (by kernel_rfl) (by kernel_rfl) ⟨by unfold inI64; omega, by unfold inI64; omega, by unfold inI64; omega, trivial⟩ ?_
          refine wpr_nil (nx_then (wpc_seq (wpc_seq ?_)))
          refine wpc_ent (ent_set 14 (.bool (decide (((↑i : Int) + 1) * ((↑j : Int) + 1) ≤ M))) (.bool false) (by kernel_rfl) (by rw [decide_eq_false (by omega)])) ?_
          refine wpc_draw (by kernel_rfl) [.blk g1 28 [.int .i64 0, .int .i64 0, .string (mkS [])]] (sub_of [6] (by kernel_rfl)) 30 (by kernel_rfl) ?_
          refine wpa_take true [(0, []), (1, []), (2, []), (3, []), (4, []), (5, []), (6, []), (7, []), (8, []), (9, []), (10, []), (11, []), (12, []), (13, []), (14, []), (15, [0, 0, 0]), (16, []), (17, []), (18, []), (19, []), (20, []), (21, []), (22, []), (23, []), (24, []), (25, []), (27, [])] [(92, .int .i64 M), (90, .pointer (some ⟨g, 0, none⟩)), (89, .bool false), (14, .bool false), (9, .int .i64 (↑i : Int)), (8, .int .i64 M), (7, .pointer (some ⟨g, 0, none⟩)), (6, .bool false), (1, .int .i64 (↑j : Int)), (2, .int .i64 (↑n : Int))] (#[true, true, true, true, true, true, true, true, true, true, true, true, true, true, true, true, true, true, true, true, true, true, true, true, true, true, false, true, false, false]) [] (n := 3) (by kernel_rfl) (by kernel_rfl) (by kernel_rfl) trivial ?_
          refine wpa_call (i := 26) (n := 2) (dst := some 91) (rest := [row 43 2 a3 l3.length c3 (List.flatMap objC l3), star (List.map obRow l3), row 28 3 a2 (cellsL j).length c2 (List.flatMap valC (cellsL j)), gWords, gPow, .blk g1 28 [.int .i64 0, .int .i64 0, .string (mkS [])]]) (by kernel_rfl) (by kernel_rfl) (Used_spec g M ((j + 1) * i) (.slice a3 l3.length c3)) (give [0] (by kernel_rfl)) (sub_of [5] (by kernel_rfl)) ?_
          rintro v _ ⟨rfl, rfl⟩
          refine wpa_take true [(28, []), (29, [])] ([(94, .bool (decide ((↑((j + 1) * i) : Int) > M))), (14, .bool false), (9, .int .i64 (↑i : Int)), (8, .int .i64 M), (7, .pointer (some ⟨g, 0, none⟩)), (6, .bool false), (1, .int .i64 (↑j : Int)), (2, .int .i64 (↑n : Int))]) (#[true, true, true, true, true, true, true, true, true, true, true, true, true, true, true, true, true, true, true, true, true, true, true, true, true, true, true, true, true, true]) [] (n := 0) (by kernel_rfl) (by kernel_rfl) (by kernel_rfl) trivial ?_
          refine wpa_done 0 (by kernel_rfl) ?_
          refine nx_then ?_
          refine wpc_ent (ent_set 94 (.bool (decide ((↑((j + 1) * i) : Int) > M))) (.bool false) (by kernel_rfl) (congrArg _ (decide_eq_false (by omega)))) ?_
          refine wpc_false (by kernel_rfl) ?_
          refine wpc_skip ?_
          refine nx_then (wpc_seq ?_)
          refine wpc_region [0, 1] (by kernel_rfl) ?_
          refine wpr_run (l₂ := []) true [0, 1] [] [(96, .bool true), (9, .int .i64 (↑i : Int)), (8, .int .i64 M), (7, .pointer (some ⟨g, 0, none⟩)), (6, .bool false), (1, .int .i64 (↑j : Int)), (2, .int .i64 (↑n : Int))] ([.blk g 59 [.bool true, .int .i64 M, .int .i64 (↑((j + 1) * i) : Int), .slice a3 l3.length c3], row 43 2 a3 l3.length c3 (List.flatMap objC l3), star (List.map obRow l3), row 28 3 a2 (cellsL j).length c2 (List.flatMap valC (cellsL j)), gWords, gPow, .blk g1 28 [.int .i64 0, .int .i64 0, .string (mkS [])]]) [] (by kernel_rfl) (by kernel_rfl) trivial ?_
          refine wpr_nil (nx_then ?_)
          refine wpc_true (by kernel_rfl) ?_
          refine wpc_seq ?_
          refine wpc_region [0, 1, 2, 3, 4, 5, 6, 7, 8, 9, 10] (by kernel_rfl) ?_
          refine wpr_run (l₂ := [1, 2, 3, 4, 5, 6, 7, 8, 9, 10]) true [0] [] [(97, .pointer (some ⟨g, 0, none⟩)), (9, .int .i64 (↑i : Int)), (8, .int .i64 M), (7, .pointer (some ⟨g, 0, none⟩)), (6, .bool false), (1, .int .i64 (↑j : Int)), (2, .int .i64 (↑n : Int))] ([.blk g 59 [.bool true, .int .i64 M, .int .i64 (↑((j + 1) * i) : Int), .slice a3 l3.length c3], row 43 2 a3 l3.length c3 (List.flatMap objC l3), star (List.map obRow l3), row 28 3 a2 (cellsL j).length c2 (List.flatMap valC (cellsL j)), gWords, gPow, .blk g1 28 [.int .i64 0, .int .i64 0, .string (mkS [])]]) [] (by kernel_rfl) (by kernel_rfl) trivial ?_
          refine wpr_call (dst := some 98) (rest := [row 43 2 a3 l3.length c3 (List.flatMap objC l3), star (List.map obRow l3), row 28 3 a2 (cellsL j).length c2 (List.flatMap valC (cellsL j)), gWords, gPow, .blk g1 28 [.int .i64 0, .int .i64 0, .string (mkS [])]]) (by kernel_rfl) (Used_spec g M ((j + 1) * i) (.slice a3 l3.length c3)) (give [0] (by kernel_rfl)) ?_
          rintro v _ ⟨rfl, rfl⟩
          refine wpr_run (l₂ := [8, 9, 10]) true [2, 3, 4, 5, 6, 7] [] ([(104, .bool ((↑((j + 1) * i) : Int) == (↑i : Int) * ((↑j : Int) + 1))), (9, .int .i64 (↑i : Int)), (8, .int .i64 M), (7, .pointer (some ⟨g, 0, none⟩)), (6, .bool false), (1, .int .i64 (↑j : Int)), (2, .int .i64 (↑n : Int))]) ([.blk g 59 [.bool true, .int .i64 M, .int .i64 (↑((j + 1) * i) : Int), .slice a3 l3.length c3], row 43 2 a3 l3.length c3 (List.flatMap objC l3), star (List.map obRow l3), row 28 3 a2 (cellsL j).length c2 (List.flatMap valC (cellsL j)), gWords, gPow, .blk g1 28 [.int .i64 0, .int .i64 0, .string (mkS [])]]) ([inI64 ((↑j : Int) + (1 : Int)), inI64 ((↑i : Int) * ((↑j : Int) + (1 : Int)))]) (by kernel_rfl) (by kernel_rfl) ⟨by unfold inI64; omega, by unfold inI64; omega, trivial⟩ ?_
          refine wpr_ent (ent_set 104 (.bool ((↑((j + 1) * i) : Int) == (↑i : Int) * ((↑j : Int) + 1))) (.bool true) (by kernel_rfl) (congrArg _ (by simp only [bne_iff_ne, beq_iff_eq, ne_eq]; omega))) ?_
          refine wpr_call (dst := some 105) (rest := ([.blk g 59 [.bool true, .int .i64 M, .int .i64 (↑((j + 1) * i) : Int), .slice a3 l3.length c3], row 43 2 a3 l3.length c3 (List.flatMap objC l3), star (List.map obRow l3), row 28 3 a2 (cellsL j).length c2 (List.flatMap valC (cellsL j)), gWords, gPow, .blk g1 28 [.int .i64 0, .int .i64 0, .string (mkS [])]])) (by kernel_rfl) (lives_spec) (Give.view (c := gWords) (Give.view (c := gPow) (give (pre := []) (rest := ([.blk g 59 [.bool true, .int .i64 M, .int .i64 (↑((j + 1) * i) : Int), .slice a3 l3.length c3], row 43 2 a3 l3.length c3 (List.flatMap objC l3), star (List.map obRow l3), row 28 3 a2 (cellsL j).length c2 (List.flatMap valC (cellsL j)), gWords, gPow, .blk g1 28 [.int .i64 0, .int .i64 0, .string (mkS [])]])) [] (by kernel_rfl)) 5 (by kernel_rfl) view_gPow) 4 (by kernel_rfl) view_ro) ?_
          rintro v _ ⟨rfl, rfl⟩
          refine wpr_run (l₂ := []) true [9, 10] [] [(6, .bool true), (9, .int .i64 (↑i : Int)), (8, .int .i64 M), (7, .pointer (some ⟨g, 0, none⟩)), (1, .int .i64 (↑j : Int)), (2, .int .i64 (↑n : Int))] ([.blk g 59 [.bool true, .int .i64 M, .int .i64 (↑((j + 1) * i) : Int), .slice a3 l3.length c3], row 43 2 a3 l3.length c3 (List.flatMap objC l3), star (List.map obRow l3), row 28 3 a2 (cellsL j).length c2 (List.flatMap valC (cellsL j)), gWords, gPow, .blk g1 28 [.int .i64 0, .int .i64 0, .string (mkS [])]]) [] (by kernel_rfl) (by kernel_rfl) trivial ?_
          refine wpr_nil (nx_then ?_)
          refine wpc_ret ?_
          refine nx_block_ret ?_
          refine nx_then_ret ?_
          refine nx_then_ret ?_
          refine nx_block_ret ?_
          refine nx_then_ret ?_
          refine nx_end (hp' := []) (rest := ([.blk g 59 [.bool true, .int .i64 M, .int .i64 (↑((j + 1) * i) : Int), .slice a3 l3.length c3], row 43 2 a3 l3.length c3 (List.flatMap objC l3), star (List.map obRow l3), row 28 3 a2 (cellsL j).length c2 (List.flatMap valC (cellsL j)), gWords, gPow, .blk g1 28 [.int .i64 0, .int .i64 0, .string (mkS [])]])) [] ((.bool true)) (by kernel_rfl) (by kernel_rfl) (give [] (by kernel_rfl)) (by first | ((repeat (first | exact trivial | refine ⟨trivial, ?_⟩)); done) | assumption) ?_ (.inr rfl)
          refine ⟨?_, rfl⟩
          first | rfl | (rw [hmc2]; simp)
    · obtain rfl : i = n := by omega
      have hml : (k + 1) * i ≤ 51 * 500 := Nat.mul_le_mul (by omega) (by omega)
      have hmc : (i : Int) * ((k : Int) + 1) = ((k + 1) * i : Nat) := by rw [Int.mul_comm]; norm_cast
      refine wpc_seq (wpc_seq ?_)
      refine wpc_region [0, 1, 2] (by kernel_rfl) ?_
      refine wpr_run (l₂ := []) true [0, 1, 2] [] [(39, .bool (decide ((↑i : Int) < (↑i : Int)))), (9, .int .i64 (↑i : Int)), (8, .int .i64 M), (7, .pointer (some ⟨g, 0, none⟩)), (6, .bool false), (1, .int .i64 (↑k : Int)), (2, .int .i64 (↑i : Int))] ([.blk g 59 [.bool true, .int .i64 M, .int .i64 (↑((k + 1) * i) : Int), .slice a1 l1.length c1], row 43 2 a1 l1.length c1 (List.flatMap objC l1), star (List.map obRow l1), gWords, gPow]) [] (by kernel_rfl) (by kernel_rfl) trivial ?_
      refine wpr_nil (nx_then ?_)
      refine wpc_ent (ent_set 39 (.bool (decide ((↑i : Int) < (↑i : Int)))) (.bool false) (by kernel_rfl) (congrArg _ (by simp))) ?_
      refine wpc_false (by kernel_rfl) ?_
      refine wpc_exit ?_
      refine nx_then_exit ?_
      refine nx_then_exit ?_
      refine nx_block_here ?_
      refine nx_then (wpc_seq ?_)
      refine wpc_region [0, 1, 2, 3, 4, 5, 6, 7, 8, 9, 10] (by kernel_rfl) ?_
      refine wpr_run (l₂ := [1, 2, 3, 4, 5, 6, 7, 8, 9, 10]) true [0] [] [(107, .pointer (some ⟨g, 0, none⟩)), (6, .bool false), (1, .int .i64 (↑k : Int)), (2, .int .i64 (↑i : Int))] ([.blk g 59 [.bool true, .int .i64 M, .int .i64 (↑((k + 1) * i) : Int), .slice a1 l1.length c1], row 43 2 a1 l1.length c1 (List.flatMap objC l1), star (List.map obRow l1), gWords, gPow]) [] (by kernel_rfl) (by kernel_rfl) trivial ?_
      refine wpr_call (dst := some 108) (rest := [row 43 2 a1 l1.length c1 (List.flatMap objC l1), star (List.map obRow l1), gWords, gPow]) (by kernel_rfl) (Used_spec g M ((k + 1) * i) (.slice a1 l1.length c1)) (give [0] (by kernel_rfl)) ?_
      rintro v _ ⟨rfl, rfl⟩
      refine wpr_run (l₂ := [8, 9, 10]) true [2, 3, 4, 5, 6, 7] [] ([(114, .bool ((↑((k + 1) * i) : Int) == (↑i : Int) * ((↑k : Int) + 1))), (6, .bool false)]) ([.blk g 59 [.bool true, .int .i64 M, .int .i64 (↑((k + 1) * i) : Int), .slice a1 l1.length c1], row 43 2 a1 l1.length c1 (List.flatMap objC l1), star (List.map obRow l1), gWords, gPow]) ([inI64 ((↑k : Int) + (1 : Int)), inI64 ((↑i : Int) * ((↑k : Int) + (1 : Int)))]) (by kernel_rfl) (by kernel_rfl) ⟨by unfold inI64; omega, by unfold inI64; omega, trivial⟩ ?_
      refine wpr_ent (ent_set 114 (.bool ((↑((k + 1) * i) : Int) == (↑i : Int) * ((↑k : Int) + 1))) (.bool true) (by kernel_rfl) (congrArg _ (by simp only [bne_iff_ne, beq_iff_eq, ne_eq]; omega))) ?_
      refine wpr_call (dst := some 115) (rest := ([.blk g 59 [.bool true, .int .i64 M, .int .i64 (↑((k + 1) * i) : Int), .slice a1 l1.length c1], row 43 2 a1 l1.length c1 (List.flatMap objC l1), star (List.map obRow l1), gWords, gPow])) (by kernel_rfl) (lives_spec) (Give.view (c := gWords) (Give.view (c := gPow) (give (pre := []) (rest := ([.blk g 59 [.bool true, .int .i64 M, .int .i64 (↑((k + 1) * i) : Int), .slice a1 l1.length c1], row 43 2 a1 l1.length c1 (List.flatMap objC l1), star (List.map obRow l1), gWords, gPow])) [] (by kernel_rfl)) 4 (by kernel_rfl) view_gPow) 3 (by kernel_rfl) view_ro) ?_
      rintro v _ ⟨rfl, rfl⟩
      refine wpr_run (l₂ := []) true [9, 10] [] [(6, .bool true)] ([.blk g 59 [.bool true, .int .i64 M, .int .i64 (↑((k + 1) * i) : Int), .slice a1 l1.length c1], row 43 2 a1 l1.length c1 (List.flatMap objC l1), star (List.map obRow l1), gWords, gPow]) [] (by kernel_rfl) (by kernel_rfl) trivial ?_
      refine wpr_nil (nx_then ?_)
      refine wpc_ret ?_
      refine nx_end (hp' := []) (rest := ([.blk g 59 [.bool true, .int .i64 M, .int .i64 (↑((k + 1) * i) : Int), .slice a1 l1.length c1], row 43 2 a1 l1.length c1 (List.flatMap objC l1), star (List.map obRow l1), gWords, gPow])) [] ((.bool true)) (by kernel_rfl) (by kernel_rfl) (give [] (by kernel_rfl)) (by first | ((repeat (first | exact trivial | refine ⟨trivial, ?_⟩)); done) | assumption) ?_ (.inr rfl)
      exact ⟨rfl, rfl⟩
end Go.Proofs.YtpfhleghgkeemaaGreatDoor
