import Derived.Test.YtmjhcadciblcdaaB17
import Derived.Test.YtmjhcadciblcdaaX16
namespace Go.Proofs.Ytmjhcadciblcdaa
open Go Go.Sx
set_option linter.unusedVariables false
set_option linter.unusedSimpArgs false

theorem rGet_spec (l : List UInt8) (at_ : Int) (hl : l.length ≤ 1048576) (h1 : -9223372036854775808 ≤ at_) (h2 : at_ ≤ 9223372036854775807) :
    Does Try.prog 19 [.string (mkS l), .int .i64 at_] [] (fun v hp' => v = .tuple #[.string (mkS (getL l at_).1), .int .i64 (getL l at_).2.1, .int .i64 (getL l at_).2.2] ∧ hp' = []) := by
  rw [← rgetL_eq]
  unfold rgetL
  by_cases hlo : at_ < 0 ∨ at_ > l.length
  · rw [if_pos hlo]
    rcases hlo with hlo | hlo
    · refine fn_enter Try.func19 rfl 70 rfl fun w0 h0 => ?_
      refine wpc_seq ?_
      refine wpc_region [0, 1, 2] (by kernel_rfl) ?_
      refine wpr_run (l₂ := []) true [0, 1, 2] [] [(6, Value.int IntKind.i64 0), (5, Value.int IntKind.i64 0), (4, Value.string { data := #[] }), (0, Value.string (mkS l)), (1, Value.int IntKind.i64 at_)] [] [] (by kernel_rfl) (by kernel_rfl) trivial ?_
      refine wpr_nil ?_
      refine nx_then ?_
      refine wpc_seq ?_
      refine wpc_seq ?_
      refine wpc_region [0, 1, 2, 3, 4, 5, 6, 7] (by kernel_rfl) ?_
      refine wpr_run (l₂ := [3, 4, 5, 6, 7]) true [0, 1, 2] [] [(13, Value.bool (decide (at_ < 0))), (6, Value.int IntKind.i64 0), (5, Value.int IntKind.i64 0), (4, Value.string { data := #[] }), (0, Value.string (mkS l)), (1, Value.int IntKind.i64 at_)] [] [] (by kernel_rfl) (by kernel_rfl) trivial ?_
      refine wpr_ent (ent_set 13 (Value.bool (decide (at_ < 0))) (Value.bool true) (by kernel_rfl) (congrArg _ (decide_eq_true (by omega)))) ?_
      refine wpr_run (l₂ := []) true [3, 4, 5, 6, 7] [] [(18, Value.bool true), (6, Value.int IntKind.i64 0), (5, Value.int IntKind.i64 0), (4, Value.string { data := #[] }), (0, Value.string (mkS l)), (1, Value.int IntKind.i64 at_)] [] [] (by kernel_rfl) (by kernel_rfl) trivial ?_
      refine wpr_nil ?_
      refine nx_then ?_
      refine wpc_true (by kernel_rfl) ?_
      refine wpc_seq ?_
      refine wpc_region [0, 1, 2] (by kernel_rfl) ?_
      refine wpr_run (l₂ := []) true [0, 1, 2] [] [(6, Value.int IntKind.i64 2), (5, Value.int IntKind.i64 0), (4, Value.string { data := #[] }), (0, Value.string (mkS l)), (1, Value.int IntKind.i64 at_)] [] [] (by kernel_rfl) (by kernel_rfl) trivial ?_
      refine wpr_nil ?_
      refine nx_then ?_
      refine wpc_ret ?_
      refine nx_then_ret ?_
      refine nx_end (hp' := []) (rest := []) [] ((Value.tuple #[Value.string { data := #[] }, Value.int IntKind.i64 0, Value.int IntKind.i64 2])) (by kernel_rfl) (by kernel_rfl) give_all (by first | ((repeat (first | exact trivial | refine ⟨trivial, ?_⟩)); done) | assumption) ?_ (.inr rfl)
      exact ⟨rfl, rfl⟩
    · by_cases hn : at_ < 0
      · refine fn_enter Try.func19 rfl 70 rfl fun w0 h0 => ?_
        refine wpc_seq ?_
        refine wpc_region [0, 1, 2] (by kernel_rfl) ?_
        refine wpr_run (l₂ := []) true [0, 1, 2] [] [(6, Value.int IntKind.i64 0), (5, Value.int IntKind.i64 0), (4, Value.string { data := #[] }), (0, Value.string (mkS l)), (1, Value.int IntKind.i64 at_)] [] [] (by kernel_rfl) (by kernel_rfl) trivial ?_
        refine wpr_nil ?_
        refine nx_then ?_
        refine wpc_seq ?_
        refine wpc_seq ?_
        refine wpc_region [0, 1, 2, 3, 4, 5, 6, 7] (by kernel_rfl) ?_
        refine wpr_run (l₂ := [3, 4, 5, 6, 7]) true [0, 1, 2] [] [(13, Value.bool (decide (at_ < 0))), (6, Value.int IntKind.i64 0), (5, Value.int IntKind.i64 0), (4, Value.string { data := #[] }), (0, Value.string (mkS l)), (1, Value.int IntKind.i64 at_)] [] [] (by kernel_rfl) (by kernel_rfl) trivial ?_
        refine wpr_ent (ent_set 13 (Value.bool (decide (at_ < 0))) (Value.bool true) (by kernel_rfl) (congrArg _ (decide_eq_true (by omega)))) ?_
        refine wpr_run (l₂ := []) true [3, 4, 5, 6, 7] [] [(18, Value.bool true), (6, Value.int IntKind.i64 0), (5, Value.int IntKind.i64 0), (4, Value.string { data := #[] }), (0, Value.string (mkS l)), (1, Value.int IntKind.i64 at_)] [] [] (by kernel_rfl) (by kernel_rfl) trivial ?_
        refine wpr_nil ?_
        refine nx_then ?_
        refine wpc_true (by kernel_rfl) ?_
        refine wpc_seq ?_
        refine wpc_region [0, 1, 2] (by kernel_rfl) ?_
        refine wpr_run (l₂ := []) true [0, 1, 2] [] [(6, Value.int IntKind.i64 2), (5, Value.int IntKind.i64 0), (4, Value.string { data := #[] }), (0, Value.string (mkS l)), (1, Value.int IntKind.i64 at_)] [] [] (by kernel_rfl) (by kernel_rfl) trivial ?_
        refine wpr_nil ?_
        refine nx_then ?_
        refine wpc_ret ?_
        refine nx_then_ret ?_
        refine nx_end (hp' := []) (rest := []) [] ((Value.tuple #[Value.string { data := #[] }, Value.int IntKind.i64 0, Value.int IntKind.i64 2])) (by kernel_rfl) (by kernel_rfl) give_all (by first | ((repeat (first | exact trivial | refine ⟨trivial, ?_⟩)); done) | assumption) ?_ (.inr rfl)
        exact ⟨rfl, rfl⟩
      · refine fn_enter Try.func19 rfl 70 rfl fun w0 h0 => ?_
        refine wpc_seq ?_
        refine wpc_region [0, 1, 2] (by kernel_rfl) ?_
        refine wpr_run (l₂ := []) true [0, 1, 2] [] [(6, Value.int IntKind.i64 0), (5, Value.int IntKind.i64 0), (4, Value.string { data := #[] }), (0, Value.string (mkS l)), (1, Value.int IntKind.i64 at_)] [] [] (by kernel_rfl) (by kernel_rfl) trivial ?_
        refine wpr_nil ?_
        refine nx_then ?_
        refine wpc_seq ?_
        refine wpc_seq ?_
        refine wpc_region [0, 1, 2, 3, 4, 5, 6, 7] (by kernel_rfl) ?_
        refine wpr_run (l₂ := [3, 4, 5, 6, 7]) true [0, 1, 2] [] [(13, Value.bool (decide (at_ < 0))), (6, Value.int IntKind.i64 0), (5, Value.int IntKind.i64 0), (4, Value.string { data := #[] }), (0, Value.string (mkS l)), (1, Value.int IntKind.i64 at_)] [] [] (by kernel_rfl) (by kernel_rfl) trivial ?_
        refine wpr_ent (ent_set 13 (Value.bool (decide (at_ < 0))) (Value.bool false) (by kernel_rfl) (congrArg _ (decide_eq_false (by omega)))) ?_
        refine wpr_run (l₂ := []) true [3, 4, 5, 6, 7] [] [(18, Value.bool (decide (at_ > (↑l.length : Int)))), (6, Value.int IntKind.i64 0), (5, Value.int IntKind.i64 0), (4, Value.string { data := #[] }), (0, Value.string (mkS l)), (1, Value.int IntKind.i64 at_)] [] [] (by kernel_rfl) (by kernel_rfl) trivial ?_
        refine wpr_nil ?_
        refine nx_then ?_
        refine wpc_ent (ent_set 18 (Value.bool (decide (at_ > (↑l.length : Int)))) (Value.bool true) (by kernel_rfl) (congrArg _ (decide_eq_true (by omega)))) ?_
        refine wpc_true (by kernel_rfl) ?_
        refine wpc_seq ?_
        refine wpc_region [0, 1, 2] (by kernel_rfl) ?_
        refine wpr_run (l₂ := []) true [0, 1, 2] [] [(6, Value.int IntKind.i64 2), (5, Value.int IntKind.i64 0), (4, Value.string { data := #[] }), (0, Value.string (mkS l)), (1, Value.int IntKind.i64 at_)] [] [] (by kernel_rfl) (by kernel_rfl) trivial ?_
        refine wpr_nil ?_
        refine nx_then ?_
        refine wpc_ret ?_
        refine nx_then_ret ?_
        refine nx_end (hp' := []) (rest := []) [] ((Value.tuple #[Value.string { data := #[] }, Value.int IntKind.i64 0, Value.int IntKind.i64 2])) (by kernel_rfl) (by kernel_rfl) give_all (by first | ((repeat (first | exact trivial | refine ⟨trivial, ?_⟩)); done) | assumption) ?_ (.inr rfl)
        exact ⟨rfl, rfl⟩
  rw [if_neg hlo]
  obtain ⟨p, rfl⟩ : ∃ p : Nat, at_ = p := ⟨at_.toNat, by omega⟩
  simp only [Int.toNat_natCast]
  have hcn := cnt_num (l.drop p) 1048576
  have hok := cnt_ok (l.drop p) 1048576
  obtain ⟨n, u, e, hq⟩ : ∃ n u e, cnt (l.drop p) 1048576 = (n, u, e) := ⟨_, _, _, rfl⟩
  have hT : List.take ((l.length : Int) - (p : Int)).toNat (List.drop p l) = l.drop p := List.take_of_length_le (by rw [List.length_drop]; omega)
  have hdl : (l.drop p).length = l.length - p := List.length_drop
  refine fn_enter Try.func19 rfl 70 rfl fun w0 h0 => ?_
  refine wpc_seq ?_
  refine wpc_region [0, 1, 2] (by kernel_rfl) ?_
  refine wpr_run (l₂ := []) true [0, 1, 2] [] [(6, Value.int IntKind.i64 0), (5, Value.int IntKind.i64 0), (4, Value.string { data := #[] }), (0, Value.string (mkS l)), (1, Value.int IntKind.i64 (↑p : Int))] [] [] (by kernel_rfl) (by kernel_rfl) trivial ?_
  refine wpr_nil ?_
  refine nx_then ?_
  refine wpc_seq ?_
  refine wpc_seq ?_
  refine wpc_region [0, 1, 2, 3, 4, 5, 6, 7] (by kernel_rfl) ?_
  refine wpr_run (l₂ := []) true [0, 1, 2, 3, 4, 5, 6, 7] [] [(18, Value.bool (decide ((↑p : Int) > (↑l.length : Int)))), (6, Value.int IntKind.i64 0), (5, Value.int IntKind.i64 0), (4, Value.string { data := #[] }), (0, Value.string (mkS l)), (1, Value.int IntKind.i64 (↑p : Int))] [] [] (by kernel_rfl) (by kernel_rfl) trivial ?_
  refine wpr_nil ?_
  refine nx_then ?_
  refine wpc_ent (ent_set 18 (Value.bool (decide ((↑p : Int) > (↑l.length : Int)))) (Value.bool false) (by kernel_rfl) (congrArg _ (decide_eq_false (by omega)))) ?_
  refine wpc_false (by kernel_rfl) ?_
  refine wpc_skip ?_
  refine nx_then ?_
  refine wpc_seq ?_
  refine wpc_region [0, 1, 2, 3, 4, 5, 6, 7, 8, 9, 10] (by kernel_rfl) ?_
  refine wpr_run (l₂ := [4, 5, 6, 7, 8, 9, 10]) true [0, 1, 2, 3] [] [(23, Value.agg #[Value.string (mkS (List.take ((↑l.length : Int) - (↑p : Int)).toNat (List.drop p l))), Value.int IntKind.i64 0, Value.int IntKind.i64 0]), (6, Value.int IntKind.i64 0), (5, Value.int IntKind.i64 0), (4, Value.string { data := #[] }), (0, Value.string (mkS l)), (1, Value.int IntKind.i64 (↑p : Int))] [] [(0 : Int) ≤ (↑p : Int) ∧ (↑p : Int) ≤ (↑l.length : Int)] (by kernel_rfl) (by kernel_rfl) ⟨by omega, trivial⟩ ?_
  rw [hT]
  refine wpr_call_all (dst := some 24) (by kernel_rfl) (rCount_spec (l.drop p) 0 0 1048576 (Nat.zero_le _) (by omega)) give_all ?_
  rintro v _ ⟨rfl, rfl⟩
  rw [hq] at hok ⊢
  rw [List.drop_zero, hq]
  dsimp only at hok ⊢
  by_cases he : e ≠ 0
  · have er : rd (0 : Int) 0 0 (n, u, e) = (0, 0, e) := by simp [rd, he]
    rw [er, if_pos he]
    unfold rrd
    refine wpr_new (l₂ := [9, 10]) true [5, 6, 7, 8] [] (fun g1 => [(7, Value.pointer (some { block := g1, off := 0 })), (26, Value.int IntKind.i64 0), (25, Value.agg #[Value.string (mkS (List.drop p l)), Value.int IntKind.i64 0, Value.int IntKind.i64 e]), (6, Value.int IntKind.i64 0), (5, Value.int IntKind.i64 0), (4, Value.string { data := #[] }), (0, Value.string (mkS l)), (1, Value.int IntKind.i64 (↑p : Int))]) (fun g1 => [Ch.blk g1 66 [Value.string { data := #[] }, Value.int IntKind.i64 0, Value.int IntKind.i64 0]]) (fun g1 => []) (fun g1 => by kernel_rfl) (fun g1 => by kernel_rfl) (fun g1 => trivial) fun g1 => ?_
    refine wpr_run (l₂ := []) true [9, 10] [0, 0, 0] [(8, Value.int IntKind.i64 0), (7, Value.pointer (some { block := g1, off := 0 })), (6, Value.int IntKind.i64 0), (5, Value.int IntKind.i64 0), (4, Value.string { data := #[] }), (0, Value.string (mkS l)), (1, Value.int IntKind.i64 (↑p : Int))] [Ch.blk g1 66 [Value.string (mkS (List.drop p l)), Value.int IntKind.i64 0, Value.int IntKind.i64 e]] [] (by kernel_rfl) (by kernel_rfl) trivial ?_
    refine wpr_nil ?_
    refine nx_then ?_
    refine wpc_seq ?_
    refine wpc_seq ?_
    refine wpc_region [0, 1, 2] (by kernel_rfl) ?_
    refine wpr_run (l₂ := []) true [0, 1, 2] [0] [(29, Value.bool (e != 0)), (8, Value.int IntKind.i64 0), (7, Value.pointer (some { block := g1, off := 0 })), (6, Value.int IntKind.i64 0), (5, Value.int IntKind.i64 0), (4, Value.string { data := #[] }), (0, Value.string (mkS l)), (1, Value.int IntKind.i64 (↑p : Int))] [Ch.blk g1 66 [Value.string (mkS (List.drop p l)), Value.int IntKind.i64 0, Value.int IntKind.i64 e]] [] (by kernel_rfl) (by kernel_rfl) trivial ?_
    refine wpr_nil ?_
    refine nx_then ?_
    refine wpc_ent (ent_set 29 (Value.bool (e != 0)) (Value.bool true) (by kernel_rfl) (congrArg _ (by simp only [bne_iff_ne, beq_iff_eq, ne_eq]; omega))) ?_
    refine wpc_true (by kernel_rfl) ?_
    refine wpc_seq ?_
    refine wpc_draw (by kernel_rfl) [Ch.blk g1 66 [Value.string (mkS (List.drop p l)), Value.int IntKind.i64 0, Value.int IntKind.i64 e]] (sub_of [0] (by kernel_rfl)) 5 (by kernel_rfl) ?_
    refine wpa_take true [(0, []), (1, [0]), (2, []), (3, []), (4, [])] [(6, Value.int IntKind.i64 e), (5, Value.int IntKind.i64 0), (4, Value.string { data := #[] }), (8, Value.int IntKind.i64 0), (7, Value.pointer (some { block := g1, off := 0 })), (0, Value.string (mkS l)), (1, Value.int IntKind.i64 (↑p : Int))] (#[true, true, true, true, true]) [] (n := 0) (by kernel_rfl) (by kernel_rfl) (by kernel_rfl) trivial ?_
    refine wpa_done 0 (by kernel_rfl) ?_
    refine nx_then ?_
    refine wpc_ret ?_
    refine nx_then_ret ?_
    refine nx_end (hp' := []) (rest := [Ch.blk g1 66 [Value.string (mkS (List.drop p l)), Value.int IntKind.i64 0, Value.int IntKind.i64 e]]) [] ((Value.tuple #[Value.string { data := #[] }, Value.int IntKind.i64 0, Value.int IntKind.i64 e])) (by kernel_rfl) (by kernel_rfl) (give [] (by kernel_rfl)) (by first | ((repeat (first | exact trivial | refine ⟨trivial, ?_⟩)); done) | assumption) ?_ (.inr rfl)
    exact ⟨rfl, rfl⟩
  · obtain rfl : e = 0 := Classical.not_not.1 he
    obtain ⟨hn1, hn2, hn3⟩ := hcn _ _ hq
    have er : rd (0 : Int) 0 0 (n, u, 0) = (n, u.toNat, 0) := by simp [rd]
    rw [er, if_neg (by simp)]
    obtain ⟨N, rfl⟩ : ∃ N : Nat, n = N := ⟨n.toNat, by omega⟩
    obtain ⟨U, rfl⟩ : ∃ U : Nat, u = U := ⟨u.toNat, by omega⟩
    simp only [Int.toNat_natCast]
    have hN : N ≤ 1048576 := by omega
    have hU : p + U ≤ l.length := by omega
    unfold rrd
    by_cases hsh : l.length < p + U + N + 4
    · rw [if_pos hsh]
      refine wpr_new (l₂ := [9, 10]) true [5, 6, 7, 8] [] (fun g1 => [(7, Value.pointer (some { block := g1, off := 0 })), (26, Value.int IntKind.i64 (↑N : Int)), (25, Value.agg #[Value.string (mkS (List.drop p l)), Value.int IntKind.i64 (↑U : Int), Value.int IntKind.i64 0]), (6, Value.int IntKind.i64 0), (5, Value.int IntKind.i64 0), (4, Value.string { data := #[] }), (0, Value.string (mkS l)), (1, Value.int IntKind.i64 (↑p : Int))]) (fun g1 => [Ch.blk g1 66 [Value.string { data := #[] }, Value.int IntKind.i64 0, Value.int IntKind.i64 0]]) (fun g1 => []) (fun g1 => by kernel_rfl) (fun g1 => by kernel_rfl) (fun g1 => trivial) fun g1 => ?_
      refine wpr_run (l₂ := []) true [9, 10] [0, 0, 0] [(8, Value.int IntKind.i64 (↑N : Int)), (7, Value.pointer (some { block := g1, off := 0 })), (6, Value.int IntKind.i64 0), (5, Value.int IntKind.i64 0), (4, Value.string { data := #[] }), (0, Value.string (mkS l)), (1, Value.int IntKind.i64 (↑p : Int))] [Ch.blk g1 66 [Value.string (mkS (List.drop p l)), Value.int IntKind.i64 (↑U : Int), Value.int IntKind.i64 0]] [] (by kernel_rfl) (by kernel_rfl) trivial ?_
      refine wpr_nil ?_
      refine nx_then ?_
      refine wpc_seq ?_
      refine wpc_seq ?_
      refine wpc_region [0, 1, 2] (by kernel_rfl) ?_
      refine wpr_run (l₂ := []) true [0, 1, 2] [0] [(29, Value.bool false), (8, Value.int IntKind.i64 (↑N : Int)), (7, Value.pointer (some { block := g1, off := 0 })), (6, Value.int IntKind.i64 0), (5, Value.int IntKind.i64 0), (4, Value.string { data := #[] }), (0, Value.string (mkS l)), (1, Value.int IntKind.i64 (↑p : Int))] [Ch.blk g1 66 [Value.string (mkS (List.drop p l)), Value.int IntKind.i64 (↑U : Int), Value.int IntKind.i64 0]] [] (by kernel_rfl) (by kernel_rfl) trivial ?_
      refine wpr_nil ?_
      refine nx_then ?_
      refine wpc_false (by kernel_rfl) ?_
      refine wpc_skip ?_
      refine nx_then ?_
      refine wpc_seq ?_
      refine wpc_seq ?_
      refine wpc_region [0, 1, 2, 3, 4, 5, 6, 7, 8, 9] (by kernel_rfl) ?_
      refine wpr_run (l₂ := []) true [0, 1, 2, 3, 4, 5, 6, 7, 8, 9] [0] ([(41, Value.bool (decide ((↑l.length : Int) - (↑p : Int) - (↑U : Int) < (↑N : Int) + 4))), (8, Value.int IntKind.i64 (↑N : Int)), (7, Value.pointer (some { block := g1, off := 0 })), (6, Value.int IntKind.i64 0), (5, Value.int IntKind.i64 0), (4, Value.string { data := #[] }), (0, Value.string (mkS l)), (1, Value.int IntKind.i64 (↑p : Int))]) [Ch.blk g1 66 [Value.string (mkS (List.drop p l)), Value.int IntKind.i64 (↑U : Int), Value.int IntKind.i64 0]] ([inI64 ((↑l.length : Int) - (↑p : Int)), inI64 ((↑l.length : Int) - (↑p : Int) - (↑U : Int)), inI64 ((↑N : Int) + (4 : Int))]) (by kernel_rfl) (by kernel_rfl) ⟨by unfold inI64; omega, by unfold inI64; omega, by unfold inI64; omega, trivial⟩ ?_
      refine wpr_nil ?_
      refine nx_then ?_
      refine wpc_ent (ent_set 41 (Value.bool (decide ((↑l.length : Int) - (↑p : Int) - (↑U : Int) < (↑N : Int) + 4))) (Value.bool true) (by kernel_rfl) (congrArg _ (decide_eq_true (by omega)))) ?_
      refine wpc_true (by kernel_rfl) ?_
      refine wpc_seq ?_
      refine wpc_region [0, 1, 2] (by kernel_rfl) ?_
      refine wpr_run (l₂ := []) true [0, 1, 2] [] [(6, Value.int IntKind.i64 3), (5, Value.int IntKind.i64 0), (4, Value.string { data := #[] }), (8, Value.int IntKind.i64 (↑N : Int)), (7, Value.pointer (some { block := g1, off := 0 })), (0, Value.string (mkS l)), (1, Value.int IntKind.i64 (↑p : Int))] [Ch.blk g1 66 [Value.string (mkS (List.drop p l)), Value.int IntKind.i64 (↑U : Int), Value.int IntKind.i64 0]] [] (by kernel_rfl) (by kernel_rfl) trivial ?_
      refine wpr_nil ?_
      refine nx_then ?_
      refine wpc_ret ?_
      refine nx_then_ret ?_
      refine nx_end (hp' := []) (rest := [Ch.blk g1 66 [Value.string (mkS (List.drop p l)), Value.int IntKind.i64 (↑U : Int), Value.int IntKind.i64 0]]) [] ((Value.tuple #[Value.string { data := #[] }, Value.int IntKind.i64 0, Value.int IntKind.i64 3])) (by kernel_rfl) (by kernel_rfl) (give [] (by kernel_rfl)) (by first | ((repeat (first | exact trivial | refine ⟨trivial, ?_⟩)); done) | assumption) ?_ (.inr rfl)
      exact ⟨rfl, rfl⟩
    rw [if_neg hsh]
    have hx : ((l.drop (p + U)).take N).length = N := by rw [List.length_take, List.length_drop]; omega
    have hs1 : List.take ((p : Int) + (U : Int) + (N : Int) - ((p : Int) + (U : Int))).toNat (List.drop ((p : Int) + (U : Int)).toNat l) = (l.drop (p + U)).take N := by
      rw [show ((p : Int) + (U : Int) + (N : Int) - ((p : Int) + (U : Int))).toNat = N by omega, show ((p : Int) + (U : Int)).toNat = p + U by omega]
    have hs2 : List.take ((p : Int) + (U : Int) + (N : Int) + 4 - (p : Int)).toNat (List.drop p l) = (l.drop p).take (U + N + 4) := by
      rw [show ((p : Int) + (U : Int) + (N : Int) + 4 - (p : Int)).toNat = U + N + 4 by omega]
    refine wpr_new (l₂ := [9, 10]) true [5, 6, 7, 8] [] (fun g1 => [(7, Value.pointer (some { block := g1, off := 0 })), (26, Value.int IntKind.i64 (↑N : Int)), (25, Value.agg #[Value.string (mkS (List.drop p l)), Value.int IntKind.i64 (↑U : Int), Value.int IntKind.i64 0]), (6, Value.int IntKind.i64 0), (5, Value.int IntKind.i64 0), (4, Value.string { data := #[] }), (0, Value.string (mkS l)), (1, Value.int IntKind.i64 (↑p : Int))]) (fun g1 => [Ch.blk g1 66 [Value.string { data := #[] }, Value.int IntKind.i64 0, Value.int IntKind.i64 0]]) (fun g1 => []) (fun g1 => by kernel_rfl) (fun g1 => by kernel_rfl) (fun g1 => trivial) fun g1 => ?_
    refine wpr_run (l₂ := []) true [9, 10] [0, 0, 0] [(8, Value.int IntKind.i64 (↑N : Int)), (7, Value.pointer (some { block := g1, off := 0 })), (6, Value.int IntKind.i64 0), (5, Value.int IntKind.i64 0), (4, Value.string { data := #[] }), (0, Value.string (mkS l)), (1, Value.int IntKind.i64 (↑p : Int))] [Ch.blk g1 66 [Value.string (mkS (List.drop p l)), Value.int IntKind.i64 (↑U : Int), Value.int IntKind.i64 0]] [] (by kernel_rfl) (by kernel_rfl) trivial ?_
    refine wpr_nil ?_
    refine nx_then ?_
    refine wpc_seq ?_
    refine wpc_seq ?_
    refine wpc_region [0, 1, 2] (by kernel_rfl) ?_
    refine wpr_run (l₂ := []) true [0, 1, 2] [0] [(29, Value.bool false), (8, Value.int IntKind.i64 (↑N : Int)), (7, Value.pointer (some { block := g1, off := 0 })), (6, Value.int IntKind.i64 0), (5, Value.int IntKind.i64 0), (4, Value.string { data := #[] }), (0, Value.string (mkS l)), (1, Value.int IntKind.i64 (↑p : Int))] [Ch.blk g1 66 [Value.string (mkS (List.drop p l)), Value.int IntKind.i64 (↑U : Int), Value.int IntKind.i64 0]] [] (by kernel_rfl) (by kernel_rfl) trivial ?_
    refine wpr_nil ?_
    refine nx_then ?_
    refine wpc_false (by kernel_rfl) ?_
    refine wpc_skip ?_
    refine nx_then ?_
    refine wpc_seq ?_
    refine wpc_seq ?_
    refine wpc_region [0, 1, 2, 3, 4, 5, 6, 7, 8, 9] (by kernel_rfl) ?_
    refine wpr_run (l₂ := []) true [0, 1, 2, 3, 4, 5, 6, 7, 8, 9] [0] ([(41, Value.bool (decide ((↑l.length : Int) - (↑p : Int) - (↑U : Int) < (↑N : Int) + 4))), (8, Value.int IntKind.i64 (↑N : Int)), (7, Value.pointer (some { block := g1, off := 0 })), (6, Value.int IntKind.i64 0), (5, Value.int IntKind.i64 0), (4, Value.string { data := #[] }), (0, Value.string (mkS l)), (1, Value.int IntKind.i64 (↑p : Int))]) [Ch.blk g1 66 [Value.string (mkS (List.drop p l)), Value.int IntKind.i64 (↑U : Int), Value.int IntKind.i64 0]] ([inI64 ((↑l.length : Int) - (↑p : Int)), inI64 ((↑l.length : Int) - (↑p : Int) - (↑U : Int)), inI64 ((↑N : Int) + (4 : Int))]) (by kernel_rfl) (by kernel_rfl) ⟨by unfold inI64; omega, by unfold inI64; omega, by unfold inI64; omega, trivial⟩ ?_
    refine wpr_nil ?_
    refine nx_then ?_
    refine wpc_ent (ent_set 41 (Value.bool (decide ((↑l.length : Int) - (↑p : Int) - (↑U : Int) < (↑N : Int) + 4))) (Value.bool false) (by kernel_rfl) (congrArg _ (decide_eq_false (by omega)))) ?_
    refine wpc_false (by kernel_rfl) ?_
    refine wpc_skip ?_
    refine nx_then ?_
    refine wpc_seq ?_
    refine wpc_region [0, 1, 2, 3, 4, 5, 6, 7, 8, 9, 10, 11, 12] (by kernel_rfl) ?_
    refine wpr_run (l₂ := []) true [0, 1, 2, 3, 4, 5, 6, 7, 8, 9, 10, 11, 12] [0, 0] ([(9, Value.string (mkS (List.take ((↑p : Int) + (↑U : Int) + (↑N : Int) - ((↑p : Int) + (↑U : Int))).toNat (List.drop ((↑p : Int) + (↑U : Int)).toNat l)))), (8, Value.int IntKind.i64 (↑N : Int)), (7, Value.pointer (some { block := g1, off := 0 })), (6, Value.int IntKind.i64 0), (5, Value.int IntKind.i64 0), (4, Value.string { data := #[] }), (0, Value.string (mkS l)), (1, Value.int IntKind.i64 (↑p : Int))]) [Ch.blk g1 66 [Value.string (mkS (List.drop p l)), Value.int IntKind.i64 (↑U : Int), Value.int IntKind.i64 0]] ([inI64 ((↑p : Int) + (↑U : Int)), inI64 ((↑p : Int) + (↑U : Int)), inI64 ((↑p : Int) + (↑U : Int) + (↑N : Int)), (0 : Int) ≤ (↑p : Int) + (↑U : Int) + (↑N : Int) ∧ (↑p : Int) + (↑U : Int) + (↑N : Int) ≤ (↑l.length : Int), (0 : Int) ≤ (↑p : Int) + (↑U : Int) ∧ (↑p : Int) + (↑U : Int) ≤ (↑p : Int) + (↑U : Int) + (↑N : Int)]) (by kernel_rfl) (by kernel_rfl) ⟨by unfold inI64; omega, by unfold inI64; omega, by unfold inI64; omega, by omega, by omega, trivial⟩ ?_
    refine wpr_nil ?_
    refine nx_then ?_
    refine wpc_seq ?_
    refine wpc_region [0, 1, 2, 3, 4, 5, 6, 7] (by kernel_rfl) ?_
    refine wpr_run (l₂ := []) true [0, 1, 2, 3, 4, 5, 6, 7] [0] ([(10, Value.int IntKind.i64 ((↑p : Int) + (↑U : Int) + (↑N : Int) + 4)), (9, Value.string (mkS (List.take ((↑p : Int) + (↑U : Int) + (↑N : Int) - ((↑p : Int) + (↑U : Int))).toNat (List.drop ((↑p : Int) + (↑U : Int)).toNat l)))), (6, Value.int IntKind.i64 0), (5, Value.int IntKind.i64 0), (4, Value.string { data := #[] }), (0, Value.string (mkS l)), (1, Value.int IntKind.i64 (↑p : Int))]) [Ch.blk g1 66 [Value.string (mkS (List.drop p l)), Value.int IntKind.i64 (↑U : Int), Value.int IntKind.i64 0]] ([inI64 ((↑p : Int) + (↑U : Int)), inI64 ((↑p : Int) + (↑U : Int) + (↑N : Int)), inI64 ((↑p : Int) + (↑U : Int) + (↑N : Int) + (4 : Int))]) (by kernel_rfl) (by kernel_rfl) ⟨by unfold inI64; omega, by unfold inI64; omega, by unfold inI64; omega, trivial⟩ ?_
    refine wpr_nil ?_
    refine nx_then ?_
    refine wpc_seq ?_
    refine wpc_seq ?_
    rw [hs1]
    refine wpc_draw (by kernel_rfl) [] (sub_of [] (by kernel_rfl)) 7 (by kernel_rfl) ?_
    refine wpa_take true [(0, []), (1, []), (2, []), (3, []), (4, [])] ([(65, Value.string (mkS (List.take N (List.drop (p + U) l)))), (64, Value.string (mkS (List.take ((↑p : Int) + (↑U : Int) + (↑N : Int) + 4 - (↑p : Int)).toNat (List.drop p l)))), (10, Value.int IntKind.i64 ((↑p : Int) + (↑U : Int) + (↑N : Int) + 4)), (9, Value.string (mkS (List.take N (List.drop (p + U) l)))), (6, Value.int IntKind.i64 0), (5, Value.int IntKind.i64 0), (4, Value.string { data := #[] })]) (#[true, true, true, true, true, false, false]) ([(0 : Int) ≤ (↑p : Int) + (↑U : Int) + (↑N : Int) + (4 : Int) ∧ (↑p : Int) + (↑U : Int) + (↑N : Int) + (4 : Int) ≤ (↑l.length : Int), (0 : Int) ≤ (↑p : Int) ∧ (↑p : Int) ≤ (↑p : Int) + (↑U : Int) + (↑N : Int) + (4 : Int)]) (n := 2) (by kernel_rfl) (by kernel_rfl) (by kernel_rfl) ⟨by omega, by omega, trivial⟩ ?_
    refine wpa_call (i := 5) (n := 1) (dst := some 66) (rest := [Ch.blk g1 66 [Value.string (mkS (List.drop p l)), Value.int IntKind.i64 (↑U : Int), Value.int IntKind.i64 0]]) (by kernel_rfl) (by kernel_rfl) (rFrame_spec ((l.drop (p + U)).take N) (by omega)) (give [] (by kernel_rfl)) (sub_of [] (by kernel_rfl)) ?_
    rintro v _ ⟨rfl, rfl⟩
    refine wpa_take true [(6, [])] ([(67, Value.bool !decide (List.take ((↑p : Int) + (↑U : Int) + (↑N : Int) + 4 - (↑p : Int)).toNat (List.drop p l) = frameL (List.take N (List.drop (p + U) l)))), (10, Value.int IntKind.i64 ((↑p : Int) + (↑U : Int) + (↑N : Int) + 4)), (9, Value.string (mkS (List.take N (List.drop (p + U) l)))), (6, Value.int IntKind.i64 0), (5, Value.int IntKind.i64 0), (4, Value.string { data := #[] })]) (#[true, true, true, true, true, true, true]) [] (n := 0) (by kernel_rfl) (by kernel_rfl) (by kernel_rfl) trivial ?_
    refine wpa_done 0 (by kernel_rfl) ?_
    refine nx_then ?_
    rw [hs2]
    by_cases hw : (l.drop p).take (U + N + 4) = frameL ((l.drop (p + U)).take N)
    · rw [if_neg (fun h => h hw)]
      refine wpc_ent (ent_set 67 (Value.bool !decide (List.take (U + N + 4) (List.drop p l) = frameL (List.take N (List.drop (p + U) l)))) (Value.bool false) (by kernel_rfl) (congrArg _ (by rw [decide_eq_true hw]; rfl))) ?_
      refine wpc_false (by kernel_rfl) ?_
      refine wpc_skip ?_
      refine nx_then ?_
      refine wpc_seq ?_
      refine wpc_region [0, 1, 2, 3, 4] (by kernel_rfl) ?_
      refine wpr_run (l₂ := []) true [0, 1, 2, 3, 4] [] ([(6, Value.int IntKind.i64 0), (5, Value.int IntKind.i64 ((↑p : Int) + (↑U : Int) + (↑N : Int) + 4)), (4, Value.string (mkS (List.take N (List.drop (p + U) l))))]) [Ch.blk g1 66 [Value.string (mkS (List.drop p l)), Value.int IntKind.i64 (↑U : Int), Value.int IntKind.i64 0]] [] (by kernel_rfl) (by kernel_rfl) trivial ?_
      refine wpr_nil ?_
      refine nx_then ?_
      refine wpc_ret ?_
      refine nx_end (hp' := []) (rest := [Ch.blk g1 66 [Value.string (mkS (List.drop p l)), Value.int IntKind.i64 (↑U : Int), Value.int IntKind.i64 0]]) [] ((Value.tuple #[Value.string (mkS (List.take N (List.drop (p + U) l))), Value.int IntKind.i64 ((↑p : Int) + (↑U : Int) + (↑N : Int) + 4), Value.int IntKind.i64 0])) (by kernel_rfl) (by kernel_rfl) (give [] (by kernel_rfl)) (by first | ((repeat (first | exact trivial | refine ⟨trivial, ?_⟩)); done) | assumption) ?_ (.inr rfl)
      refine ⟨?_, rfl⟩
      simp
    · rw [if_pos hw]
      refine wpc_ent (ent_set 67 (Value.bool !decide (List.take (U + N + 4) (List.drop p l) = frameL (List.take N (List.drop (p + U) l)))) (Value.bool true) (by kernel_rfl) (congrArg _ (by rw [decide_eq_false hw]; rfl))) ?_
      refine wpc_true (by kernel_rfl) ?_
      refine wpc_seq ?_
      refine wpc_region [0, 1, 2] (by kernel_rfl) ?_
      refine wpr_run (l₂ := []) true [0, 1, 2] [] ([(6, Value.int IntKind.i64 4), (5, Value.int IntKind.i64 0), (4, Value.string { data := #[] }), (10, Value.int IntKind.i64 ((↑p : Int) + (↑U : Int) + (↑N : Int) + 4)), (9, Value.string (mkS (List.take N (List.drop (p + U) l))))]) [Ch.blk g1 66 [Value.string (mkS (List.drop p l)), Value.int IntKind.i64 (↑U : Int), Value.int IntKind.i64 0]] [] (by kernel_rfl) (by kernel_rfl) trivial ?_
      refine wpr_nil ?_
      refine nx_then ?_
      refine wpc_ret ?_
      refine nx_then_ret ?_
      refine nx_end (hp' := []) (rest := [Ch.blk g1 66 [Value.string (mkS (List.drop p l)), Value.int IntKind.i64 (↑U : Int), Value.int IntKind.i64 0]]) [] ((Value.tuple #[Value.string { data := #[] }, Value.int IntKind.i64 0, Value.int IntKind.i64 4])) (by kernel_rfl) (by kernel_rfl) (give [] (by kernel_rfl)) (by first | ((repeat (first | exact trivial | refine ⟨trivial, ?_⟩)); done) | assumption) ?_ (.inr rfl)
      exact ⟨rfl, rfl⟩
def strV (x : List UInt8) : Value := .string (mkS x)
theorem rAll_spec (l : List UInt8) (hl : l.length ≤ 1048576) :
    Does Try.prog 21 [.string (mkS l)] [] (fun v hp' => ∃ (s : Option Addr × Nat), v = .tuple #[.slice s.1 (allL l).1.length s.2, .int .i64 ((allL l).2 : Int)] ∧ hp' = [row 9 1 s.1 (allL l).1.length s.2 ((allL l).1.map strV)]) := by
  refine fn_enter Try.func21 rfl 31 rfl fun w0 h0 => ?_
  refine wpc_seq ?_
  refine wpc_region [0, 1] (by kernel_rfl) ?_
  refine wpr_run (l₂ := []) true [0, 1] [] [(3, Value.int IntKind.i64 0), (2, Value.slice none 0 0), (0, Value.string (mkS l))] [] [] (by kernel_rfl) (by kernel_rfl) trivial ?_
  refine wpr_nil ?_
  refine nx_then ?_
  refine wpc_seq ?_
  refine wpc_region [0] (by kernel_rfl) ?_
  refine wpr_run (l₂ := []) true [0] [] [(4, Value.slice none 0 0), (3, Value.int IntKind.i64 0), (2, Value.slice none 0 0), (0, Value.string (mkS l))] [] [] (by kernel_rfl) (by kernel_rfl) trivial ?_
  refine wpr_nil ?_
  refine nx_then ?_
  refine wpc_seq ?_
  refine wpc_region [0] (by kernel_rfl) ?_
  refine wpr_run (l₂ := []) true [0] [] [(5, Value.int IntKind.i64 0), (4, Value.slice none 0 0), (3, Value.int IntKind.i64 0), (2, Value.slice none 0 0), (0, Value.string (mkS l))] [] [] (by kernel_rfl) (by kernel_rfl) trivial ?_
  refine wpr_nil ?_
  refine nx_then ?_
  refine wpc_seq ?_
  refine wpc_block ?_
  refine wpc_ent (ent_nil 9 1) ?_
  refine wpc_loop (X := {x : List (List UInt8) × Nat × (Option Addr × Nat) // x.2.1 ≤ l.length ∧ x.1.length ≤ x.2.1 ∧ ∃ k, l.length < x.2.1 + k ∧ x.1 ++ (allG k l x.2.1).1 = (allL l).1 ∧ (allG k l x.2.1).2 = (allL l).2}) (fun x => St.mk [(5, .int .i64 (x.1.2.1 : Int)), (4, .slice x.1.2.2.1 x.1.1.length x.1.2.2.2), (3, .int .i64 0), (2, .slice none 0 0), (0, .string (mkS l))] [row 9 1 x.1.2.2.1 x.1.1.length x.1.2.2.2 (x.1.1.map strV)]) (fun x => l.length - x.1.2.1) ⟨([], 0, none, 0), Nat.zero_le _, Nat.zero_le _, l.length + 1, by omega, rfl, rfl⟩ (ent_fr (by kernel_rfl)) ?_
  rintro ⟨⟨ps, p, a, c⟩, hp, hps, k, hk, he1, he2⟩
  dsimp only at hp hps hk he1 he2 ⊢
  refine wpc_seq ?_
  refine wpc_seq ?_
  refine wpc_region [0, 1, 2, 3] (by kernel_rfl) ?_
  refine wpr_run (l₂ := []) true [0, 1, 2, 3] [] [(12, Value.bool (decide ((↑p : Int) < (↑l.length : Int)))), (5, Value.int IntKind.i64 (↑p : Int)), (4, Value.slice a ps.length c), (3, Value.int IntKind.i64 0), (2, Value.slice none 0 0), (0, Value.string (mkS l))] [row 9 1 a ps.length c (List.map strV ps)] [] (by kernel_rfl) (by kernel_rfl) trivial ?_
  refine wpr_nil ?_
  refine nx_then ?_
  refine wpc_if (((↑p : Int) < (↑l.length : Int))) (by kernel_rfl) (fun hlt => ?_) (fun hlt => ?_)
  · have hpl : p < l.length := by omega
    refine wpc_skip ?_
    refine nx_then ?_
    refine wpc_block ?_
    refine wpc_seq ?_
    refine wpc_region [0, 1, 2, 3, 4, 5, 6, 7, 8, 9] (by kernel_rfl) ?_
    refine wpr_run (l₂ := [2, 3, 4, 5, 6, 7, 8, 9]) true [0, 1] [] [(15, Value.int IntKind.i64 (↑p : Int)), (14, Value.string (mkS l)), (5, Value.int IntKind.i64 (↑p : Int)), (4, Value.slice a ps.length c), (3, Value.int IntKind.i64 0), (2, Value.slice none 0 0), (0, Value.string (mkS l))] [row 9 1 a ps.length c (List.map strV ps)] [] (by kernel_rfl) (by kernel_rfl) trivial ?_
    refine wpr_call (dst := some 16) (rest := [row 9 1 a ps.length c (List.map strV ps)]) (by kernel_rfl) (rGet_spec l p (by omega) (by omega) (by omega)) (give [] (by kernel_rfl)) ?_
    rintro v _ ⟨rfl, rfl⟩
    obtain ⟨k', rfl⟩ : ∃ k', k = k' + 1 := ⟨k - 1, by omega⟩
    by_cases he0 : (getL l p).2.2 = 0
    · obtain ⟨nx, hnx, hn1, hn2, hn3⟩ := getL_ok he0
      have e1 : allG (k' + 1) l p = ((getL l p).1 :: (allG k' l nx).1, (allG k' l nx).2) := by
        rw [allG_succ, if_pos ⟨hpl, he0⟩, hnx, Int.toNat_natCast]
      rw [e1] at he1 he2
      rw [he0, hnx]
      refine wpr_run (l₂ := []) true [3, 4, 5, 6, 7, 8, 9] [] [(8, Value.int IntKind.i64 0), (7, Value.int IntKind.i64 (↑nx : Int)), (6, Value.string (mkS (getL l (↑p : Int)).fst)), (5, Value.int IntKind.i64 (↑p : Int)), (4, Value.slice a ps.length c), (3, Value.int IntKind.i64 0), (2, Value.slice none 0 0), (0, Value.string (mkS l))] [row 9 1 a ps.length c (List.map strV ps)] [] (by kernel_rfl) (by kernel_rfl) trivial ?_
      refine wpr_nil ?_
      refine nx_then ?_
      refine wpc_seq ?_
      refine wpc_seq ?_
      refine wpc_region [0, 1] (by kernel_rfl) ?_
      refine wpr_run (l₂ := []) true [0, 1] [] [(21, Value.bool false), (7, Value.int IntKind.i64 (↑nx : Int)), (6, Value.string (mkS (getL l (↑p : Int)).fst)), (5, Value.int IntKind.i64 (↑p : Int)), (4, Value.slice a ps.length c), (3, Value.int IntKind.i64 0), (2, Value.slice none 0 0), (0, Value.string (mkS l))] [row 9 1 a ps.length c (List.map strV ps)] [] (by kernel_rfl) (by kernel_rfl) trivial ?_
      refine wpr_nil ?_
      refine nx_then ?_
      refine wpc_false (by kernel_rfl) ?_
      refine wpc_skip ?_
      refine nx_then ?_
      refine wpc_seq ?_
      refine wpc_region [0, 1, 2, 3, 4] (by kernel_rfl) ?_
      refine wpr_new (l₂ := [3, 4]) true [0, 1, 2] [] (fun g1 => [(26, Value.slice (some { block := g1, off := 0 }) 1 1), (24, Value.slice a ps.length c), (7, Value.int IntKind.i64 (↑nx : Int)), (5, Value.int IntKind.i64 (↑p : Int)), (4, Value.slice a ps.length c), (3, Value.int IntKind.i64 0), (2, Value.slice none 0 0), (0, Value.string (mkS l))]) (fun g1 => [row 9 1 a ps.length c (List.map strV ps), Ch.blk g1 9 [Value.string (mkS (getL l (↑p : Int)).fst)]]) (fun g1 => []) (fun g1 => by kernel_rfl) (fun g1 => by kernel_rfl) (fun g1 => trivial) fun g1 => ?_
      refine wpr_ent (ent_turn 1 (ro (some ⟨g1, 0, none⟩) [strV (getL l p).1]) rfl (turn_rblk (by intro u hu; simp at hu; subst hu; rfl)) rfl) ?_
      refine wpr_app (a := a) (n := ps.length) (cap := c) (x := (Value.slice (some { block := g1, off := 0 }) 1 1)) (t := 44) (xt := 44) (dst := some 27) (by kernel_rfl) (e := 9) (sz := 1) (bytes := 16) (by kernel_rfl) 0 (xs := (List.map strV ps)) (by kernel_rfl) (m := 1) (news := [strV (getL l p).1]) (fun w h => src_ro h 1 rfl rfl (fun e => by cases e)) (by unfold maxLen; omega) (by omega) ?_
      intro b d hbd
      have e2 : ps.map strV ++ [strV (getL l p).1] = (ps ++ [(getL l p).1]).map strV := by simp
      have e3 : ps.length + 1 = (ps ++ [(getL l p).1]).length := by simp
      rw [e2, e3]
      refine wpr_run (l₂ := []) true [4] [] ([(4, Value.slice b (ps ++ [(getL l (↑p : Int)).fst]).length d), (7, Value.int IntKind.i64 (↑nx : Int)), (5, Value.int IntKind.i64 (↑p : Int)), (3, Value.int IntKind.i64 0), (2, Value.slice none 0 0), (0, Value.string (mkS l))]) ([row 9 1 b (ps ++ [(getL l (↑p : Int)).fst]).length d (List.map strV (ps ++ [(getL l (↑p : Int)).fst])), ro (some { block := g1, off := 0 }) [strV (getL l (↑p : Int)).fst]]) [] (by kernel_rfl) (by kernel_rfl) trivial ?_
      refine wpr_nil ?_
      refine nx_then ?_
      refine wpc_region [0, 1] (by kernel_rfl) ?_
      refine wpr_run (l₂ := []) true [0, 1] [] ([(5, Value.int IntKind.i64 (↑nx : Int)), (4, Value.slice b (ps ++ [(getL l (↑p : Int)).fst]).length d), (3, Value.int IntKind.i64 0), (2, Value.slice none 0 0), (0, Value.string (mkS l))]) ([row 9 1 b (ps ++ [(getL l (↑p : Int)).fst]).length d (List.map strV (ps ++ [(getL l (↑p : Int)).fst])), ro (some { block := g1, off := 0 }) [strV (getL l (↑p : Int)).fst]]) [] (by kernel_rfl) (by kernel_rfl) trivial ?_
      refine wpr_nil ?_
      refine nx_block ?_
      exact fun a' w' hS' => ⟨⟨(ps ++ [(getL l p).1], nx, b, d), by dsimp only; omega, by dsimp only; omega, k', by dsimp only; omega, by rw [← he1]; simp, he2⟩, by dsimp only; omega, ent_fr (by kernel_rfl) _ _ (ent_hp [0] rfl _ _ hS')⟩
    · have e1 : allG (k' + 1) l p = ([], p) := by
        rw [allG_succ, if_neg (fun h => he0 h.2)]
      rw [e1] at he1 he2
      simp only [List.append_nil] at he1 he2
      refine wpr_run (l₂ := []) true [3, 4, 5, 6, 7, 8, 9] [] [(8, Value.int IntKind.i64 (getL l (↑p : Int)).snd.snd), (7, Value.int IntKind.i64 (getL l (↑p : Int)).snd.fst), (6, Value.string (mkS (getL l (↑p : Int)).fst)), (5, Value.int IntKind.i64 (↑p : Int)), (4, Value.slice a ps.length c), (3, Value.int IntKind.i64 0), (2, Value.slice none 0 0), (0, Value.string (mkS l))] [row 9 1 a ps.length c (List.map strV ps)] [] (by kernel_rfl) (by kernel_rfl) trivial ?_
      refine wpr_nil ?_
      refine nx_then ?_
      refine wpc_seq ?_
      refine wpc_seq ?_
      refine wpc_region [0, 1] (by kernel_rfl) ?_
      refine wpr_run (l₂ := []) true [0, 1] [] [(21, Value.bool ((getL l (↑p : Int)).snd.snd != 0)), (7, Value.int IntKind.i64 (getL l (↑p : Int)).snd.fst), (6, Value.string (mkS (getL l (↑p : Int)).fst)), (5, Value.int IntKind.i64 (↑p : Int)), (4, Value.slice a ps.length c), (3, Value.int IntKind.i64 0), (2, Value.slice none 0 0), (0, Value.string (mkS l))] [row 9 1 a ps.length c (List.map strV ps)] [] (by kernel_rfl) (by kernel_rfl) trivial ?_
      refine wpr_nil ?_
      refine nx_then ?_
      refine wpc_ent (ent_set 21 (Value.bool ((getL l (↑p : Int)).snd.snd != 0)) (Value.bool true) (by kernel_rfl) (congrArg _ (by simp only [bne_iff_ne, beq_iff_eq, ne_eq]; omega))) ?_
      refine wpc_true (by kernel_rfl) ?_
      refine wpc_seq ?_
      refine wpc_region [0, 1, 2, 3] (by kernel_rfl) ?_
      refine wpr_run (l₂ := []) true [0, 1, 2, 3] [] [(3, Value.int IntKind.i64 (↑p : Int)), (2, Value.slice a ps.length c), (7, Value.int IntKind.i64 (getL l (↑p : Int)).snd.fst), (6, Value.string (mkS (getL l (↑p : Int)).fst)), (5, Value.int IntKind.i64 (↑p : Int)), (4, Value.slice a ps.length c), (0, Value.string (mkS l))] [row 9 1 a ps.length c (List.map strV ps)] [] (by kernel_rfl) (by kernel_rfl) trivial ?_
      refine wpr_nil ?_
      refine nx_then ?_
      refine wpc_ret ?_
      refine nx_then_ret ?_
      refine nx_block_ret ?_
      refine nx_then_ret ?_
      refine nx_block_ret ?_
      refine nx_then_ret ?_
      rw [he1, he2]
      refine nx_end (hp' := [row 9 1 a (allL l).fst.length c (List.map strV (allL l).fst)]) (rest := []) [] ((Value.tuple #[Value.slice a (allL l).fst.length c, Value.int IntKind.i64 (↑(allL l).snd : Int)])) (by kernel_rfl) (by kernel_rfl) give_all (by first | ((repeat (first | exact trivial | refine ⟨trivial, ?_⟩)); done) | assumption) ?_ (.inr rfl)
      exact ⟨(a, c), rfl, rfl⟩
  · obtain ⟨k', rfl⟩ : ∃ k', k = k' + 1 := ⟨k - 1, by omega⟩
    have e1 : allG (k' + 1) l p = ([], p) := by
      rw [allG_succ, if_neg (fun h => hlt (by omega))]
    rw [e1] at he1 he2
    simp only [List.append_nil] at he1 he2
    rw [he1, he2]
    refine wpc_exit ?_
    refine nx_then_exit ?_
    refine nx_then_exit ?_
    refine nx_block_here ?_
    refine nx_then ?_
    refine wpc_seq ?_
    refine wpc_region [0, 1, 2, 3] (by kernel_rfl) ?_
    refine wpr_run (l₂ := []) true [0, 1, 2, 3] [] [(3, Value.int IntKind.i64 (↑(allL l).snd : Int)), (2, Value.slice a (allL l).fst.length c)] [row 9 1 a (allL l).fst.length c (List.map strV (allL l).fst)] [] (by kernel_rfl) (by kernel_rfl) trivial ?_
    refine wpr_nil ?_
    refine nx_then ?_
    refine wpc_ret ?_
    refine nx_end (hp' := [row 9 1 a (allL l).fst.length c (List.map strV (allL l).fst)]) (rest := []) [] ((Value.tuple #[Value.slice a (allL l).fst.length c, Value.int IntKind.i64 (↑(allL l).snd : Int)])) (by kernel_rfl) (by kernel_rfl) give_all (by first | ((repeat (first | exact trivial | refine ⟨trivial, ?_⟩)); done) | assumption) ?_ (.inr rfl)
    exact ⟨(a, c), rfl, rfl⟩
end Go.Proofs.Ytmjhcadciblcdaa
