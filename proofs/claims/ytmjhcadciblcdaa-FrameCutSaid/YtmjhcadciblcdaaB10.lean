import Derived.Test.YtmjhcadciblcdaaB9
import Derived.Test.YtmjhcadciblcdaaX16
namespace Go.Proofs.Ytmjhcadciblcdaa
open Go Go.Sx
set_option linter.unusedVariables false
set_option linter.unusedSimpArgs false

theorem frameL_len (l : List UInt8) (hl : l.length ≤ 1048576) : (frameL l).length ≤ 1048590 := by
  have hE := encI_len (n := (l.length : Int)) (by omega) (by omega)
  simp only [frameL, List.length_append, lowL_len]; omega
theorem rPut_spec (l0 l1 : List UInt8) (h0 : l0.length ≤ 1048576) (h1 : l1.length ≤ 1048576) : Does Try.prog 17 [.string (mkS l0), .string (mkS l1)] [] (fun v hp' => v = .tuple #[.string (mkS (l0 ++ frameL l1)), .int .i64 0] ∧ hp' = []) := by
  have hF := frameL_len l1 h1
  refine fn_enter Try.func17 rfl 13 rfl fun w0 h0 => ?_
  refine wpc_seq ?_
  refine wpc_region [0, 1] (by kernel_rfl) ?_
  refine wpr_run (l₂ := []) true [0, 1] [] [(5, Value.int IntKind.i64 0), (4, Value.string { data := #[] }), (0, Value.string (mkS l0)), (1, Value.string (mkS l1))] [] [] (by kernel_rfl) (by kernel_rfl) trivial ?_
  refine wpr_nil ?_
  refine nx_then ?_
  refine wpc_seq ?_
  refine wpc_seq ?_
  refine wpc_region [0, 1, 2] (by kernel_rfl) ?_
  refine wpr_run (l₂ := []) true [0, 1, 2] [] [(8, Value.bool (decide ((↑l1.length : Int) > 1048576))), (5, Value.int IntKind.i64 0), (4, Value.string { data := #[] }), (0, Value.string (mkS l0)), (1, Value.string (mkS l1))] [] [] (by kernel_rfl) (by kernel_rfl) trivial ?_
  refine wpr_nil ?_
  refine nx_then ?_
  refine wpc_ent (ent_set 8 (Value.bool (decide ((↑l1.length : Int) > 1048576))) (Value.bool false) (by kernel_rfl) (congrArg _ (decide_eq_false (by omega)))) ?_
  refine wpc_false (by kernel_rfl) ?_
  refine wpc_skip ?_
  refine nx_then ?_
  refine wpc_seq ?_
  refine wpc_region [0, 1, 2, 3, 4, 5] (by kernel_rfl) ?_
  refine wpr_run (l₂ := [2, 3, 4, 5]) true [0, 1] [] [(10, Value.string (mkS l1)), (9, Value.string (mkS l0)), (5, Value.int IntKind.i64 0), (4, Value.string { data := #[] })] [] [] (by kernel_rfl) (by kernel_rfl) trivial ?_
  refine wpr_call_all (dst := some 11) (by kernel_rfl) (rFrame_spec l1 h1) give_all ?_
  rintro v _ ⟨rfl, rfl⟩
  refine wpr_run (l₂ := []) true [3, 4, 5] [] ([(5, Value.int IntKind.i64 0), (4, Value.string (mkS (l0 ++ frameL l1)))]) [] ([l0.length + (frameL l1).length ≤ (9223372036854775807 : Nat)]) (by kernel_rfl) (by kernel_rfl) ⟨by omega, trivial⟩ ?_
  refine wpr_nil ?_
  refine nx_then ?_
  refine wpc_ret ?_
  refine nx_end (hp' := []) (rest := []) [] ((Value.tuple #[Value.string (mkS (l0 ++ frameL l1)), Value.int IntKind.i64 0])) (by kernel_rfl) (by kernel_rfl) give_all (by first | ((repeat (first | exact trivial | refine ⟨trivial, ?_⟩)); done) | assumption) ?_ (.inr rfl)
  exact ⟨rfl, rfl⟩
theorem FramePuts_spec (a0 a1 : Option Addr) (k0 k1 : Nat) (l0 l1 : List UInt8) (n0 : a0 = none → l0 = []) (n1 : a1 = none → l1 = []) (q0 : l0.length ≤ 1048576) (q1 : l1.length ≤ 1048576) :
    Does Try.prog 4 [.slice a0 l0.length k0, .slice a1 l1.length k1] [ro a0 (u8s l0), ro a1 (u8s l1)] (fun v hp' => v = .bool true ∧ hp' = []) := by
  refine fn_enter Try.func4 rfl 37 rfl fun w0 h0 => ?_
  refine wpc_seq ?_
  refine wpc_region [0] (by kernel_rfl) ?_
  refine wpr_run (l₂ := []) true [0] [] [(4, Value.bool false), (0, Value.slice a0 l0.length k0), (1, Value.slice a1 l1.length k1)] [ro a0 (u8s l0), ro a1 (u8s l1)] [] (by kernel_rfl) (by kernel_rfl) trivial ?_
  refine wpr_nil ?_
  refine nx_then ?_
  refine wpc_seq ?_
  refine wpc_region [0, 1, 2, 3, 4, 5, 6, 7, 8, 9] (by kernel_rfl) ?_
  refine wpr_run (l₂ := [1, 2, 3, 4, 5, 6, 7, 8, 9]) true [0] [] [(10, Value.slice a0 l0.length k0), (4, Value.bool false), (0, Value.slice a0 l0.length k0), (1, Value.slice a1 l1.length k1)] [ro a0 (u8s l0), ro a1 (u8s l1)] [] (by kernel_rfl) (by kernel_rfl) trivial ?_
  refine wpr_call (dst := some 11) (rest := [ro a0 (u8s l0), ro a1 (u8s l1)]) (by kernel_rfl) (own_spec a0 k0 l0 n0 (by omega)) (Give.view (c := (ro a0 (u8s l0))) (give (pre := []) (rest := [ro a0 (u8s l0), ro a1 (u8s l1)]) [] (by kernel_rfl)) 0 (by kernel_rfl) view_ro) ?_
  rintro v _ ⟨b0, c0, m0, rfl, rfl⟩
  refine wpr_ent (ent_turn 0 (ro b0 (u8s l0)) rfl (turn_view view_row) rfl) ?_
  refine wpr_run (l₂ := [3, 4, 5, 6, 7, 8, 9]) true [2] [] [(12, Value.slice a1 l1.length k1), (11, Value.slice b0 l0.length c0), (4, Value.bool false), (0, Value.slice a0 l0.length k0), (1, Value.slice a1 l1.length k1)] [ro b0 (u8s l0), ro a0 (u8s l0), ro a1 (u8s l1)] [] (by kernel_rfl) (by kernel_rfl) trivial ?_
  refine wpr_call (dst := some 13) (rest := [ro b0 (u8s l0), ro a0 (u8s l0), ro a1 (u8s l1)]) (by kernel_rfl) (own_spec a1 k1 l1 n1 (by omega)) (Give.view (c := (ro a1 (u8s l1))) (give (pre := []) (rest := [ro b0 (u8s l0), ro a0 (u8s l0), ro a1 (u8s l1)]) [] (by kernel_rfl)) 2 (by kernel_rfl) view_ro) ?_
  rintro v _ ⟨b1, c1, m1, rfl, rfl⟩
  refine wpr_ent (ent_turn 0 (ro b1 (u8s l1)) rfl (turn_view view_row) rfl) ?_
  refine wpr_call (dst := some 14) (rest := [ro b1 (u8s l1), ro b0 (u8s l0), ro a0 (u8s l0), ro a1 (u8s l1)]) (by kernel_rfl) (Put_spec b0 b1 c0 c1 l0 l1 m0 m1 (by omega) (by omega)) (Give.view (c := (ro b0 (u8s l0))) (Give.view (c := (ro b1 (u8s l1))) (give (pre := []) (rest := [ro b1 (u8s l1), ro b0 (u8s l0), ro a0 (u8s l0), ro a1 (u8s l1)]) [] (by kernel_rfl)) 0 (by kernel_rfl) view_ro) 1 (by kernel_rfl) view_ro) ?_
  rintro v _ hv
  rw [if_neg (by omega)] at hv
  obtain ⟨b2, c2, rfl, rfl⟩ := hv
  refine wpr_run (l₂ := []) true [5, 6, 7, 8, 9] [] ([(6, Value.int IntKind.i64 0), (5, Value.slice b2 (l0 ++ frameL l1).length c2), (4, Value.bool false), (0, Value.slice a0 l0.length k0), (1, Value.slice a1 l1.length k1)]) ([row 5 1 b2 (l0 ++ frameL l1).length c2 (u8s (l0 ++ frameL l1)), ro b1 (u8s l1), ro b0 (u8s l0), ro a0 (u8s l0), ro a1 (u8s l1)]) [] (by kernel_rfl) (by kernel_rfl) trivial ?_
  refine wpr_nil ?_
  refine nx_then ?_
  refine wpc_seq ?_
  refine wpc_region [0, 1, 2, 3, 4, 5, 6, 7, 8, 9] (by kernel_rfl) ?_
  refine wpr_run (l₂ := [1, 2, 3, 4, 5, 6, 7, 8, 9]) true [0] [] ([(18, Value.slice a0 l0.length k0), (6, Value.int IntKind.i64 0), (5, Value.slice b2 (l0 ++ frameL l1).length c2), (4, Value.bool false), (1, Value.slice a1 l1.length k1)]) ([row 5 1 b2 (l0 ++ frameL l1).length c2 (u8s (l0 ++ frameL l1)), ro b1 (u8s l1), ro b0 (u8s l0), ro a0 (u8s l0), ro a1 (u8s l1)]) [] (by kernel_rfl) (by kernel_rfl) trivial ?_
  refine wpr_eq (b2s (a := 22) (b := 9) (ad := a0) (n := l0.length) (c := k0) (dst := some 19) (by kernel_rfl) (by kernel_rfl) l0 (by first | rfl | simp) (fun w h => b2s_ro h 3 rfl)) ?_
  refine wpr_run (l₂ := [3, 4, 5, 6, 7, 8, 9]) true [2] [] ([(20, Value.slice a1 l1.length k1), (19, Value.string (mkS l0)), (6, Value.int IntKind.i64 0), (5, Value.slice b2 (l0 ++ frameL l1).length c2), (4, Value.bool false)]) ([row 5 1 b2 (l0 ++ frameL l1).length c2 (u8s (l0 ++ frameL l1)), ro b1 (u8s l1), ro b0 (u8s l0), ro a0 (u8s l0), ro a1 (u8s l1)]) [] (by kernel_rfl) (by kernel_rfl) trivial ?_
  refine wpr_eq (b2s (a := 22) (b := 9) (ad := a1) (n := l1.length) (c := k1) (dst := some 21) (by kernel_rfl) (by kernel_rfl) l1 (by first | rfl | simp) (fun w h => b2s_ro h 4 rfl)) ?_
  refine wpr_call (dst := some 22) (rest := ([row 5 1 b2 (l0 ++ frameL l1).length c2 (u8s (l0 ++ frameL l1)), ro b1 (u8s l1), ro b0 (u8s l0), ro a0 (u8s l0), ro a1 (u8s l1)])) (by kernel_rfl) (rPut_spec l0 l1 q0 q1) (give [] (by kernel_rfl)) ?_
  rintro v _ ⟨rfl, rfl⟩
  refine wpr_run (l₂ := []) true [5, 6, 7, 8, 9] [] ([(8, Value.int IntKind.i64 0), (7, Value.string (mkS (l0 ++ frameL l1))), (6, Value.int IntKind.i64 0), (5, Value.slice b2 (l0 ++ frameL l1).length c2), (4, Value.bool false)]) ([row 5 1 b2 (l0 ++ frameL l1).length c2 (u8s (l0 ++ frameL l1)), ro b1 (u8s l1), ro b0 (u8s l0), ro a0 (u8s l0), ro a1 (u8s l1)]) [] (by kernel_rfl) (by kernel_rfl) trivial ?_
  refine wpr_nil ?_
  refine nx_then ?_
  refine wpc_seq ?_
  refine wpc_region [0, 1, 2, 3, 4, 5, 6, 7, 8, 9, 10, 11, 12] (by kernel_rfl) ?_
  refine wpr_run (l₂ := [1, 2, 3, 4, 5, 6, 7, 8, 9, 10, 11, 12]) true [0] [] ([(25, Value.slice b2 (l0 ++ frameL l1).length c2), (8, Value.int IntKind.i64 0), (7, Value.string (mkS (l0 ++ frameL l1))), (6, Value.int IntKind.i64 0), (4, Value.bool false)]) ([row 5 1 b2 (l0 ++ frameL l1).length c2 (u8s (l0 ++ frameL l1)), ro b1 (u8s l1), ro b0 (u8s l0), ro a0 (u8s l0), ro a1 (u8s l1)]) [] (by kernel_rfl) (by kernel_rfl) trivial ?_
  refine wpr_eq (b2s (a := 22) (b := 9) (ad := b2) (n := ((l0 ++ frameL l1).length)) (c := c2) (dst := some 26) (by kernel_rfl) (by kernel_rfl) (l0 ++ frameL l1) (by first | rfl | simp) (fun w h => b2s_row h 0 rfl)) ?_
  refine wpr_run (l₂ := [5, 6, 7, 8, 9, 10, 11, 12]) true [2, 3, 4] [] ([(29, Value.bool (decide (l0 ++ frameL l1 = l0 ++ frameL l1))), (8, Value.int IntKind.i64 0), (6, Value.int IntKind.i64 0), (4, Value.bool false)]) ([row 5 1 b2 (l0 ++ frameL l1).length c2 (u8s (l0 ++ frameL l1)), ro b1 (u8s l1), ro b0 (u8s l0), ro a0 (u8s l0), ro a1 (u8s l1)]) [] (by kernel_rfl) (by kernel_rfl) trivial ?_
  refine wpr_ent (ent_set 29 (Value.bool (decide (l0 ++ frameL l1 = l0 ++ frameL l1))) (Value.bool true) (by kernel_rfl) (congrArg _ (by simp))) ?_
  refine wpr_run (l₂ := [10, 11, 12]) true [5, 6, 7, 8, 9] [] [(34, Value.bool true), (4, Value.bool false)] ([row 5 1 b2 (l0 ++ frameL l1).length c2 (u8s (l0 ++ frameL l1)), ro b1 (u8s l1), ro b0 (u8s l0), ro a0 (u8s l0), ro a1 (u8s l1)]) [] (by kernel_rfl) (by kernel_rfl) trivial ?_
  refine wpr_call (dst := some 35) (rest := ([row 5 1 b2 (l0 ++ frameL l1).length c2 (u8s (l0 ++ frameL l1)), ro b1 (u8s l1), ro b0 (u8s l0), ro a0 (u8s l0), ro a1 (u8s l1)])) (by kernel_rfl) (lives_spec) (give [] (by kernel_rfl)) ?_
  rintro v _ ⟨rfl, rfl⟩
  refine wpr_run (l₂ := []) true [11, 12] [] [(4, Value.bool true)] ([row 5 1 b2 (l0 ++ frameL l1).length c2 (u8s (l0 ++ frameL l1)), ro b1 (u8s l1), ro b0 (u8s l0), ro a0 (u8s l0), ro a1 (u8s l1)]) [] (by kernel_rfl) (by kernel_rfl) trivial ?_
  refine wpr_nil ?_
  refine nx_then ?_
  refine wpc_ret ?_
  refine nx_end (hp' := []) (rest := ([row 5 1 b2 (l0 ++ frameL l1).length c2 (u8s (l0 ++ frameL l1)), ro b1 (u8s l1), ro b0 (u8s l0), ro a0 (u8s l0), ro a1 (u8s l1)])) [] ((Value.bool true)) (by kernel_rfl) (by kernel_rfl) (give [] (by kernel_rfl)) (by first | ((repeat (first | exact trivial | refine ⟨trivial, ?_⟩)); done) | assumption) ?_ (.inr rfl)
  exact ⟨rfl, rfl⟩
end Go.Proofs.Ytmjhcadciblcdaa
