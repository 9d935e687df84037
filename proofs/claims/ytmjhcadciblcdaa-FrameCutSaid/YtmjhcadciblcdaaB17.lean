import Derived.Test.YtmjhcadciblcdaaB16
import Derived.Test.YtmjhcadciblcdaaX16
namespace Go.Proofs.Ytmjhcadciblcdaa
open Go Go.Sx
set_option linter.unusedVariables false
set_option linter.unusedSimpArgs false

theorem FrameBack_spec (a0 a1 a2 : Option Addr) (k0 k1 k2 : Nat) (l0 l1 l2 : List UInt8) (n0 : a0 = none → l0 = []) (n1 : a1 = none → l1 = []) (n2 : a2 = none → l2 = []) (q0 : l0.length ≤ 1048576) (q1 : l1.length ≤ 1048576) (q2 : l2.length ≤ 1048576) :
    Does Try.prog 6 [.slice a0 l0.length k0, .slice a1 l1.length k1, .slice a2 l2.length k2] [ro a0 (u8s l0), ro a1 (u8s l1), ro a2 (u8s l2)] (fun v hp' => v = .bool true ∧ hp' = []) := by
  have hF := frameL_len l1 q1
  have hF2 := frameL_length l1
  refine fn_enter Try.func6 rfl 69 rfl fun w0 h0 => ?_
  refine wpc_seq ?_
  refine wpc_region [0] (by kernel_rfl) ?_
  refine wpr_run (l₂ := []) true [0] [] [(6, Value.bool false), (0, Value.slice a0 l0.length k0), (1, Value.slice a1 l1.length k1), (2, Value.slice a2 l2.length k2)] [ro a0 (u8s l0), ro a1 (u8s l1), ro a2 (u8s l2)] [] (by kernel_rfl) (by kernel_rfl) trivial ?_
  refine wpr_nil ?_
  refine nx_then ?_
  refine wpc_seq ?_
  refine wpc_seq ?_
  refine wpc_region [0, 1, 2] (by kernel_rfl) ?_
  refine wpr_run (l₂ := []) true [0, 1, 2] [] [(16, Value.bool (decide ((↑l1.length : Int) > 1048576))), (6, Value.bool false), (0, Value.slice a0 l0.length k0), (1, Value.slice a1 l1.length k1), (2, Value.slice a2 l2.length k2)] [ro a0 (u8s l0), ro a1 (u8s l1), ro a2 (u8s l2)] [] (by kernel_rfl) (by kernel_rfl) trivial ?_
  refine wpr_nil ?_
  refine nx_then ?_
  refine wpc_ent (ent_set 16 (Value.bool (decide ((↑l1.length : Int) > 1048576))) (Value.bool false) (by kernel_rfl) (congrArg _ (decide_eq_false (by omega)))) ?_
  refine wpc_false (by kernel_rfl) ?_
  refine wpc_skip ?_
  refine nx_then ?_
  refine wpc_seq ?_
  refine wpc_region [0, 1, 2, 3, 4, 5, 6, 7, 8] (by kernel_rfl) ?_
  refine wpr_run (l₂ := [1, 2, 3, 4, 5, 6, 7, 8]) true [0] [] [(30, Value.slice a0 l0.length k0), (6, Value.bool false), (0, Value.slice a0 l0.length k0), (1, Value.slice a1 l1.length k1), (2, Value.slice a2 l2.length k2)] [ro a0 (u8s l0), ro a1 (u8s l1), ro a2 (u8s l2)] [] (by kernel_rfl) (by kernel_rfl) trivial ?_
  refine wpr_call (dst := some 31) (rest := [ro a0 (u8s l0), ro a1 (u8s l1), ro a2 (u8s l2)]) (by kernel_rfl) (own_spec a0 k0 l0 n0 (by omega)) (Give.view (c := (ro a0 (u8s l0))) (give (pre := []) (rest := [ro a0 (u8s l0), ro a1 (u8s l1), ro a2 (u8s l2)]) [] (by kernel_rfl)) 0 (by kernel_rfl) view_ro) ?_
  rintro v _ ⟨b0, c0, m0, rfl, rfl⟩
  refine wpr_ent (ent_turn 0 (ro b0 (u8s l0)) rfl (turn_view view_row) rfl) ?_
  refine wpr_run (l₂ := [3, 4, 5, 6, 7, 8]) true [2] [] [(32, Value.slice a1 l1.length k1), (31, Value.slice b0 l0.length c0), (6, Value.bool false), (0, Value.slice a0 l0.length k0), (1, Value.slice a1 l1.length k1), (2, Value.slice a2 l2.length k2)] [ro b0 (u8s l0), ro a0 (u8s l0), ro a1 (u8s l1), ro a2 (u8s l2)] [] (by kernel_rfl) (by kernel_rfl) trivial ?_
  refine wpr_call (dst := some 33) (rest := [ro b0 (u8s l0), ro a0 (u8s l0), ro a1 (u8s l1), ro a2 (u8s l2)]) (by kernel_rfl) (Put_spec b0 a1 c0 k1 l0 l1 m0 n1 (by omega) (by omega)) (Give.view (c := (ro b0 (u8s l0))) (Give.view (c := (ro a1 (u8s l1))) (give (pre := []) (rest := [ro b0 (u8s l0), ro a0 (u8s l0), ro a1 (u8s l1), ro a2 (u8s l2)]) [] (by kernel_rfl)) 2 (by kernel_rfl) view_ro) 0 (by kernel_rfl) view_ro) ?_
  rintro v _ hv
  rw [if_neg (by omega)] at hv
  obtain ⟨b1, c1, rfl, rfl⟩ := hv
  refine wpr_fact (fun w h => row_none h 0 rfl) fun m1 => ?_
  refine wpr_ent (ent_turn 0 (ro b1 (u8s (l0 ++ frameL l1))) rfl (turn_view view_row) rfl) ?_
  refine wpr_run (l₂ := []) true [4, 5, 6, 7, 8] [] ([(10, Value.int IntKind.i64 0), (9, Value.slice b1 (l0 ++ frameL l1).length c1), (6, Value.bool false), (0, Value.slice a0 l0.length k0), (1, Value.slice a1 l1.length k1), (2, Value.slice a2 l2.length k2)]) ([ro b1 (u8s (l0 ++ frameL l1)), ro b0 (u8s l0), ro a0 (u8s l0), ro a1 (u8s l1), ro a2 (u8s l2)]) [] (by kernel_rfl) (by kernel_rfl) trivial ?_
  refine wpr_nil ?_
  refine nx_then ?_
  refine wpc_seq ?_
  refine wpc_region [0, 1, 2, 3, 4, 5, 6, 7, 8, 9, 10, 11, 12, 13] (by kernel_rfl) ?_
  refine wpr_run (l₂ := [1, 2, 3, 4, 5, 6, 7, 8, 9, 10, 11, 12, 13]) true [0] [] ([(37, Value.slice b1 (l0 ++ frameL l1).length c1), (10, Value.int IntKind.i64 0), (9, Value.slice b1 (l0 ++ frameL l1).length c1), (6, Value.bool false), (0, Value.slice a0 l0.length k0), (1, Value.slice a1 l1.length k1), (2, Value.slice a2 l2.length k2)]) ([ro b1 (u8s (l0 ++ frameL l1)), ro b0 (u8s l0), ro a0 (u8s l0), ro a1 (u8s l1), ro a2 (u8s l2)]) [] (by kernel_rfl) (by kernel_rfl) trivial ?_
  refine wpr_call (dst := some 38) (rest := ([ro b1 (u8s (l0 ++ frameL l1)), ro b0 (u8s l0), ro a0 (u8s l0), ro a1 (u8s l1), ro a2 (u8s l2)])) (by kernel_rfl) (own_spec b1 c1 (l0 ++ frameL l1) (fun e => by simpa [u8s] using m1 e) (by rw [List.length_append]; omega)) (Give.view (c := (ro b1 (u8s (l0 ++ frameL l1)))) (give (pre := []) (rest := ([ro b1 (u8s (l0 ++ frameL l1)), ro b0 (u8s l0), ro a0 (u8s l0), ro a1 (u8s l1), ro a2 (u8s l2)])) [] (by kernel_rfl)) 0 (by kernel_rfl) view_ro) ?_
  rintro v _ ⟨b2, c2, m2, rfl, rfl⟩
  refine wpr_run (l₂ := [3, 4, 5, 6, 7, 8, 9, 10, 11, 12, 13]) true [2] [] ([(39, Value.slice a2 l2.length k2), (38, Value.slice b2 (l0 ++ frameL l1).length c2), (10, Value.int IntKind.i64 0), (9, Value.slice b1 (l0 ++ frameL l1).length c1), (6, Value.bool false), (0, Value.slice a0 l0.length k0), (1, Value.slice a1 l1.length k1)]) ([row 5 1 b2 (l0 ++ frameL l1).length c2 (u8s (l0 ++ frameL l1)), ro b1 (u8s (l0 ++ frameL l1)), ro b0 (u8s l0), ro a0 (u8s l0), ro a1 (u8s l1), ro a2 (u8s l2)]) [] (by kernel_rfl) (by kernel_rfl) trivial ?_
  have hlen : (l0 ++ frameL l1).length = l0.length + (frameL l1).length := List.length_append
  refine wpr_app (a := b2) (n := ((l0 ++ frameL l1).length)) (cap := c2) (x := (Value.slice a2 l2.length k2)) (t := 22) (xt := 22) (dst := some 40) (by kernel_rfl) (e := 5) (sz := 1) (bytes := 1) (by kernel_rfl) 0 (xs := (u8s (l0 ++ frameL l1))) (by kernel_rfl) (m := (l2.length)) (news := (u8s l2)) (fun w h => src_ro h 5 rfl (by rw [u8s_len, Nat.mul_one]) (fun e => by rw [n2 e]; rfl)) (by unfold maxLen; omega) (by omega) ?_
  intro b3 c3 hb3
  have hlen2 : (l0 ++ frameL l1 ++ l2).length = (l0 ++ frameL l1).length + l2.length := List.length_append
  rw [← u8s_app', ← hlen2]
  refine wpr_run (l₂ := [6, 7, 8, 9, 10, 11, 12, 13]) true [4, 5] [] ([(42, Value.int IntKind.i64 (↑l0.length : Int)), (40, Value.slice b3 (l0 ++ frameL l1 ++ l2).length c3), (10, Value.int IntKind.i64 0), (9, Value.slice b1 (l0 ++ frameL l1).length c1), (6, Value.bool false), (1, Value.slice a1 l1.length k1)]) ([row 5 1 b3 (l0 ++ frameL l1 ++ l2).length c3 (u8s (l0 ++ frameL l1 ++ l2)), ro b1 (u8s (l0 ++ frameL l1)), ro b0 (u8s l0), ro a0 (u8s l0), ro a1 (u8s l1), ro a2 (u8s l2)]) [] (by kernel_rfl) (by kernel_rfl) trivial ?_
  refine wpr_fact (fun w h => row_none h 0 rfl) fun m3 => ?_
  refine wpr_fact (fun w h => row_cap h 0 rfl) fun hcap => ?_
  refine wpr_fact (fun w h => row_addr h 0 rfl (by omega)) ?_
  rintro ⟨g, o, rfl⟩
  refine wpr_ent (ent_turn 0 (ro (some ⟨g, o, none⟩) (u8s (l0 ++ frameL l1 ++ l2))) rfl (turn_view view_row) rfl) ?_
  refine wpr_call (dst := some 43) (rest := ([ro (some { block := g, off := o }) (u8s (l0 ++ frameL l1 ++ l2)), ro b1 (u8s (l0 ++ frameL l1)), ro b0 (u8s l0), ro a0 (u8s l0), ro a1 (u8s l1), ro a2 (u8s l2)])) (by kernel_rfl) (Get_spec (some ⟨g, o, none⟩) c3 (l0 ++ frameL l1 ++ l2) l0.length (by omega) (by omega) (by intro e; cases e) (by intro ad h; cases h; rfl) (by omega) (by omega)) (Give.view (c := (ro (some { block := g, off := o }) (u8s (l0 ++ frameL l1 ++ l2)))) (give (pre := []) (rest := ([ro (some { block := g, off := o }) (u8s (l0 ++ frameL l1 ++ l2)), ro b1 (u8s (l0 ++ frameL l1)), ro b0 (u8s l0), ro a0 (u8s l0), ro a1 (u8s l1), ro a2 (u8s l2)])) [] (by kernel_rfl)) 0 (by kernel_rfl) view_ro) ?_
  rintro v _ ⟨a4, c4, hn4, rfl, rfl⟩
  rw [getL_back l0 l1 l2 (by omega)] at hn4 ⊢
  dsimp only at hn4 ⊢
  refine wpr_run (l₂ := []) true [7, 8, 9, 10, 11, 12, 13] [] ([(13, Value.int IntKind.i64 0), (12, Value.int IntKind.i64 (↑(l0 ++ frameL l1).length : Int)), (11, Value.slice a4 l1.length c4), (10, Value.int IntKind.i64 0), (9, Value.slice b1 (l0 ++ frameL l1).length c1), (6, Value.bool false), (1, Value.slice a1 l1.length k1)]) ([row 5 1 a4 l1.length c4 (u8s l1), ro (some { block := g, off := o }) (u8s (l0 ++ frameL l1 ++ l2)), ro b1 (u8s (l0 ++ frameL l1)), ro b0 (u8s l0), ro a0 (u8s l0), ro a1 (u8s l1), ro a2 (u8s l2)]) [] (by kernel_rfl) (by kernel_rfl) trivial ?_
  refine wpr_nil ?_
  refine nx_then ?_
  refine wpc_seq ?_
  refine wpc_region [0, 1, 2, 3, 4, 5, 6, 7, 8, 9, 10, 11, 12, 13, 14, 15, 16, 17, 18, 19, 20, 21, 22] (by kernel_rfl) ?_
  refine wpr_run (l₂ := [8, 9, 10, 11, 12, 13, 14, 15, 16, 17, 18, 19, 20, 21, 22]) true [0, 1, 2, 3, 4, 5, 6, 7] [] ([(54, Value.slice a4 l1.length c4), (53, Value.bool true), (12, Value.int IntKind.i64 (↑(l0 ++ frameL l1).length : Int)), (9, Value.slice b1 (l0 ++ frameL l1).length c1), (6, Value.bool false), (1, Value.slice a1 l1.length k1)]) ([row 5 1 a4 l1.length c4 (u8s l1), ro (some { block := g, off := o }) (u8s (l0 ++ frameL l1 ++ l2)), ro b1 (u8s (l0 ++ frameL l1)), ro b0 (u8s l0), ro a0 (u8s l0), ro a1 (u8s l1), ro a2 (u8s l2)]) [] (by kernel_rfl) (by kernel_rfl) trivial ?_
  refine wpr_eq (b2s (a := 22) (b := 9) (ad := a4) (n := l1.length) (c := c4) (dst := some 55) (by kernel_rfl) (by kernel_rfl) l1 (by first | rfl | simp) (fun w h => b2s_row h 0 rfl)) ?_
  refine wpr_run (l₂ := [10, 11, 12, 13, 14, 15, 16, 17, 18, 19, 20, 21, 22]) true [9] [] ([(56, Value.slice a1 l1.length k1), (55, Value.string (mkS l1)), (53, Value.bool true), (12, Value.int IntKind.i64 (↑(l0 ++ frameL l1).length : Int)), (9, Value.slice b1 (l0 ++ frameL l1).length c1), (6, Value.bool false)]) ([row 5 1 a4 l1.length c4 (u8s l1), ro (some { block := g, off := o }) (u8s (l0 ++ frameL l1 ++ l2)), ro b1 (u8s (l0 ++ frameL l1)), ro b0 (u8s l0), ro a0 (u8s l0), ro a1 (u8s l1), ro a2 (u8s l2)]) [] (by kernel_rfl) (by kernel_rfl) trivial ?_
  refine wpr_eq (b2s (a := 22) (b := 9) (ad := a1) (n := l1.length) (c := k1) (dst := some 57) (by kernel_rfl) (by kernel_rfl) l1 (by first | rfl | simp) (fun w h => b2s_ro h 5 rfl)) ?_
  refine wpr_run (l₂ := [14, 15, 16, 17, 18, 19, 20, 21, 22]) true [11, 12, 13] [] ([(60, Value.bool (decide (l1 = l1))), (12, Value.int IntKind.i64 (↑(l0 ++ frameL l1).length : Int)), (9, Value.slice b1 (l0 ++ frameL l1).length c1), (6, Value.bool false)]) ([row 5 1 a4 l1.length c4 (u8s l1), ro (some { block := g, off := o }) (u8s (l0 ++ frameL l1 ++ l2)), ro b1 (u8s (l0 ++ frameL l1)), ro b0 (u8s l0), ro a0 (u8s l0), ro a1 (u8s l1), ro a2 (u8s l2)]) [] (by kernel_rfl) (by kernel_rfl) trivial ?_
  refine wpr_ent (ent_set 60 (Value.bool (decide (l1 = l1))) (Value.bool true) (by kernel_rfl) (congrArg _ (by simp))) ?_
  refine wpr_run (l₂ := [20, 21, 22]) true [14, 15, 16, 17, 18, 19] [] ([(66, Value.bool ((↑(l0 ++ frameL l1).length : Int) == (↑(l0 ++ frameL l1).length : Int))), (6, Value.bool false)]) ([row 5 1 a4 l1.length c4 (u8s l1), ro (some { block := g, off := o }) (u8s (l0 ++ frameL l1 ++ l2)), ro b1 (u8s (l0 ++ frameL l1)), ro b0 (u8s l0), ro a0 (u8s l0), ro a1 (u8s l1), ro a2 (u8s l2)]) [] (by kernel_rfl) (by kernel_rfl) trivial ?_
  refine wpr_ent (ent_set 66 (Value.bool ((↑(l0 ++ frameL l1).length : Int) == (↑(l0 ++ frameL l1).length : Int))) (Value.bool true) (by kernel_rfl) (congrArg _ (by simp))) ?_
  refine wpr_call (dst := some 67) (rest := ([row 5 1 a4 l1.length c4 (u8s l1), ro (some { block := g, off := o }) (u8s (l0 ++ frameL l1 ++ l2)), ro b1 (u8s (l0 ++ frameL l1)), ro b0 (u8s l0), ro a0 (u8s l0), ro a1 (u8s l1), ro a2 (u8s l2)])) (by kernel_rfl) (lives_spec) (give [] (by kernel_rfl)) ?_
  rintro v _ ⟨rfl, rfl⟩
  refine wpr_run (l₂ := []) true [21, 22] [] [(6, Value.bool true)] ([row 5 1 a4 l1.length c4 (u8s l1), ro (some { block := g, off := o }) (u8s (l0 ++ frameL l1 ++ l2)), ro b1 (u8s (l0 ++ frameL l1)), ro b0 (u8s l0), ro a0 (u8s l0), ro a1 (u8s l1), ro a2 (u8s l2)]) [] (by kernel_rfl) (by kernel_rfl) trivial ?_
  refine wpr_nil ?_
  refine nx_then ?_
  refine wpc_ret ?_
  refine nx_end (hp' := []) (rest := ([row 5 1 a4 l1.length c4 (u8s l1), ro (some { block := g, off := o }) (u8s (l0 ++ frameL l1 ++ l2)), ro b1 (u8s (l0 ++ frameL l1)), ro b0 (u8s l0), ro a0 (u8s l0), ro a1 (u8s l1), ro a2 (u8s l2)])) [] ((Value.bool true)) (by kernel_rfl) (by kernel_rfl) (give [] (by kernel_rfl)) (by first | ((repeat (first | exact trivial | refine ⟨trivial, ?_⟩)); done) | assumption) ?_ (.inr rfl)
  exact ⟨rfl, rfl⟩
end Go.Proofs.Ytmjhcadciblcdaa
