import Derived.Test.YtmjhcadciblcdaaB2
import Derived.Test.YtmjhcadciblcdaaW1
import Derived.Test.YtmjhcadciblcdaaX15
namespace Go.Proofs.Ytmjhcadciblcdaa
open Go Go.Sx
set_option linter.unusedVariables false
set_option linter.unusedSimpArgs false

/-- A frame's bytes. -/
def frameL (x : List UInt8) : List UInt8 := encI x.length ++ x ++ lowL (more (more 0 (encI x.length)) x)
theorem lowL_len (c : BitVec 32) : (lowL c).length = 4 := rfl
theorem Put_spec (a0 a1 : Option Addr) (c0 c1 : Nat) (l0 l1 : List UInt8) (n0 : a0 = none → l0 = []) (n1 : a1 = none → l1 = []) (hl : l0.length ≤ 1099510000000) (hm : l1.length ≤ 1099511627776) :
    Does Try.prog 16 [.slice a0 l0.length c0, .slice a1 l1.length c1] [ro a0 (u8s l0), ro a1 (u8s l1)]
      (fun v hp' => if 1048576 < l1.length then v = .tuple #[.slice none 0 0, .int .i64 5] ∧ hp' = [] else ∃ a c, v = .tuple #[.slice a (l0 ++ frameL l1).length c, .int .i64 0] ∧ hp' = [row 5 1 a (l0 ++ frameL l1).length c (u8s (l0 ++ frameL l1))]) := by
  by_cases hbig : 1048576 < l1.length
  · simp only [if_pos hbig]
    refine fn_enter Try.func16 rfl 25 rfl fun w0 h0 => ?_
    refine wpc_seq ?_
    refine wpc_region [0, 1] (by kernel_rfl) ?_
    refine wpr_run (l₂ := []) true [0, 1] [] [(5, Value.int IntKind.i64 0), (4, Value.slice none 0 0), (0, Value.slice a0 l0.length c0), (1, Value.slice a1 l1.length c1)] [ro a0 (u8s l0), ro a1 (u8s l1)] [] (by kernel_rfl) (by kernel_rfl) trivial ?_
    refine wpr_nil ?_
    refine nx_then ?_
    refine wpc_seq ?_
    refine wpc_seq ?_
    refine wpc_region [0, 1, 2] (by kernel_rfl) ?_
    refine wpr_run (l₂ := []) true [0, 1, 2] [] [(10, Value.bool (decide ((↑l1.length : Int) > 1048576))), (5, Value.int IntKind.i64 0), (4, Value.slice none 0 0), (0, Value.slice a0 l0.length c0), (1, Value.slice a1 l1.length c1)] [ro a0 (u8s l0), ro a1 (u8s l1)] [] (by kernel_rfl) (by kernel_rfl) trivial ?_
    refine wpr_nil ?_
    refine nx_then ?_
    refine wpc_ent (ent_set 10 (Value.bool (decide ((↑l1.length : Int) > 1048576))) (Value.bool true) (by kernel_rfl) (congrArg _ (decide_eq_true (by omega)))) ?_
    refine wpc_true (by kernel_rfl) ?_
    refine wpc_seq ?_
    refine wpc_region [0, 1] (by kernel_rfl) ?_
    refine wpr_run (l₂ := []) true [0, 1] [] [(5, Value.int IntKind.i64 5), (4, Value.slice none 0 0), (0, Value.slice a0 l0.length c0), (1, Value.slice a1 l1.length c1)] [ro a0 (u8s l0), ro a1 (u8s l1)] [] (by kernel_rfl) (by kernel_rfl) trivial ?_
    refine wpr_nil ?_
    refine nx_then ?_
    refine wpc_ret ?_
    refine nx_then_ret ?_
    refine nx_end (hp' := []) (rest := [ro a0 (u8s l0), ro a1 (u8s l1)]) [] ((Value.tuple #[Value.slice none 0 0, Value.int IntKind.i64 5])) (by kernel_rfl) (by kernel_rfl) (give [] (by kernel_rfl)) (by first | ((repeat (first | exact trivial | refine ⟨trivial, ?_⟩)); done) | assumption) ?_ (.inr rfl)
    exact ⟨rfl, rfl⟩
  simp only [if_neg hbig]
  refine fn_enter Try.func16 rfl 25 rfl fun w0 h0 => ?_
  refine wpc_seq ?_
  refine wpc_region [0, 1] (by kernel_rfl) ?_
  refine wpr_run (l₂ := []) true [0, 1] [] [(5, Value.int IntKind.i64 0), (4, Value.slice none 0 0), (0, Value.slice a0 l0.length c0), (1, Value.slice a1 l1.length c1)] [ro a0 (u8s l0), ro a1 (u8s l1)] [] (by kernel_rfl) (by kernel_rfl) trivial ?_
  refine wpr_nil ?_
  refine nx_then ?_
  refine wpc_seq ?_
  refine wpc_seq ?_
  refine wpc_region [0, 1, 2] (by kernel_rfl) ?_
  refine wpr_run (l₂ := []) true [0, 1, 2] [] [(10, Value.bool (decide ((↑l1.length : Int) > 1048576))), (5, Value.int IntKind.i64 0), (4, Value.slice none 0 0), (0, Value.slice a0 l0.length c0), (1, Value.slice a1 l1.length c1)] [ro a0 (u8s l0), ro a1 (u8s l1)] [] (by kernel_rfl) (by kernel_rfl) trivial ?_
  refine wpr_nil ?_
  refine nx_then ?_
  refine wpc_ent (ent_set 10 (Value.bool (decide ((↑l1.length : Int) > 1048576))) (Value.bool false) (by kernel_rfl) (congrArg _ (decide_eq_false (by omega)))) ?_
  refine wpc_false (by kernel_rfl) ?_
  refine wpc_skip ?_
  refine nx_then ?_
  refine wpc_seq ?_
  refine wpc_region [0, 1, 2, 3] (by kernel_rfl) ?_
  refine wpr_run (l₂ := [2, 3]) true [0, 1] [] [(12, Value.int IntKind.i64 (↑l1.length : Int)), (5, Value.int IntKind.i64 0), (4, Value.slice none 0 0), (0, Value.slice a0 l0.length c0), (1, Value.slice a1 l1.length c1)] [ro a0 (u8s l0), ro a1 (u8s l1)] [] (by kernel_rfl) (by kernel_rfl) trivial ?_
  refine wpr_ent (ent_nil 5 1) ?_
  refine wpr_call (dst := some 13) (rest := [ro a0 (u8s l0), ro a1 (u8s l1)]) (by kernel_rfl) (PutInt_spec none 0 [] (l1.length : Int) (by omega) (by omega) (Nat.zero_le _)) (give [0] (by kernel_rfl)) ?_
  rintro v _ ⟨a, c, rfl, rfl⟩
  simp only [List.nil_append]
  refine wpr_fact (fun w h => row_none h 0 rfl) fun hn => ?_
  have hE := encI_len (n := (l1.length : Int)) (by omega) (by omega)
  refine wpr_ent (ent_turn 0 (ro a (u8s (encI l1.length))) rfl (turn_view view_row) rfl) ?_
  refine wpr_run (l₂ := []) true [3] [] [(6, Value.slice a (encI (↑l1.length : Int)).length c), (5, Value.int IntKind.i64 0), (4, Value.slice none 0 0), (0, Value.slice a0 l0.length c0), (1, Value.slice a1 l1.length c1)] [ro a (u8s (encI (↑l1.length : Int))), ro a0 (u8s l0), ro a1 (u8s l1)] [] (by kernel_rfl) (by kernel_rfl) trivial ?_
  refine wpr_nil ?_
  refine nx_then ?_
  refine wpc_seq ?_
  refine wpc_region [0, 1, 2, 3, 4, 5, 6] (by kernel_rfl) ?_
  refine wpr_run (l₂ := [1, 2, 3, 4, 5, 6]) true [0] [] [(14, Value.slice a (encI (↑l1.length : Int)).length c), (6, Value.slice a (encI (↑l1.length : Int)).length c), (5, Value.int IntKind.i64 0), (4, Value.slice none 0 0), (0, Value.slice a0 l0.length c0), (1, Value.slice a1 l1.length c1)] [ro a (u8s (encI (↑l1.length : Int))), ro a0 (u8s l0), ro a1 (u8s l1)] [] (by kernel_rfl) (by kernel_rfl) trivial ?_
  refine wpr_call (dst := some 15) (rest := [ro a (u8s (encI (↑l1.length : Int))), ro a0 (u8s l0), ro a1 (u8s l1)]) (by kernel_rfl) (Sum_spec a c (encI l1.length) (fun e => by simpa [u8s] using hn e) (by omega)) (Give.view (c := (ro a (u8s (encI (↑l1.length : Int))))) (give (pre := []) (rest := [ro a (u8s (encI (↑l1.length : Int))), ro a0 (u8s l0), ro a1 (u8s l1)]) [] (by kernel_rfl)) 0 (by kernel_rfl) view_ro) ?_
  rintro v _ ⟨rfl, rfl⟩
  refine wpr_run (l₂ := [3, 4, 5, 6]) true [2] [] [(16, Value.slice a1 l1.length c1), (15, Value.int IntKind.u32 (↑(more 0 (encI (↑l1.length : Int))).toNat : Int)), (6, Value.slice a (encI (↑l1.length : Int)).length c), (5, Value.int IntKind.i64 0), (4, Value.slice none 0 0), (0, Value.slice a0 l0.length c0), (1, Value.slice a1 l1.length c1)] [ro a (u8s (encI (↑l1.length : Int))), ro a0 (u8s l0), ro a1 (u8s l1)] [] (by kernel_rfl) (by kernel_rfl) trivial ?_
  refine wpr_call (dst := some 17) (rest := [ro a (u8s (encI (↑l1.length : Int))), ro a0 (u8s l0), ro a1 (u8s l1)]) (by kernel_rfl) (More_spec a1 c1 l1 (more 0 (encI l1.length)) n1 hm) (Give.view (c := (ro a1 (u8s l1))) (give (pre := []) (rest := [ro a (u8s (encI (↑l1.length : Int))), ro a0 (u8s l0), ro a1 (u8s l1)]) [] (by kernel_rfl)) 2 (by kernel_rfl) view_ro) ?_
  rintro v _ ⟨rfl, rfl⟩
  refine wpr_call (dst := some 18) (rest := [ro a (u8s (encI (↑l1.length : Int))), ro a0 (u8s l0), ro a1 (u8s l1)]) (by kernel_rfl) (low_spec (more (more 0 (encI l1.length)) l1)) (give [] (by kernel_rfl)) ?_
  rintro v _ ⟨rfl, rfl⟩
  refine wpr_new (l₂ := [6]) true [5] [] (fun g1 => [(7, Value.pointer (some { block := g1, off := 0 })), (18, Value.agg #[Value.int IntKind.u8 (↑(lowB (more (more 0 (encI (↑l1.length : Int))) l1) 0).toNat : Int), Value.int IntKind.u8 (↑(lowB (more (more 0 (encI (↑l1.length : Int))) l1) 1).toNat : Int), Value.int IntKind.u8 (↑(lowB (more (more 0 (encI (↑l1.length : Int))) l1) 2).toNat : Int), Value.int IntKind.u8 (↑(lowB (more (more 0 (encI (↑l1.length : Int))) l1) 3).toNat : Int)]), (6, Value.slice a (encI (↑l1.length : Int)).length c), (5, Value.int IntKind.i64 0), (4, Value.slice none 0 0), (0, Value.slice a0 l0.length c0), (1, Value.slice a1 l1.length c1)]) (fun g1 => [ro a (u8s (encI (↑l1.length : Int))), ro a0 (u8s l0), ro a1 (u8s l1), Ch.blk g1 56 [Value.int IntKind.u8 0, Value.int IntKind.u8 0, Value.int IntKind.u8 0, Value.int IntKind.u8 0]]) (fun g1 => []) (fun g1 => by kernel_rfl) (fun g1 => by kernel_rfl) (fun g1 => trivial) fun g1 => ?_
  refine wpr_run (l₂ := []) true [6] [3, 3, 3, 3] [(7, Value.pointer (some { block := g1, off := 0 })), (6, Value.slice a (encI (↑l1.length : Int)).length c), (5, Value.int IntKind.i64 0), (4, Value.slice none 0 0), (0, Value.slice a0 l0.length c0), (1, Value.slice a1 l1.length c1)] [ro a (u8s (encI (↑l1.length : Int))), ro a0 (u8s l0), ro a1 (u8s l1), Ch.blk g1 56 [Value.int IntKind.u8 (↑(lowB (more (more 0 (encI (↑l1.length : Int))) l1) 0).toNat : Int), Value.int IntKind.u8 (↑(lowB (more (more 0 (encI (↑l1.length : Int))) l1) 1).toNat : Int), Value.int IntKind.u8 (↑(lowB (more (more 0 (encI (↑l1.length : Int))) l1) 2).toNat : Int), Value.int IntKind.u8 (↑(lowB (more (more 0 (encI (↑l1.length : Int))) l1) 3).toNat : Int)]] [] (by kernel_rfl) (by kernel_rfl) trivial ?_
  refine wpr_nil ?_
  refine nx_then ?_
  refine wpc_seq ?_
  refine wpc_region [0, 1, 2, 3, 4, 5, 6, 7] (by kernel_rfl) ?_
  refine wpr_new (l₂ := [5, 6, 7]) true [0, 1, 2, 3, 4] [] (fun g2 => [(23, Value.slice (some { block := g2, off := 0 }) 4 4), (5, Value.int IntKind.i64 0), (4, Value.slice none 0 0)]) (fun g2 => [ro a (u8s (encI (↑l1.length : Int))), ro a0 (u8s l0), ro a1 (u8s l1), Ch.blk g1 56 [Value.int IntKind.u8 (↑(lowB (more (more 0 (encI (↑l1.length : Int))) l1) 0).toNat : Int), Value.int IntKind.u8 (↑(lowB (more (more 0 (encI (↑l1.length : Int))) l1) 1).toNat : Int), Value.int IntKind.u8 (↑(lowB (more (more 0 (encI (↑l1.length : Int))) l1) 2).toNat : Int), Value.int IntKind.u8 (↑(lowB (more (more 0 (encI (↑l1.length : Int))) l1) 3).toNat : Int)], Ch.blk g2 22 [Value.slice a0 l0.length c0, Value.slice a (encI (↑l1.length : Int)).length c, Value.slice a1 l1.length c1, Value.slice (some { block := g1, off := 0 }) 4 4]]) (fun g2 => []) (fun g2 => by kernel_rfl) (fun g2 => by kernel_rfl) (fun g2 => trivial) fun g2 => ?_
  refine wpr_ent (ent_turn 3 (ro (some ⟨g1, 0, none⟩) (u8s (lowL (more (more 0 (encI l1.length)) l1)))) rfl (turn_ro _ rfl) rfl) ?_
  refine wpr_call (dst := some 24) (rest := [ro a (u8s (encI (↑l1.length : Int))), ro a0 (u8s l0), ro a1 (u8s l1), ro (some { block := g1, off := 0 }) (u8s (lowL (more (more 0 (encI (↑l1.length : Int))) l1)))]) (by kernel_rfl) (Concat_spec g2 a0 a a1 (some ⟨g1, 0, none⟩) c0 c c1 4 l0 (encI l1.length) l1 (lowL (more (more 0 (encI l1.length)) l1)) n0 (fun e => by simpa [u8s] using hn e) n1 (by intro e; cases e) (by rw [lowL_len]; omega)) (Give.reorder (Give.view (c := (ro a0 (u8s l0))) (Give.view (c := (ro a (u8s (encI (↑l1.length : Int))))) (Give.view (c := (ro a1 (u8s l1))) (Give.view (c := (ro (some { block := g1, off := 0 }) (u8s (lowL (more (more 0 (encI (↑l1.length : Int))) l1))))) (give (pre := [Ch.blk g2 22 [Value.slice a0 l0.length c0, Value.slice a (encI (↑l1.length : Int)).length c, Value.slice a1 l1.length c1, Value.slice (some { block := g1, off := 0 }) 4 4]]) (rest := [ro a (u8s (encI (↑l1.length : Int))), ro a0 (u8s l0), ro a1 (u8s l1), ro (some { block := g1, off := 0 }) (u8s (lowL (more (more 0 (encI (↑l1.length : Int))) l1)))]) [4] (by kernel_rfl)) 3 (by kernel_rfl) view_ro) 2 (by kernel_rfl) view_ro) 0 (by kernel_rfl) view_ro) 1 (by kernel_rfl) view_ro) [4, 0, 0, 0, 0] (by kernel_rfl)) ?_
  rintro v _ ⟨a', c', rfl, rfl⟩
  refine wpr_run (l₂ := []) true [6, 7] [] ([(5, Value.int IntKind.i64 0), (4, Value.slice a' (l0 ++ encI (↑l1.length : Int) ++ l1 ++ lowL (more (more 0 (encI (↑l1.length : Int))) l1)).length c')]) ([row 5 1 a' (l0 ++ encI (↑l1.length : Int) ++ l1 ++ lowL (more (more 0 (encI (↑l1.length : Int))) l1)).length c' (u8s (l0 ++ encI (↑l1.length : Int) ++ l1 ++ lowL (more (more 0 (encI (↑l1.length : Int))) l1))), ro a (u8s (encI (↑l1.length : Int))), ro a0 (u8s l0), ro a1 (u8s l1), ro (some { block := g1, off := 0 }) (u8s (lowL (more (more 0 (encI (↑l1.length : Int))) l1)))]) [] (by kernel_rfl) (by kernel_rfl) trivial ?_
  refine wpr_nil ?_
  refine nx_then ?_
  refine wpc_ret ?_
  refine nx_end (hp' := ([row 5 1 a' (l0 ++ encI (↑l1.length : Int) ++ l1 ++ lowL (more (more 0 (encI (↑l1.length : Int))) l1)).length c' (u8s (l0 ++ encI (↑l1.length : Int) ++ l1 ++ lowL (more (more 0 (encI (↑l1.length : Int))) l1)))])) (rest := [ro a (u8s (encI (↑l1.length : Int))), ro a0 (u8s l0), ro a1 (u8s l1), ro (some { block := g1, off := 0 }) (u8s (lowL (more (more 0 (encI (↑l1.length : Int))) l1)))]) [] ((Value.tuple #[Value.slice a' (l0 ++ encI (↑l1.length : Int) ++ l1 ++ lowL (more (more 0 (encI (↑l1.length : Int))) l1)).length c', Value.int IntKind.i64 0])) (by kernel_rfl) (by kernel_rfl) (give [0] (by kernel_rfl)) (by first | ((repeat (first | exact trivial | refine ⟨trivial, ?_⟩)); done) | assumption) ?_ (.inr rfl)
  have e : l0 ++ encI l1.length ++ l1 ++ lowL (more (more 0 (encI l1.length)) l1) = l0 ++ frameL l1 := by simp [frameL]
  rw [e]
  exact ⟨a', c', rfl, rfl⟩
end Go.Proofs.Ytmjhcadciblcdaa
