import Derived.Test.YtolmjhhldbnkdaaD3
import Derived.Test.YtolmjhhldbnkdaaX8
namespace Go.Proofs.Ytolmjhhldbnkdaa
open Go Go.Sx
set_option linter.unusedVariables false
set_option linter.unusedSimpArgs false

theorem lives_spec : Does Try.prog 12 [] [] (fun v hp' => v = .bool true ∧ hp' = []) := by
  refine fn_enter Try.func12 rfl 48 rfl fun w0 h0 => ?_
  refine wpc_seq ?_
  refine wpc_region [0] (by kernel_rfl) ?_
  refine wpr_run (l₂ := []) true [0] [] [(0, Value.bool false)] [] [] (by kernel_rfl) (by kernel_rfl) trivial ?_
  refine wpr_nil ?_
  refine nx_then ?_
  refine wpc_seq ?_
  refine wpc_region [0, 1] (by kernel_rfl) ?_
  refine wpr_call_all (dst := some 6) (by kernel_rfl) (New_spec) give_all ?_
  rintro v hp' ⟨d, rfl, rfl⟩
  refine wpr_run (l₂ := []) true [1] [] [(1, Value.pointer (some { block := d, off := 0 })), (0, Value.bool false)] [Ch.blk d 46 [Value.bool true, Value.slice none 0 0, Value.int IntKind.i64 0]] [] (by kernel_rfl) (by kernel_rfl) trivial ?_
  refine wpr_nil ?_
  refine nx_then ?_
  refine wpc_seq ?_
  refine wpc_seq ?_
  refine wpc_region [0, 1] (by kernel_rfl) ?_
  refine wpr_run (l₂ := []) true [0, 1] [] [(8, Value.bool false), (1, Value.pointer (some { block := d, off := 0 })), (0, Value.bool false)] [Ch.blk d 46 [Value.bool true, Value.slice none 0 0, Value.int IntKind.i64 0]] [] (by kernel_rfl) (by kernel_rfl) trivial ?_
  refine wpr_nil ?_
  refine nx_then ?_
  refine wpc_false (by kernel_rfl) ?_
  refine wpc_skip ?_
  refine nx_then ?_
  refine wpc_seq ?_
  refine wpc_region [0, 1, 2, 3, 4] (by kernel_rfl) ?_
  refine wpr_new (l₂ := [2, 3, 4]) true [0, 1] [] (fun g1 => [(10, Value.slice (some { block := g1, off := 0 }) 3 3), (9, Value.pointer (some { block := d, off := 0 })), (1, Value.pointer (some { block := d, off := 0 })), (0, Value.bool false)]) (fun g1 => [Ch.blk d 46 [Value.bool true, Value.slice none 0 0, Value.int IntKind.i64 0], Ch.blk g1 5 [Value.int IntKind.u8 97, Value.int IntKind.u8 98, Value.int IntKind.u8 99]]) (fun g1 => []) (fun g1 => by kernel_rfl) (fun g1 => by kernel_rfl) (fun g1 => trivial) fun g1 => ?_
  refine wpr_run (l₂ := [3, 4]) true [2] [1, 1] [(11, Value.slice (some { block := g1, off := 0 }) 3 3), (9, Value.pointer (some { block := d, off := 0 })), (1, Value.pointer (some { block := d, off := 0 })), (0, Value.bool false)] [Ch.blk d 46 [Value.bool true, Value.slice none 0 0, Value.int IntKind.i64 0], Ch.blk g1 5 [Value.int IntKind.u8 97, Value.int IntKind.u8 98, Value.int IntKind.u8 99]] [] (by kernel_rfl) (by kernel_rfl) trivial ?_
  refine wpr_ent (ent_turn 1 (ro (some ⟨g1, 0, none⟩) (u8s [97, 98, 99])) rfl (turn_ro [97, 98, 99] rfl) rfl) ?_
  refine wpr_ent (ent_nil 5 1) ?_
  refine wpr_call (dst := some 12) (rest := [ro (some { block := g1, off := 0 }) (u8s [97, 98, 99])]) (by kernel_rfl) (Append_spec d none (some ⟨g1, 0, none⟩) 0 3 0 [] [97, 98, 99] (fun h => by cases h) (by decide)) (Give.reorder (Give.view (c := (ro (some { block := g1, off := 0 }) (u8s [97, 98, 99]))) (give (pre := [Ch.blk d 46 [Value.bool true, Value.slice none 0 0, Value.int IntKind.i64 0], row 5 1 none 0 0 (u8s [])]) (rest := [ro (some { block := g1, off := 0 }) (u8s [97, 98, 99])]) [1, 0] (by kernel_rfl)) 0 (by kernel_rfl) view_ro) [1, 1, 0] (by kernel_rfl)) ?_
  rintro v hp' ⟨rfl, a1, c1, rfl⟩
  refine wpr_run (l₂ := []) true [4] [] [(2, Value.int IntKind.i64 0), (1, Value.pointer (some { block := d, off := 0 })), (0, Value.bool false)] ([Ch.blk d 46 [Value.bool true, Value.slice a1 3 c1, Value.int IntKind.i64 0], row 5 1 a1 3 c1 (u8s ([] ++ [97, 98, 99])), ro (some { block := g1, off := 0 }) (u8s [97, 98, 99])]) [] (by kernel_rfl) (by kernel_rfl) trivial ?_
  refine wpr_nil ?_
  refine nx_then ?_
  refine wpc_seq ?_
  refine wpc_region [0, 1, 2] (by kernel_rfl) ?_
  refine wpr_run (l₂ := [1, 2]) true [0] [] [(13, Value.pointer (some { block := d, off := 0 })), (2, Value.int IntKind.i64 0), (1, Value.pointer (some { block := d, off := 0 })), (0, Value.bool false)] ([Ch.blk d 46 [Value.bool true, Value.slice a1 3 c1, Value.int IntKind.i64 0], row 5 1 a1 3 c1 (u8s ([] ++ [97, 98, 99])), ro (some { block := g1, off := 0 }) (u8s [97, 98, 99])]) [] (by kernel_rfl) (by kernel_rfl) trivial ?_
  refine wpr_call (dst := some 14) (rest := [ro (some { block := g1, off := 0 }) (u8s [97, 98, 99])]) (by kernel_rfl) (Sync_spec d a1 c1 0 ([] ++ [97, 98, 99])) (give [0, 0] (by kernel_rfl)) ?_
  rintro v hp' ⟨rfl, rfl⟩
  refine wpr_run (l₂ := []) true [2] [] [(3, Value.int IntKind.i64 0), (2, Value.int IntKind.i64 0), (1, Value.pointer (some { block := d, off := 0 })), (0, Value.bool false)] ([Ch.blk d 46 [Value.bool true, Value.slice a1 3 c1, Value.int IntKind.i64 3], row 5 1 a1 3 c1 (u8s ([] ++ [97, 98, 99])), ro (some { block := g1, off := 0 }) (u8s [97, 98, 99])]) [] (by kernel_rfl) (by kernel_rfl) trivial ?_
  refine wpr_nil ?_
  refine nx_then ?_
  refine wpc_seq ?_
  refine wpc_region [0, 1, 2, 3] (by kernel_rfl) ?_
  refine wpr_new (l₂ := [2, 3]) true [0, 1] [] (fun g2 => [(16, Value.slice (some { block := g2, off := 0 }) 3 3), (15, Value.pointer (some { block := d, off := 0 })), (3, Value.int IntKind.i64 0), (2, Value.int IntKind.i64 0), (1, Value.pointer (some { block := d, off := 0 })), (0, Value.bool false)]) (fun g2 => ([Ch.blk d 46 [Value.bool true, Value.slice a1 3 c1, Value.int IntKind.i64 3], row 5 1 a1 3 c1 (u8s ([] ++ [97, 98, 99])), ro (some { block := g1, off := 0 }) (u8s [97, 98, 99]), Ch.blk g2 5 [Value.int IntKind.u8 100, Value.int IntKind.u8 101, Value.int IntKind.u8 102]])) (fun g2 => []) (fun g2 => by kernel_rfl) (fun g2 => by kernel_rfl) (fun g2 => trivial) fun g2 => ?_
  refine wpr_run (l₂ := [3]) true [2] [3, 3] [(17, Value.slice (some { block := g2, off := 0 }) 3 3), (15, Value.pointer (some { block := d, off := 0 })), (3, Value.int IntKind.i64 0), (2, Value.int IntKind.i64 0), (1, Value.pointer (some { block := d, off := 0 })), (0, Value.bool false)] ([Ch.blk d 46 [Value.bool true, Value.slice a1 3 c1, Value.int IntKind.i64 3], row 5 1 a1 3 c1 (u8s ([] ++ [97, 98, 99])), ro (some { block := g1, off := 0 }) (u8s [97, 98, 99]), Ch.blk g2 5 [Value.int IntKind.u8 100, Value.int IntKind.u8 101, Value.int IntKind.u8 102]]) [] (by kernel_rfl) (by kernel_rfl) trivial ?_
  refine wpr_ent (ent_turn 3 (ro (some ⟨g2, 0, none⟩) (u8s [100, 101, 102])) rfl (turn_ro [100, 101, 102] rfl) rfl) ?_
  refine wpr_call (dst := some 18) (rest := [ro (some { block := g1, off := 0 }) (u8s [97, 98, 99]), ro (some { block := g2, off := 0 }) (u8s [100, 101, 102])]) (by kernel_rfl) (Append_spec d a1 (some ⟨g2, 0, none⟩) c1 3 3 [97, 98, 99] [100, 101, 102] (fun h => by cases h) (by decide)) (Give.reorder (Give.view (c := (ro (some { block := g2, off := 0 }) (u8s [100, 101, 102]))) (give (pre := [Ch.blk d 46 [Value.bool true, Value.slice a1 3 c1, Value.int IntKind.i64 3], row 5 1 a1 3 c1 (u8s [97, 98, 99])]) (rest := [ro (some { block := g1, off := 0 }) (u8s [97, 98, 99]), ro (some { block := g2, off := 0 }) (u8s [100, 101, 102])]) [0, 0] (by kernel_rfl)) 1 (by kernel_rfl) view_ro) [1, 1, 0] (by kernel_rfl)) ?_
  rintro v hp' ⟨rfl, a2, c2, rfl⟩
  refine wpr_nil ?_
  refine nx_then ?_
  refine wpc_seq ?_
  refine wpc_region [0, 1, 2] (by kernel_rfl) ?_
  refine wpr_run (l₂ := [1, 2]) true [0] [] [(19, Value.pointer (some { block := d, off := 0 })), (3, Value.int IntKind.i64 0), (2, Value.int IntKind.i64 0), (1, Value.pointer (some { block := d, off := 0 })), (0, Value.bool false)] ([Ch.blk d 46 [Value.bool true, Value.slice a2 6 c2, Value.int IntKind.i64 3], row 5 1 a2 6 c2 (u8s ([97, 98, 99] ++ [100, 101, 102])), ro (some { block := g1, off := 0 }) (u8s [97, 98, 99]), ro (some { block := g2, off := 0 }) (u8s [100, 101, 102])]) [] (by kernel_rfl) (by kernel_rfl) trivial ?_
  refine wpr_call (dst := some 20) (rest := [ro (some { block := g1, off := 0 }) (u8s [97, 98, 99]), ro (some { block := g2, off := 0 }) (u8s [100, 101, 102])]) (by kernel_rfl) (Loose_spec d a2 c2 3 ([97, 98, 99] ++ [100, 101, 102]) (by decide) (by decide) (by decide)) (give [0, 0] (by kernel_rfl)) ?_
  rintro v hp' ⟨rfl, rfl⟩
  refine wpr_run (l₂ := []) true [2] [] [(4, Value.int IntKind.i64 3), (3, Value.int IntKind.i64 0), (2, Value.int IntKind.i64 0), (1, Value.pointer (some { block := d, off := 0 })), (0, Value.bool false)] ([Ch.blk d 46 [Value.bool true, Value.slice a2 6 c2, Value.int IntKind.i64 3], row 5 1 a2 6 c2 (u8s ([97, 98, 99] ++ [100, 101, 102])), ro (some { block := g1, off := 0 }) (u8s [97, 98, 99]), ro (some { block := g2, off := 0 }) (u8s [100, 101, 102])]) [] (by kernel_rfl) (by kernel_rfl) trivial ?_
  refine wpr_nil ?_
  refine nx_then ?_
  refine wpc_seq ?_
  refine wpc_region [0, 1, 2] (by kernel_rfl) ?_
  refine wpr_run (l₂ := [1, 2]) true [0] [] [(21, Value.pointer (some { block := d, off := 0 })), (4, Value.int IntKind.i64 3), (3, Value.int IntKind.i64 0), (2, Value.int IntKind.i64 0), (1, Value.pointer (some { block := d, off := 0 })), (0, Value.bool false)] ([Ch.blk d 46 [Value.bool true, Value.slice a2 6 c2, Value.int IntKind.i64 3], row 5 1 a2 6 c2 (u8s ([97, 98, 99] ++ [100, 101, 102])), ro (some { block := g1, off := 0 }) (u8s [97, 98, 99]), ro (some { block := g2, off := 0 }) (u8s [100, 101, 102])]) [] (by kernel_rfl) (by kernel_rfl) trivial ?_
  refine wpr_call (dst := some 22) (rest := [ro (some { block := g1, off := 0 }) (u8s [97, 98, 99]), ro (some { block := g2, off := 0 }) (u8s [100, 101, 102])]) (by kernel_rfl) (Crash_spec d a2 c2 3 2 ([97, 98, 99] ++ [100, 101, 102]) (by decide) (by decide) (by decide) 5 (by decide)) (give [0, 0] (by kernel_rfl)) ?_
  rintro v hp' ⟨rfl, rfl⟩
  refine wpr_run (l₂ := []) true [2] [] [(5, Value.int IntKind.i64 0), (4, Value.int IntKind.i64 3), (3, Value.int IntKind.i64 0), (2, Value.int IntKind.i64 0), (1, Value.pointer (some { block := d, off := 0 })), (0, Value.bool false)] ([Ch.blk d 46 [Value.bool true, Value.slice a2 5 5, Value.int IntKind.i64 5], row 5 1 a2 5 5 (u8s (List.take 5 ([97, 98, 99] ++ [100, 101, 102]))), ro (some { block := g1, off := 0 }) (u8s [97, 98, 99]), ro (some { block := g2, off := 0 }) (u8s [100, 101, 102])]) [] (by kernel_rfl) (by kernel_rfl) trivial ?_
  refine wpr_nil ?_
  refine nx_then ?_
  refine wpc_seq ?_
  refine wpc_region [0, 1, 2, 3, 4, 5, 6, 7, 8, 9, 10, 11, 12, 13, 14, 15, 16, 17, 18, 19, 20, 21, 22, 23, 24, 25] (by kernel_rfl) ?_
  refine wpr_run (l₂ := [16, 17, 18, 19, 20, 21, 22, 23, 24, 25]) true [0, 1, 2, 3, 4, 5, 6, 7, 8, 9, 10, 11, 12, 13, 14, 15] [] [(38, Value.pointer (some { block := d, off := 0 })), (37, Value.bool true), (1, Value.pointer (some { block := d, off := 0 })), (0, Value.bool false)] ([Ch.blk d 46 [Value.bool true, Value.slice a2 5 5, Value.int IntKind.i64 5], row 5 1 a2 5 5 (u8s (List.take 5 ([97, 98, 99] ++ [100, 101, 102]))), ro (some { block := g1, off := 0 }) (u8s [97, 98, 99]), ro (some { block := g2, off := 0 }) (u8s [100, 101, 102])]) [] (by kernel_rfl) (by kernel_rfl) trivial ?_
  refine wpr_call (dst := some 39) (rest := [ro (some { block := g1, off := 0 }) (u8s [97, 98, 99]), ro (some { block := g2, off := 0 }) (u8s [100, 101, 102])]) (by kernel_rfl) (Bytes_spec d a2 5 5 [97, 98, 99, 100, 101] (by decide)) (give [0, 0] (by kernel_rfl)) ?_
  rintro v hp' ⟨a3, c3, rfl, rfl⟩
  refine wpr_eq (b2s (a := 22) (b := 9) (ad := a3) (n := 5) (c := c3) (dst := some 40) (by kernel_rfl) (by kernel_rfl) [97, 98, 99, 100, 101] (by first | rfl | simp) (fun w h => b2s_row h 2 rfl)) ?_
  refine wpr_run (l₂ := [22, 23, 24, 25]) true [18, 19, 20, 21] [] [(44, Value.pointer (some { block := d, off := 0 })), (43, Value.bool true), (0, Value.bool false)] [Ch.blk d 46 [Value.bool true, Value.slice a2 5 5, Value.int IntKind.i64 5], row 5 1 a2 5 5 (u8s [97, 98, 99, 100, 101]), row 5 1 a3 5 c3 (u8s [97, 98, 99, 100, 101]), ro (some { block := g1, off := 0 }) (u8s [97, 98, 99]), ro (some { block := g2, off := 0 }) (u8s [100, 101, 102])] [] (by kernel_rfl) (by kernel_rfl) trivial ?_
  refine wpr_call (dst := some 45) (rest := [row 5 1 a3 5 c3 (u8s [97, 98, 99, 100, 101]), ro (some { block := g1, off := 0 }) (u8s [97, 98, 99]), ro (some { block := g2, off := 0 }) (u8s [100, 101, 102])]) (by kernel_rfl) (Loose_spec d a2 5 5 [97, 98, 99, 100, 101] (by decide) (by decide) (by decide)) (give [0, 0] (by kernel_rfl)) ?_
  rintro v hp' ⟨rfl, rfl⟩
  refine wpr_run (l₂ := []) true [23, 24, 25] [] [(0, Value.bool true)] [Ch.blk d 46 [Value.bool true, Value.slice a2 5 5, Value.int IntKind.i64 5], row 5 1 a2 5 5 (u8s [97, 98, 99, 100, 101]), row 5 1 a3 5 c3 (u8s [97, 98, 99, 100, 101]), ro (some { block := g1, off := 0 }) (u8s [97, 98, 99]), ro (some { block := g2, off := 0 }) (u8s [100, 101, 102])] [] (by kernel_rfl) (by kernel_rfl) trivial ?_
  refine wpr_nil ?_
  refine nx_then ?_
  refine wpc_ret ?_
  refine nx_end (hp' := []) (rest := [Ch.blk d 46 [Value.bool true, Value.slice a2 5 5, Value.int IntKind.i64 5], row 5 1 a2 5 5 (u8s [97, 98, 99, 100, 101]), row 5 1 a3 5 c3 (u8s [97, 98, 99, 100, 101]), ro (some { block := g1, off := 0 }) (u8s [97, 98, 99]), ro (some { block := g2, off := 0 }) (u8s [100, 101, 102])]) [] ((Value.bool true)) (by kernel_rfl) (by kernel_rfl) (give [] (by kernel_rfl)) (by first | ((repeat (first | exact trivial | refine ⟨trivial, ?_⟩)); done) | assumption) ?_ (.inr rfl)
  exact ⟨rfl, rfl⟩
end Go.Proofs.Ytolmjhhldbnkdaa
