import Derived.Test.YtoagfnobfbfdfaaF11
import Derived.Test.YtoagfnobfbfdfaaX13
namespace Go.Proofs.Ytoagfnobfbfdfaa
open Go Go.Sx
set_option linter.unusedVariables false
set_option linter.unusedSimpArgs false

theorem lask2_spec (H : Int) (a : Option Addr) (c : Nat) (l : List Int) (k x : Int) (hl : l.length ≤ 1048576) (hf : (a = none → l = []) ∧ l.length ≤ c) :
    Does Try.prog 22 [fl H a l.length c, .agg #[.int .i64 k, .int .i64 x]] [ro a (ints l)]
      (fun r hp' => ((askF k H l x).1 ≠ 0 ∧ r = .tuple #[fl H a l.length c, .int .i64 (askF k H l x).1] ∧ hp' = []) ∨ ((askF k H l x).1 = 0 ∧ ∃ a' c', r = .tuple #[fl (askF k H l x).2.1 a' (askF k H l x).2.2.length c', .int .i64 (askF k H l x).1] ∧ hp' = [row 3 1 a' (askF k H l x).2.2.length c' (ints (askF k H l x).2.2)])) := by
  unfold fl
  refine fn_enter Try.func22 rfl 58 rfl fun w0 h0 => ?_
  refine wpc_seq ?_
  refine wpc_region [0, 1, 2, 3] (by kernel_rfl) ?_
  refine wpr_new (l₂ := [1, 2, 3]) true [0] [] (fun g1 => [(2, Value.pointer (some { block := g1, off := 0 })), (1, Value.agg #[Value.int IntKind.i64 k, Value.int IntKind.i64 x])]) (fun g1 => [ro a (ints l), Ch.blk g1 24 [Value.int IntKind.i64 H, Value.slice a l.length c]]) (fun g1 => []) (fun g1 => by kernel_rfl) (fun g1 => by kernel_rfl) (fun g1 => trivial) fun g1 => ?_
  refine wpr_new (l₂ := [2, 3]) true [1] [] (fun g2 => [(3, Value.pointer (some { block := g2, off := 0 })), (2, Value.pointer (some { block := g1, off := 0 }))]) (fun g2 => [ro a (ints l), Ch.blk g1 24 [Value.int IntKind.i64 H, Value.slice a l.length c], Ch.blk g2 41 [Value.int IntKind.i64 k, Value.int IntKind.i64 x]]) (fun g2 => []) (fun g2 => by kernel_rfl) (fun g2 => by kernel_rfl) (fun g2 => trivial) fun g2 => ?_
  refine wpr_new (l₂ := [3]) true [2] [] (fun g3 => [(4, Value.pointer (some { block := g3, off := 0 })), (3, Value.pointer (some { block := g2, off := 0 })), (2, Value.pointer (some { block := g1, off := 0 }))]) (fun g3 => [ro a (ints l), Ch.blk g1 24 [Value.int IntKind.i64 H, Value.slice a l.length c], Ch.blk g2 41 [Value.int IntKind.i64 k, Value.int IntKind.i64 x], Ch.blk g3 24 [Value.int IntKind.i64 0, Value.slice none 0 0]]) (fun g3 => []) (fun g3 => by kernel_rfl) (fun g3 => by kernel_rfl) (fun g3 => trivial) fun g3 => ?_
  refine wpr_run (l₂ := []) true [3] [] [(5, Value.int IntKind.i64 0), (4, Value.pointer (some { block := g3, off := 0 })), (3, Value.pointer (some { block := g2, off := 0 })), (2, Value.pointer (some { block := g1, off := 0 }))] [ro a (ints l), Ch.blk g1 24 [Value.int IntKind.i64 H, Value.slice a l.length c], Ch.blk g2 41 [Value.int IntKind.i64 k, Value.int IntKind.i64 x], Ch.blk g3 24 [Value.int IntKind.i64 0, Value.slice none 0 0]] [] (by kernel_rfl) (by kernel_rfl) trivial ?_
  refine wpr_nil ?_
  refine nx_then ?_
  refine wpc_seq ?_
  refine wpc_region [0, 1, 2, 3] (by kernel_rfl) ?_
  refine wpr_new (l₂ := [2, 3]) true [0, 1] [1, 1] (fun g4 => [(6, Value.pointer (some { block := g4, off := 0 })), (8, Value.agg #[Value.int IntKind.i64 H, Value.slice a l.length c]), (5, Value.int IntKind.i64 0), (4, Value.pointer (some { block := g3, off := 0 })), (3, Value.pointer (some { block := g2, off := 0 })), (2, Value.pointer (some { block := g1, off := 0 }))]) (fun g4 => [ro a (ints l), Ch.blk g1 24 [Value.int IntKind.i64 H, Value.slice a l.length c], Ch.blk g2 41 [Value.int IntKind.i64 k, Value.int IntKind.i64 x], Ch.blk g3 24 [Value.int IntKind.i64 0, Value.slice none 0 0], Ch.blk g4 24 [Value.int IntKind.i64 0, Value.slice none 0 0]]) (fun g4 => []) (fun g4 => by kernel_rfl) (fun g4 => by kernel_rfl) (fun g4 => trivial) fun g4 => ?_
  refine wpr_run (l₂ := []) true [2, 3] [4, 4] [(7, Value.int IntKind.i64 0), (6, Value.pointer (some { block := g4, off := 0 })), (5, Value.int IntKind.i64 0), (4, Value.pointer (some { block := g3, off := 0 })), (3, Value.pointer (some { block := g2, off := 0 })), (2, Value.pointer (some { block := g1, off := 0 }))] [ro a (ints l), Ch.blk g1 24 [Value.int IntKind.i64 H, Value.slice a l.length c], Ch.blk g2 41 [Value.int IntKind.i64 k, Value.int IntKind.i64 x], Ch.blk g3 24 [Value.int IntKind.i64 0, Value.slice none 0 0], Ch.blk g4 24 [Value.int IntKind.i64 H, Value.slice a l.length c]] [] (by kernel_rfl) (by kernel_rfl) trivial ?_
  refine wpr_nil ?_
  refine nx_then ?_
  refine wpc_seq ?_
  refine wpc_seq ?_
  refine wpc_region [0, 1] (by kernel_rfl) ?_
  refine wpr_run (l₂ := []) true [0, 1] [2] [(10, Value.int IntKind.i64 k), (7, Value.int IntKind.i64 0), (6, Value.pointer (some { block := g4, off := 0 })), (5, Value.int IntKind.i64 0), (4, Value.pointer (some { block := g3, off := 0 })), (3, Value.pointer (some { block := g2, off := 0 })), (2, Value.pointer (some { block := g1, off := 0 }))] [ro a (ints l), Ch.blk g1 24 [Value.int IntKind.i64 H, Value.slice a l.length c], Ch.blk g2 41 [Value.int IntKind.i64 k, Value.int IntKind.i64 x], Ch.blk g3 24 [Value.int IntKind.i64 0, Value.slice none 0 0], Ch.blk g4 24 [Value.int IntKind.i64 H, Value.slice a l.length c]] [] (by kernel_rfl) (by kernel_rfl) trivial ?_
  refine wpr_nil ?_
  refine nx_then ?_
  refine wpc_block ?_
  refine wpc_seq ?_
  refine wpc_region [0, 1] (by kernel_rfl) ?_
  refine wpr_run (l₂ := []) true [0, 1] [] [(18, Value.bool (k == 1)), (10, Value.int IntKind.i64 k), (7, Value.int IntKind.i64 0), (6, Value.pointer (some { block := g4, off := 0 })), (5, Value.int IntKind.i64 0), (4, Value.pointer (some { block := g3, off := 0 })), (3, Value.pointer (some { block := g2, off := 0 })), (2, Value.pointer (some { block := g1, off := 0 }))] [ro a (ints l), Ch.blk g1 24 [Value.int IntKind.i64 H, Value.slice a l.length c], Ch.blk g2 41 [Value.int IntKind.i64 k, Value.int IntKind.i64 x], Ch.blk g3 24 [Value.int IntKind.i64 0, Value.slice none 0 0], Ch.blk g4 24 [Value.int IntKind.i64 H, Value.slice a l.length c]] [] (by kernel_rfl) (by kernel_rfl) trivial ?_
  refine wpr_nil ?_
  refine nx_then ?_
  refine wpc_joinx (X := Option Addr × Nat) (fun y => St.mk [(7, .int .i64 (askF k H l x).1), (6, .pointer (some ⟨g4, 0, none⟩)), (5, .int .i64 0), (4, .pointer (some ⟨g3, 0, none⟩)), (2, .pointer (some ⟨g1, 0, none⟩))]
    [ro a (ints l), row 3 1 y.1 (askF k H l x).2.2.length y.2 (ints (askF k H l x).2.2), .blk g1 24 [.int .i64 H, .slice a l.length c], .blk g3 24 [.int .i64 0, .slice none 0 0], .blk g4 24 [.int .i64 (askF k H l x).2.1, .slice y.1 (askF k H l x).2.2.length y.2]]) (fun Q1 hQ1 hk => ?_) ?_
  refine wpc_cond ((k == 1)) (by kernel_rfl) (fun k1 => ?_) (fun k1 => ?_)
  · have hk1 : k = 1 := eq_of_beq k1
    have hE : askF k H l x = grant H l x := by rw [hk1]; rfl
    rw [hE] at hk
    refine wpc_region [0, 1, 2, 3, 4, 5, 6, 7, 8] (by kernel_rfl) ?_
    refine wpr_run (l₂ := [3, 4, 5, 6, 7, 8]) true [0, 1, 2] [1, 1, 2] [(23, Value.int IntKind.i64 x), (21, Value.agg #[Value.int IntKind.i64 H, Value.slice a l.length c]), (7, Value.int IntKind.i64 0), (6, Value.pointer (some { block := g4, off := 0 })), (5, Value.int IntKind.i64 0), (4, Value.pointer (some { block := g3, off := 0 })), (2, Value.pointer (some { block := g1, off := 0 }))] [ro a (ints l), Ch.blk g1 24 [Value.int IntKind.i64 H, Value.slice a l.length c], Ch.blk g2 41 [Value.int IntKind.i64 k, Value.int IntKind.i64 x], Ch.blk g3 24 [Value.int IntKind.i64 0, Value.slice none 0 0], Ch.blk g4 24 [Value.int IntKind.i64 H, Value.slice a l.length c]] [] (by kernel_rfl) (by kernel_rfl) trivial ?_
    refine wpr_call (dst := some 24) (rest := [ro a (ints l), Ch.blk g1 24 [Value.int IntKind.i64 H, Value.slice a l.length c], Ch.blk g2 41 [Value.int IntKind.i64 k, Value.int IntKind.i64 x], Ch.blk g3 24 [Value.int IntKind.i64 0, Value.slice none 0 0], Ch.blk g4 24 [Value.int IntKind.i64 H, Value.slice a l.length c]]) (by kernel_rfl) (Grant_spec H a c l x hf.1 (by omega) hf.2) (Give.view (c := (ro a (ints l))) (give (pre := []) (rest := [ro a (ints l), Ch.blk g1 24 [Value.int IntKind.i64 H, Value.slice a l.length c], Ch.blk g2 41 [Value.int IntKind.i64 k, Value.int IntKind.i64 x], Ch.blk g3 24 [Value.int IntKind.i64 0, Value.slice none 0 0], Ch.blk g4 24 [Value.int IntKind.i64 H, Value.slice a l.length c]]) [] (by kernel_rfl)) 0 (by kernel_rfl) view_ro) ?_
    rintro v hp' ⟨a1, c1, rfl, rfl⟩
    unfold fl
    refine wpr_run (l₂ := []) true [4, 5, 6, 7, 8] [5, 5] [(7, Value.int IntKind.i64 (grant H l x).fst), (6, Value.pointer (some { block := g4, off := 0 })), (5, Value.int IntKind.i64 0), (4, Value.pointer (some { block := g3, off := 0 })), (2, Value.pointer (some { block := g1, off := 0 }))] [row 3 1 a1 (grant H l x).snd.snd.length c1 (ints (grant H l x).snd.snd), ro a (ints l), Ch.blk g1 24 [Value.int IntKind.i64 H, Value.slice a l.length c], Ch.blk g2 41 [Value.int IntKind.i64 k, Value.int IntKind.i64 x], Ch.blk g3 24 [Value.int IntKind.i64 0, Value.slice none 0 0], Ch.blk g4 24 [Value.int IntKind.i64 (grant H l x).snd.fst, Value.slice a1 (grant H l x).snd.snd.length c1]] [] (by kernel_rfl) (by kernel_rfl) trivial ?_
    refine wpr_nil ?_
    exact nx_ent (ent_hp [1, 0, 0, 1, 1] rfl) (nx_ent (ent_fr (by kernel_rfl)) (hk (a1, c1)))
  have hn1 : k ≠ 1 := fun e => by rw [e] at k1; simp at k1
  refine wpc_seq ?_
  refine wpc_region [0, 1] (by kernel_rfl) ?_
  refine wpr_run (l₂ := []) true [0, 1] [] [(27, Value.bool (k == 2)), (10, Value.int IntKind.i64 k), (7, Value.int IntKind.i64 0), (6, Value.pointer (some { block := g4, off := 0 })), (5, Value.int IntKind.i64 0), (4, Value.pointer (some { block := g3, off := 0 })), (3, Value.pointer (some { block := g2, off := 0 })), (2, Value.pointer (some { block := g1, off := 0 }))] [ro a (ints l), Ch.blk g1 24 [Value.int IntKind.i64 H, Value.slice a l.length c], Ch.blk g2 41 [Value.int IntKind.i64 k, Value.int IntKind.i64 x], Ch.blk g3 24 [Value.int IntKind.i64 0, Value.slice none 0 0], Ch.blk g4 24 [Value.int IntKind.i64 H, Value.slice a l.length c]] [] (by kernel_rfl) (by kernel_rfl) trivial ?_
  refine wpr_nil ?_
  refine nx_then ?_
  refine wpc_cond ((k == 2)) (by kernel_rfl) (fun k2 => ?_) (fun k2 => ?_)
  · have hk2 : k = 2 := eq_of_beq k2
    have hE : askF k H l x = revoke H l := by rw [hk2]; rfl
    rw [hE] at hk
    refine wpc_region [0, 1, 2, 3, 4, 5, 6] (by kernel_rfl) ?_
    refine wpr_run (l₂ := [1, 2, 3, 4, 5, 6]) true [0] [1, 1] [(30, Value.agg #[Value.int IntKind.i64 H, Value.slice a l.length c]), (7, Value.int IntKind.i64 0), (6, Value.pointer (some { block := g4, off := 0 })), (5, Value.int IntKind.i64 0), (4, Value.pointer (some { block := g3, off := 0 })), (2, Value.pointer (some { block := g1, off := 0 }))] [ro a (ints l), Ch.blk g1 24 [Value.int IntKind.i64 H, Value.slice a l.length c], Ch.blk g2 41 [Value.int IntKind.i64 k, Value.int IntKind.i64 x], Ch.blk g3 24 [Value.int IntKind.i64 0, Value.slice none 0 0], Ch.blk g4 24 [Value.int IntKind.i64 H, Value.slice a l.length c]] [] (by kernel_rfl) (by kernel_rfl) trivial ?_
    refine wpr_call (dst := some 31) (rest := [ro a (ints l), Ch.blk g1 24 [Value.int IntKind.i64 H, Value.slice a l.length c], Ch.blk g2 41 [Value.int IntKind.i64 k, Value.int IntKind.i64 x], Ch.blk g3 24 [Value.int IntKind.i64 0, Value.slice none 0 0], Ch.blk g4 24 [Value.int IntKind.i64 H, Value.slice a l.length c]]) (by kernel_rfl) (Revoke_spec H a c l hf.1 (by omega) hf.2) (Give.view (c := (ro a (ints l))) (give (pre := []) (rest := [ro a (ints l), Ch.blk g1 24 [Value.int IntKind.i64 H, Value.slice a l.length c], Ch.blk g2 41 [Value.int IntKind.i64 k, Value.int IntKind.i64 x], Ch.blk g3 24 [Value.int IntKind.i64 0, Value.slice none 0 0], Ch.blk g4 24 [Value.int IntKind.i64 H, Value.slice a l.length c]]) [] (by kernel_rfl)) 0 (by kernel_rfl) view_ro) ?_
    rintro v hp' ⟨a1, c1, rfl, rfl⟩
    unfold fl
    refine wpr_run (l₂ := []) true [2, 3, 4, 5, 6] [5, 5] [(7, Value.int IntKind.i64 (revoke H l).fst), (6, Value.pointer (some { block := g4, off := 0 })), (5, Value.int IntKind.i64 0), (4, Value.pointer (some { block := g3, off := 0 })), (2, Value.pointer (some { block := g1, off := 0 }))] [row 3 1 a1 (revoke H l).snd.snd.length c1 (ints (revoke H l).snd.snd), ro a (ints l), Ch.blk g1 24 [Value.int IntKind.i64 H, Value.slice a l.length c], Ch.blk g2 41 [Value.int IntKind.i64 k, Value.int IntKind.i64 x], Ch.blk g3 24 [Value.int IntKind.i64 0, Value.slice none 0 0], Ch.blk g4 24 [Value.int IntKind.i64 (revoke H l).snd.fst, Value.slice a1 (revoke H l).snd.snd.length c1]] [] (by kernel_rfl) (by kernel_rfl) trivial ?_
    refine wpr_nil ?_
    exact nx_ent (ent_hp [1, 0, 0, 1, 1] rfl) (nx_ent (ent_fr (by kernel_rfl)) (hk (a1, c1)))
  have hn2 : k ≠ 2 := fun e => by rw [e] at k2; simp at k2
  refine wpc_seq ?_
  refine wpc_region [0, 1] (by kernel_rfl) ?_
  refine wpr_run (l₂ := []) true [0, 1] [] [(34, Value.bool (k == 3)), (10, Value.int IntKind.i64 k), (7, Value.int IntKind.i64 0), (6, Value.pointer (some { block := g4, off := 0 })), (5, Value.int IntKind.i64 0), (4, Value.pointer (some { block := g3, off := 0 })), (3, Value.pointer (some { block := g2, off := 0 })), (2, Value.pointer (some { block := g1, off := 0 }))] [ro a (ints l), Ch.blk g1 24 [Value.int IntKind.i64 H, Value.slice a l.length c], Ch.blk g2 41 [Value.int IntKind.i64 k, Value.int IntKind.i64 x], Ch.blk g3 24 [Value.int IntKind.i64 0, Value.slice none 0 0], Ch.blk g4 24 [Value.int IntKind.i64 H, Value.slice a l.length c]] [] (by kernel_rfl) (by kernel_rfl) trivial ?_
  refine wpr_nil ?_
  refine nx_then ?_
  refine wpc_cond ((k == 3)) (by kernel_rfl) (fun k3 => ?_) (fun k3 => ?_)
  · have hk3 : k = 3 := eq_of_beq k3
    have hE : askF k H l x = release H l x := by rw [hk3]; rfl
    rw [hE] at hk
    refine wpc_region [0, 1, 2, 3, 4, 5, 6, 7, 8] (by kernel_rfl) ?_
    refine wpr_run (l₂ := [3, 4, 5, 6, 7, 8]) true [0, 1, 2] [1, 1, 2] [(39, Value.int IntKind.i64 x), (37, Value.agg #[Value.int IntKind.i64 H, Value.slice a l.length c]), (7, Value.int IntKind.i64 0), (6, Value.pointer (some { block := g4, off := 0 })), (5, Value.int IntKind.i64 0), (4, Value.pointer (some { block := g3, off := 0 })), (2, Value.pointer (some { block := g1, off := 0 }))] [ro a (ints l), Ch.blk g1 24 [Value.int IntKind.i64 H, Value.slice a l.length c], Ch.blk g2 41 [Value.int IntKind.i64 k, Value.int IntKind.i64 x], Ch.blk g3 24 [Value.int IntKind.i64 0, Value.slice none 0 0], Ch.blk g4 24 [Value.int IntKind.i64 H, Value.slice a l.length c]] [] (by kernel_rfl) (by kernel_rfl) trivial ?_
    refine wpr_call (dst := some 40) (rest := [ro a (ints l), Ch.blk g1 24 [Value.int IntKind.i64 H, Value.slice a l.length c], Ch.blk g2 41 [Value.int IntKind.i64 k, Value.int IntKind.i64 x], Ch.blk g3 24 [Value.int IntKind.i64 0, Value.slice none 0 0], Ch.blk g4 24 [Value.int IntKind.i64 H, Value.slice a l.length c]]) (by kernel_rfl) (Release_spec H a c l x hf.1 (by omega) hf.2) (Give.view (c := (ro a (ints l))) (give (pre := []) (rest := [ro a (ints l), Ch.blk g1 24 [Value.int IntKind.i64 H, Value.slice a l.length c], Ch.blk g2 41 [Value.int IntKind.i64 k, Value.int IntKind.i64 x], Ch.blk g3 24 [Value.int IntKind.i64 0, Value.slice none 0 0], Ch.blk g4 24 [Value.int IntKind.i64 H, Value.slice a l.length c]]) [] (by kernel_rfl)) 0 (by kernel_rfl) view_ro) ?_
    rintro v hp' ⟨a1, c1, rfl, rfl⟩
    unfold fl
    refine wpr_run (l₂ := []) true [4, 5, 6, 7, 8] [5, 5] [(7, Value.int IntKind.i64 (release H l x).fst), (6, Value.pointer (some { block := g4, off := 0 })), (5, Value.int IntKind.i64 0), (4, Value.pointer (some { block := g3, off := 0 })), (2, Value.pointer (some { block := g1, off := 0 }))] [row 3 1 a1 (release H l x).snd.snd.length c1 (ints (release H l x).snd.snd), ro a (ints l), Ch.blk g1 24 [Value.int IntKind.i64 H, Value.slice a l.length c], Ch.blk g2 41 [Value.int IntKind.i64 k, Value.int IntKind.i64 x], Ch.blk g3 24 [Value.int IntKind.i64 0, Value.slice none 0 0], Ch.blk g4 24 [Value.int IntKind.i64 (release H l x).snd.fst, Value.slice a1 (release H l x).snd.snd.length c1]] [] (by kernel_rfl) (by kernel_rfl) trivial ?_
    refine wpr_nil ?_
    exact nx_ent (ent_hp [1, 0, 0, 1, 1] rfl) (nx_ent (ent_fr (by kernel_rfl)) (hk (a1, c1)))
  have hn3 : k ≠ 3 := fun e => by rw [e] at k3; simp at k3
  refine wpc_seq ?_
  refine wpc_region [0, 1] (by kernel_rfl) ?_
  refine wpr_run (l₂ := []) true [0, 1] [] [(43, Value.bool (k == 4)), (7, Value.int IntKind.i64 0), (6, Value.pointer (some { block := g4, off := 0 })), (5, Value.int IntKind.i64 0), (4, Value.pointer (some { block := g3, off := 0 })), (3, Value.pointer (some { block := g2, off := 0 })), (2, Value.pointer (some { block := g1, off := 0 }))] [ro a (ints l), Ch.blk g1 24 [Value.int IntKind.i64 H, Value.slice a l.length c], Ch.blk g2 41 [Value.int IntKind.i64 k, Value.int IntKind.i64 x], Ch.blk g3 24 [Value.int IntKind.i64 0, Value.slice none 0 0], Ch.blk g4 24 [Value.int IntKind.i64 H, Value.slice a l.length c]] [] (by kernel_rfl) (by kernel_rfl) trivial ?_
  refine wpr_nil ?_
  refine nx_then ?_
  refine wpc_cond ((k == 4)) (by kernel_rfl) (fun k4 => ?_) (fun k4 => ?_)
  · have hk4 : k = 4 := eq_of_beq k4
    have hE : askF k H l x = leave H l x := by rw [hk4]; rfl
    rw [hE] at hk
    refine wpc_region [0, 1, 2, 3, 4, 5, 6, 7, 8] (by kernel_rfl) ?_
    refine wpr_run (l₂ := [3, 4, 5, 6, 7, 8]) true [0, 1, 2] [1, 1, 2] [(48, Value.int IntKind.i64 x), (46, Value.agg #[Value.int IntKind.i64 H, Value.slice a l.length c]), (7, Value.int IntKind.i64 0), (6, Value.pointer (some { block := g4, off := 0 })), (5, Value.int IntKind.i64 0), (4, Value.pointer (some { block := g3, off := 0 })), (2, Value.pointer (some { block := g1, off := 0 }))] [ro a (ints l), Ch.blk g1 24 [Value.int IntKind.i64 H, Value.slice a l.length c], Ch.blk g2 41 [Value.int IntKind.i64 k, Value.int IntKind.i64 x], Ch.blk g3 24 [Value.int IntKind.i64 0, Value.slice none 0 0], Ch.blk g4 24 [Value.int IntKind.i64 H, Value.slice a l.length c]] [] (by kernel_rfl) (by kernel_rfl) trivial ?_
    refine wpr_call (dst := some 49) (rest := [ro a (ints l), Ch.blk g1 24 [Value.int IntKind.i64 H, Value.slice a l.length c], Ch.blk g2 41 [Value.int IntKind.i64 k, Value.int IntKind.i64 x], Ch.blk g3 24 [Value.int IntKind.i64 0, Value.slice none 0 0], Ch.blk g4 24 [Value.int IntKind.i64 H, Value.slice a l.length c]]) (by kernel_rfl) (Leave_spec H a c l x hf.1 (by omega) hf.2) (Give.view (c := (ro a (ints l))) (give (pre := []) (rest := [ro a (ints l), Ch.blk g1 24 [Value.int IntKind.i64 H, Value.slice a l.length c], Ch.blk g2 41 [Value.int IntKind.i64 k, Value.int IntKind.i64 x], Ch.blk g3 24 [Value.int IntKind.i64 0, Value.slice none 0 0], Ch.blk g4 24 [Value.int IntKind.i64 H, Value.slice a l.length c]]) [] (by kernel_rfl)) 0 (by kernel_rfl) view_ro) ?_
    rintro v hp' ⟨a1, c1, rfl, rfl⟩
    unfold fl
    refine wpr_run (l₂ := []) true [4, 5, 6, 7, 8] [5, 5] [(7, Value.int IntKind.i64 (leave H l x).fst), (6, Value.pointer (some { block := g4, off := 0 })), (5, Value.int IntKind.i64 0), (4, Value.pointer (some { block := g3, off := 0 })), (2, Value.pointer (some { block := g1, off := 0 }))] [row 3 1 a1 (leave H l x).snd.snd.length c1 (ints (leave H l x).snd.snd), ro a (ints l), Ch.blk g1 24 [Value.int IntKind.i64 H, Value.slice a l.length c], Ch.blk g2 41 [Value.int IntKind.i64 k, Value.int IntKind.i64 x], Ch.blk g3 24 [Value.int IntKind.i64 0, Value.slice none 0 0], Ch.blk g4 24 [Value.int IntKind.i64 (leave H l x).snd.fst, Value.slice a1 (leave H l x).snd.snd.length c1]] [] (by kernel_rfl) (by kernel_rfl) trivial ?_
    refine wpr_nil ?_
    exact nx_ent (ent_hp [1, 0, 0, 1, 1] rfl) (nx_ent (ent_fr (by kernel_rfl)) (hk (a1, c1)))
  have hn4 : k ≠ 4 := fun e => by rw [e] at k4; simp at k4
  refine wpc_region [0, 1, 2, 3, 4, 5, 6, 7, 8] (by kernel_rfl) ?_
  refine wpr_run (l₂ := [3, 4, 5, 6, 7, 8]) true [0, 1, 2] [1, 1, 2] [(14, Value.int IntKind.i64 x), (12, Value.agg #[Value.int IntKind.i64 H, Value.slice a l.length c]), (7, Value.int IntKind.i64 0), (6, Value.pointer (some { block := g4, off := 0 })), (5, Value.int IntKind.i64 0), (4, Value.pointer (some { block := g3, off := 0 })), (2, Value.pointer (some { block := g1, off := 0 }))] [ro a (ints l), Ch.blk g1 24 [Value.int IntKind.i64 H, Value.slice a l.length c], Ch.blk g2 41 [Value.int IntKind.i64 k, Value.int IntKind.i64 x], Ch.blk g3 24 [Value.int IntKind.i64 0, Value.slice none 0 0], Ch.blk g4 24 [Value.int IntKind.i64 H, Value.slice a l.length c]] [] (by kernel_rfl) (by kernel_rfl) trivial ?_
  have hE : askF k H l x = req H l x := by unfold askF; rw [if_neg hn1, if_neg hn2, if_neg hn3, if_neg hn4]
  rw [hE] at hk
  refine wpr_call (dst := some 15) (rest := [ro a (ints l), Ch.blk g1 24 [Value.int IntKind.i64 H, Value.slice a l.length c], Ch.blk g2 41 [Value.int IntKind.i64 k, Value.int IntKind.i64 x], Ch.blk g3 24 [Value.int IntKind.i64 0, Value.slice none 0 0], Ch.blk g4 24 [Value.int IntKind.i64 H, Value.slice a l.length c]]) (by kernel_rfl) (Request_spec H a c l x hf.1 (by omega) hf.2) (Give.view (c := (ro a (ints l))) (give (pre := []) (rest := [ro a (ints l), Ch.blk g1 24 [Value.int IntKind.i64 H, Value.slice a l.length c], Ch.blk g2 41 [Value.int IntKind.i64 k, Value.int IntKind.i64 x], Ch.blk g3 24 [Value.int IntKind.i64 0, Value.slice none 0 0], Ch.blk g4 24 [Value.int IntKind.i64 H, Value.slice a l.length c]]) [] (by kernel_rfl)) 0 (by kernel_rfl) view_ro) ?_
  rintro v hp' ⟨a1, c1, rfl, rfl⟩
  unfold fl
  refine wpr_run (l₂ := []) true [4, 5, 6, 7, 8] [5, 5] [(7, Value.int IntKind.i64 (req H l x).fst), (6, Value.pointer (some { block := g4, off := 0 })), (5, Value.int IntKind.i64 0), (4, Value.pointer (some { block := g3, off := 0 })), (2, Value.pointer (some { block := g1, off := 0 }))] [row 3 1 a1 (req H l x).snd.snd.length c1 (ints (req H l x).snd.snd), ro a (ints l), Ch.blk g1 24 [Value.int IntKind.i64 H, Value.slice a l.length c], Ch.blk g2 41 [Value.int IntKind.i64 k, Value.int IntKind.i64 x], Ch.blk g3 24 [Value.int IntKind.i64 0, Value.slice none 0 0], Ch.blk g4 24 [Value.int IntKind.i64 (req H l x).snd.fst, Value.slice a1 (req H l x).snd.snd.length c1]] [] (by kernel_rfl) (by kernel_rfl) trivial ?_
  refine wpr_nil ?_
  exact nx_ent (ent_hp [1, 0, 0, 1, 1] rfl) (nx_ent (ent_fr (by kernel_rfl)) (hk (a1, c1)))
  rintro ⟨a1, c1⟩
  dsimp only
  refine nx_block ?_
  refine nx_then ?_
  refine wpc_seq ?_
  refine wpc_seq ?_
  refine wpc_region [0, 1] (by kernel_rfl) ?_
  refine wpr_run (l₂ := []) true [0, 1] [] [(53, Value.bool ((askF k H l x).fst != 0)), (7, Value.int IntKind.i64 (askF k H l x).fst), (6, Value.pointer (some { block := g4, off := 0 })), (5, Value.int IntKind.i64 0), (4, Value.pointer (some { block := g3, off := 0 })), (2, Value.pointer (some { block := g1, off := 0 }))] [ro a (ints l), row 3 1 a1 (askF k H l x).snd.snd.length c1 (ints (askF k H l x).snd.snd), Ch.blk g1 24 [Value.int IntKind.i64 H, Value.slice a l.length c], Ch.blk g3 24 [Value.int IntKind.i64 0, Value.slice none 0 0], Ch.blk g4 24 [Value.int IntKind.i64 (askF k H l x).snd.fst, Value.slice a1 (askF k H l x).snd.snd.length c1]] [] (by kernel_rfl) (by kernel_rfl) trivial ?_
  refine wpr_nil ?_
  refine nx_then ?_
  by_cases he : (askF k H l x).1 ≠ 0
  · refine wpc_ent (ent_set 53 (Value.bool ((askF k H l x).fst != 0)) (Value.bool true) (by kernel_rfl) (congrArg _ (by simpa using he))) ?_
    refine wpc_true (by kernel_rfl) ?_
    refine wpc_seq ?_
    refine wpc_region [0, 1, 2, 3] (by kernel_rfl) ?_
    refine wpr_run (l₂ := []) true [0, 1, 2, 3] [2, 2, 3, 3] [(5, Value.int IntKind.i64 (askF k H l x).fst), (7, Value.int IntKind.i64 (askF k H l x).fst), (6, Value.pointer (some { block := g4, off := 0 })), (4, Value.pointer (some { block := g3, off := 0 }))] [ro a (ints l), row 3 1 a1 (askF k H l x).snd.snd.length c1 (ints (askF k H l x).snd.snd), Ch.blk g1 24 [Value.int IntKind.i64 H, Value.slice a l.length c], Ch.blk g3 24 [Value.int IntKind.i64 H, Value.slice a l.length c], Ch.blk g4 24 [Value.int IntKind.i64 (askF k H l x).snd.fst, Value.slice a1 (askF k H l x).snd.snd.length c1]] [] (by kernel_rfl) (by kernel_rfl) trivial ?_
    refine wpr_nil ?_
    refine nx_then ?_
    refine wpc_ret ?_
    refine nx_then_ret ?_
    refine nx_end (hp' := []) (rest := [ro a (ints l), row 3 1 a1 (askF k H l x).snd.snd.length c1 (ints (askF k H l x).snd.snd), Ch.blk g1 24 [Value.int IntKind.i64 H, Value.slice a l.length c], Ch.blk g3 24 [Value.int IntKind.i64 H, Value.slice a l.length c], Ch.blk g4 24 [Value.int IntKind.i64 (askF k H l x).snd.fst, Value.slice a1 (askF k H l x).snd.snd.length c1]]) [3, 3] ((Value.tuple #[Value.agg #[Value.int IntKind.i64 H, Value.slice a l.length c], Value.int IntKind.i64 (askF k H l x).fst])) (by kernel_rfl) (by kernel_rfl) (give [] (by kernel_rfl)) (by first | ((repeat (first | exact trivial | refine ⟨trivial, ?_⟩)); done) | assumption) ?_ (.inr rfl)
    exact .inl ⟨he, rfl, rfl⟩
  · refine wpc_ent (ent_set 53 (Value.bool ((askF k H l x).fst != 0)) (Value.bool false) (by kernel_rfl) (congrArg _ (by simpa using he))) ?_
    refine wpc_false (by kernel_rfl) ?_
    refine wpc_skip ?_
    refine nx_then ?_
    refine wpc_seq ?_
    refine wpc_region [0, 1, 2, 3] (by kernel_rfl) ?_
    refine wpr_run (l₂ := []) true [0, 1, 2, 3] [4, 4, 3, 3] [(5, Value.int IntKind.i64 (askF k H l x).fst), (4, Value.pointer (some { block := g3, off := 0 }))] [ro a (ints l), row 3 1 a1 (askF k H l x).snd.snd.length c1 (ints (askF k H l x).snd.snd), Ch.blk g1 24 [Value.int IntKind.i64 H, Value.slice a l.length c], Ch.blk g3 24 [Value.int IntKind.i64 (askF k H l x).snd.fst, Value.slice a1 (askF k H l x).snd.snd.length c1], Ch.blk g4 24 [Value.int IntKind.i64 (askF k H l x).snd.fst, Value.slice a1 (askF k H l x).snd.snd.length c1]] [] (by kernel_rfl) (by kernel_rfl) trivial ?_
    refine wpr_nil ?_
    refine nx_then ?_
    refine wpc_ret ?_
    refine nx_end (hp' := [row 3 1 a1 (askF k H l x).snd.snd.length c1 (ints (askF k H l x).snd.snd)]) (rest := [ro a (ints l), Ch.blk g1 24 [Value.int IntKind.i64 H, Value.slice a l.length c], Ch.blk g3 24 [Value.int IntKind.i64 (askF k H l x).snd.fst, Value.slice a1 (askF k H l x).snd.snd.length c1], Ch.blk g4 24 [Value.int IntKind.i64 (askF k H l x).snd.fst, Value.slice a1 (askF k H l x).snd.snd.length c1]]) [3, 3] ((Value.tuple #[Value.agg #[Value.int IntKind.i64 (askF k H l x).snd.fst, Value.slice a1 (askF k H l x).snd.snd.length c1], Value.int IntKind.i64 (askF k H l x).fst])) (by kernel_rfl) (by kernel_rfl) (give [1] (by kernel_rfl)) (by first | ((repeat (first | exact trivial | refine ⟨trivial, ?_⟩)); done) | assumption) ?_ (.inr rfl)
    exact .inr ⟨Classical.not_not.1 he, a1, c1, rfl, rfl⟩

theorem askN_err {k H x : Int} {l : List Int} (h : (askF k H l x).1 ≠ 0) : askN k H l x = (H, l) := if_pos h
theorem askN_fine {k H x : Int} {l : List Int} (h : (askF k H l x).1 = 0) : askN k H l x = (askF k H l x).2 := if_neg (fun e => e h)

theorem kappa {q q' : List Int} {x : Int} (hq : q.Nodup) (h : q' = q ∨ q' = q ++ [x] ∨ ∃ (p : Nat) (hp : p < q.length), q[p] = x ∧ q' = q.eraseIdx p) :
    ∃ κ : Nat → Nat, κ 0 = 0 ∧ (∀ j, κ j ≤ j) ∧ (∀ j (hj : j < q.length), (q'[κ j]? = some q[j] ∧ κ (j + 1) = κ j + 1) ∨ (q'[κ j]? ≠ some q[j] ∧ q[j] = x ∧ κ (j + 1) = κ j)) ∧ q'.length ≤ κ q.length + 1 ∧ (q'.length = κ q.length + 1 → q'[κ q.length]? = some x) := by
  rcases h with rfl | rfl | ⟨p, hp, hx, rfl⟩
  · exact ⟨id, rfl, fun _ => Nat.le_refl _, fun j hj => .inl ⟨by simp [hj], rfl⟩, by simp, fun h => by simp at h⟩
  · refine ⟨id, rfl, fun _ => Nat.le_refl _, fun j hj => .inl ⟨?_, rfl⟩, by simp, fun _ => ?_⟩
    · show (q ++ [x])[j]? = some q[j]
      rw [List.getElem?_append_left hj, List.getElem?_eq_getElem hj]
    · show (q ++ [x])[q.length]? = some x
      rw [List.getElem?_append_right (Nat.le_refl _)]; simp
  · have hE : (q.eraseIdx p).length = q.length - 1 := List.length_eraseIdx_of_lt hp
    refine ⟨fun j => if j ≤ p then j else j - 1, by simp, fun j => by dsimp only; split <;> omega, fun j hj => ?_, ?_, fun h => ?_⟩
    · dsimp only
      rcases Nat.lt_trichotomy j p with h | h | h
      · left
        rw [if_pos (by omega), if_pos (by omega), List.getElem?_eraseIdx, if_pos h, List.getElem?_eq_getElem hj]
        exact ⟨rfl, rfl⟩
      · subst h
        right
        rw [if_pos (Nat.le_refl _), if_neg (by omega), List.getElem?_eraseIdx, if_neg (by omega)]
        refine ⟨fun e => ?_, hx, by omega⟩
        obtain ⟨h1, h2⟩ := List.getElem?_eq_some_iff.1 e
        rw [List.nodup_iff_pairwise_ne, List.pairwise_iff_getElem] at hq
        exact hq j (j + 1) hj h1 (by omega) h2.symm
      · left
        rw [if_neg (by omega), if_neg (by omega), List.getElem?_eraseIdx, if_neg (by omega), show j - 1 + 1 = j by omega, List.getElem?_eq_getElem hj]
        exact ⟨rfl, by omega⟩
    · dsimp only
      rw [hE]; split <;> omega
    · dsimp only at h ⊢
      rw [hE, if_neg (by omega)] at h
      omega

structure GX (n : Nat) where
  i : Nat
  H : Int
  q : List Int
  a : Option Addr
  c : Nat
  hi : i ≤ n
  ok : Ok H q
  hf : (a = none → q = []) ∧ q.length ≤ c

set_option maxHeartbeats 4000000 in
theorem FloorOrder_spec (al : Option Addr) (cl : Nat) (l : List (Int × Int)) (ha : al = none → l = []) (hl : l.length ≤ 9223372036854775807) :
    Does Try.prog 5 [.slice al l.length cl] [ro al (l.flatMap askC)] (fun v hp' => v = .bool true ∧ hp' = []) := by
  refine fn_enter Try.func5 rfl 95 rfl fun w0 h0 => ?_
  refine wpc_seq ?_
  refine wpc_region [0] (by kernel_rfl) ?_
  refine wpr_run (l₂ := []) true [0] [] [(2, Value.bool false), (0, Value.slice al l.length cl)] [ro al (List.flatMap askC l)] [] (by kernel_rfl) (by kernel_rfl) trivial ?_
  refine wpr_nil ?_
  refine nx_then ?_
  refine wpc_seq ?_
  refine wpc_seq ?_
  refine wpc_region [0, 1, 2] (by kernel_rfl) ?_
  refine wpr_run (l₂ := []) true [0, 1, 2] [] [(11, Value.bool (decide ((↑l.length : Int) > 200))), (2, Value.bool false), (0, Value.slice al l.length cl)] [ro al (List.flatMap askC l)] [] (by kernel_rfl) (by kernel_rfl) trivial ?_
  refine wpr_nil ?_
  refine nx_then ?_
  refine wpc_if (((↑l.length : Int) > 200)) (by kernel_rfl) (fun hbig => ?_) (fun hbig => ?_)
  · refine wpc_seq ?_
    refine wpc_region [0, 1] (by kernel_rfl) ?_
    refine wpr_call (dst := some 12) (rest := [ro al (List.flatMap askC l)]) (by kernel_rfl) (lives_spec) (give [] (by kernel_rfl)) ?_
    rintro v hp' ⟨rfl, rfl⟩
    refine wpr_run (l₂ := []) true [1] [] [(2, Value.bool true), (0, Value.slice al l.length cl)] [ro al (List.flatMap askC l)] [] (by kernel_rfl) (by kernel_rfl) trivial ?_
    refine wpr_nil ?_
    refine nx_then ?_
    refine wpc_ret ?_
    refine nx_then_ret ?_
    refine nx_end (hp' := []) (rest := [ro al (List.flatMap askC l)]) [] ((Value.bool true)) (by kernel_rfl) (by kernel_rfl) (give [] (by kernel_rfl)) (by first | ((repeat (first | exact trivial | refine ⟨trivial, ?_⟩)); done) | assumption) ?_ (.inr rfl)
    exact ⟨rfl, rfl⟩
  refine wpc_skip ?_
  refine nx_then ?_
  refine wpc_seq ?_
  refine wpc_region [0] (by kernel_rfl) ?_
  refine wpr_new (l₂ := []) true [0] [] (fun g1 => [(3, Value.pointer (some { block := g1, off := 0 })), (2, Value.bool false), (0, Value.slice al l.length cl)]) (fun g1 => [ro al (List.flatMap askC l), Ch.blk g1 24 [Value.int IntKind.i64 0, Value.slice none 0 0]]) (fun g1 => []) (fun g1 => by kernel_rfl) (fun g1 => by kernel_rfl) (fun g1 => trivial) fun g1 => ?_
  refine wpr_nil ?_
  refine nx_then ?_
  refine wpc_seq ?_
  refine wpc_seq ?_
  refine wpc_region [0] (by kernel_rfl) ?_
  refine wpr_run (l₂ := []) true [0] [] [(4, Value.int IntKind.i64 0), (3, Value.pointer (some { block := g1, off := 0 })), (2, Value.bool false), (0, Value.slice al l.length cl)] [ro al (List.flatMap askC l), Ch.blk g1 24 [Value.int IntKind.i64 0, Value.slice none 0 0]] [] (by kernel_rfl) (by kernel_rfl) trivial ?_
  refine wpr_nil ?_
  refine nx_then ?_
  refine wpc_block ?_
  refine wpc_ent (ent_nil 3 1) ?_
  refine wpc_ent (ent_turn 0 (ro none (ints [])) rfl (turn_view view_row) rfl) ?_
  refine wpc_loop (X := GX l.length) (fun x => St.mk [(4, .int .i64 (x.i : Int)), (3, .pointer (some ⟨g1, 0, none⟩)), (2, .bool false), (0, .slice al l.length cl)]
    [ro al (l.flatMap askC), ro x.a (ints x.q), .blk g1 24 [.int .i64 x.H, .slice x.a x.q.length x.c]]) (fun x => l.length - x.i) ⟨0, 0, [], none, 0, Nat.zero_le _, by decide, fun _ => rfl, Nat.le_refl _⟩ ?_ ?_
  · exact fun a w hS => ent_fr (by kernel_rfl) _ _ (ent_hp [1, 0, 0] rfl _ _ hS)
  rintro ⟨i, H, q, a, c, hi, ok, hf⟩
  dsimp only at hi ok hf ⊢
  refine wpc_seq ?_
  refine wpc_seq ?_
  refine wpc_region [0, 1, 2, 3] (by kernel_rfl) ?_
  refine wpr_run (l₂ := []) true [0, 1, 2, 3] [] [(16, Value.bool (decide ((↑i : Int) < (↑l.length : Int)))), (4, Value.int IntKind.i64 (↑i : Int)), (3, Value.pointer (some { block := g1, off := 0 })), (2, Value.bool false), (0, Value.slice al l.length cl)] [ro al (List.flatMap askC l), ro a (ints q), Ch.blk g1 24 [Value.int IntKind.i64 H, Value.slice a q.length c]] [] (by kernel_rfl) (by kernel_rfl) trivial ?_
  refine wpr_nil ?_
  refine nx_then ?_
  refine wpc_if (((↑i : Int) < (↑l.length : Int))) (by kernel_rfl) (fun hlt => ?_) (fun hlt => ?_)
  · have hil : i < l.length := by omega
    obtain ⟨k, x, hK⟩ : ∃ k x, l[i] = (k, x) := ⟨_, _, rfl⟩
    have hq4 := ok.2.1
    have ok' := ok_askN (k := k) (x := x) ok
    have hq4' := ok'.2.1
    refine wpc_fact (fun w h => ro_addr h 0 rfl (by rw [fm_len askC_len]; omega)) ?_
    rintro ⟨w1, o1, rfl⟩
    refine wpc_skip ?_
    refine nx_then ?_
    refine wpc_seq ?_
    refine wpc_block ?_
    refine wpc_seq ?_
    refine wpc_draw (by kernel_rfl) [ro (some { block := w1, off := o1 }) (List.flatMap askC l), ro a (ints q), Ch.blk g1 24 [Value.int IntKind.i64 H, Value.slice a q.length c]] (sub_of [0, 1, 2] (by kernel_rfl)) 12 (by kernel_rfl) ?_
    refine wpa_take true [(0, [2, 2]), (1, []), (2, []), (3, [])] ([(23, Value.pointer (some { block := w1, off := o1 + i * 2 })), (20, Value.agg #[Value.int IntKind.i64 H, Value.slice a q.length c]), (4, Value.int IntKind.i64 (↑i : Int)), (3, Value.pointer (some { block := g1, off := 0 })), (2, Value.bool false), (0, Value.slice (some { block := w1, off := o1 }) l.length cl)]) (#[true, true, true, true, false, false, false, false, false, false, false, false]) [(0 : Int) ≤ (↑i : Int) ∧ (↑i : Int) < (↑l.length : Int)] (n := 8) (by kernel_rfl) (by kernel_rfl) (by kernel_rfl) ⟨by omega, trivial⟩ ?_
    refine wpa_qld (i := 4) (n := 7) (by kernel_rfl) (by kernel_rfl) (by kernel_rfl) (t := 41) (a := ({ block := w1, off := o1 + i * 2 })) (dst := some 24) (by kernel_rfl) true 2 (by kernel_rfl) (by simp) [.int .i64 k, .int .i64 x] rfl (fun w h => ld_roL h 0 rfl (i * 2) ((fm_at askC_len hil).trans (by rw [hK]; rfl))) ?_
    obtain ⟨H', q', hN⟩ : ∃ H' q', askN k H q x = (H', q') := ⟨_, _, rfl⟩
    rw [hN] at ok' hq4'
    dsimp only at ok' hq4'
    refine wpa_joinx (X := {y : Option Addr × Nat × Nat // (y.1 = none → q' = []) ∧ q'.length ≤ y.2.1}) (fun y => St.mk [(5, .pointer (some ⟨y.1.2.2, 0, none⟩)), (4, .int .i64 (i : Int)), (3, .pointer (some ⟨g1, 0, none⟩)), (2, .bool false), (0, .slice (some ⟨w1, o1, none⟩) l.length cl)]
      [ro (some ⟨w1, o1, none⟩) (l.flatMap askC), ro a (ints q), ro y.1.1 (ints q'), .blk y.1.2.2 24 [.int .i64 H', .slice y.1.1 q'.length y.1.2.1], .blk g1 24 [.int .i64 H, .slice a q.length c]]) (fun Q1 hQ1 hk => ?_) ?_
    · refine wpa_two (i := 5) (j := 9) (n := 6) (by kernel_rfl) ?_ ?_
      · refine wpi_call (i := 5) (dst := some 25) (rest := [ro (some { block := w1, off := o1 }) (List.flatMap askC l), ro a (ints q), Ch.blk g1 24 [Value.int IntKind.i64 H, Value.slice a q.length c]]) (by kernel_rfl) (lask2_spec H a c q k x (by omega) hf) (Give.view (c := (ro a (ints q))) (give (pre := []) (rest := [ro (some { block := w1, off := o1 }) (List.flatMap askC l), ro a (ints q), Ch.blk g1 24 [Value.int IntKind.i64 H, Value.slice a q.length c]]) [] (by kernel_rfl)) 1 (by kernel_rfl) view_ro) (sub_of [0, 1, 2] (by kernel_rfl)) ?_
        rintro v hp' (⟨he, rfl, rfl⟩ | ⟨he, a1, c1, rfl, rfl⟩)
        · have hN2 := (askN_err he).symm.trans hN
          obtain ⟨rfl, rfl⟩ := Prod.mk.inj hN2
          unfold fl
          refine wpa_take true [(6, []), (7, []), (8, [])] [(27, Value.int IntKind.i64 (askF k H q x).fst), (26, Value.agg #[Value.int IntKind.i64 H, Value.slice a q.length c]), (4, Value.int IntKind.i64 (↑i : Int)), (3, Value.pointer (some { block := g1, off := 0 })), (2, Value.bool false), (0, Value.slice (some { block := w1, off := o1 }) l.length cl)] (#[true, true, true, true, true, true, true, true, true, false, false, false]) [] (n := 3) (by kernel_rfl) (by kernel_rfl) (by kernel_rfl) trivial ?_
          refine wpa_new (n := 2) true 9 [] (fun g2 => [(5, Value.pointer (some { block := g2, off := 0 })), (27, Value.int IntKind.i64 (askF k H q x).fst), (26, Value.agg #[Value.int IntKind.i64 H, Value.slice a q.length c]), (4, Value.int IntKind.i64 (↑i : Int)), (3, Value.pointer (some { block := g1, off := 0 })), (2, Value.bool false), (0, Value.slice (some { block := w1, off := o1 }) l.length cl)]) (fun g2 => [ro (some { block := w1, off := o1 }) (List.flatMap askC l), ro a (ints q), Ch.blk g1 24 [Value.int IntKind.i64 H, Value.slice a q.length c], Ch.blk g2 24 [Value.int IntKind.i64 0, Value.slice none 0 0]]) (fun g2 => []) (by kernel_rfl) (fun g2 => by kernel_rfl) (fun g2 => by kernel_rfl) (fun g2 => trivial) (fun g2 => sub_of [0, 1, 2] (by kernel_rfl)) fun g2 => ?_
          refine wpa_one (n := 1) true 10 [3, 3] [(5, Value.pointer (some { block := g2, off := 0 })), (27, Value.int IntKind.i64 (askF k H q x).fst), (4, Value.int IntKind.i64 (↑i : Int)), (3, Value.pointer (some { block := g1, off := 0 })), (2, Value.bool false), (0, Value.slice (some { block := w1, off := o1 }) l.length cl)] [ro (some { block := w1, off := o1 }) (List.flatMap askC l), ro a (ints q), Ch.blk g1 24 [Value.int IntKind.i64 H, Value.slice a q.length c], Ch.blk g2 24 [Value.int IntKind.i64 H, Value.slice a q.length c]] [] (by kernel_rfl) (by kernel_rfl) (by kernel_rfl) trivial (sub_of [0, 1, 2] (by kernel_rfl)) ?_
          refine wpa_take true [(11, [])] [(5, Value.pointer (some { block := g2, off := 0 })), (4, Value.int IntKind.i64 (↑i : Int)), (3, Value.pointer (some { block := g1, off := 0 })), (2, Value.bool false), (0, Value.slice (some { block := w1, off := o1 }) l.length cl)] (#[true, true, true, true, true, true, true, true, true, true, true, true]) [] (n := 0) (by kernel_rfl) (by kernel_rfl) (by kernel_rfl) trivial ?_
          refine wpa_done 0 (by kernel_rfl) ?_
          refine nx_ent (ent_copy 1 (ro a (ints q)) rfl (fun h => h) view_ro) ?_
          exact nx_ent (ent_hp [1, 0, 0, 1, 0] rfl) (nx_ent (ent_fr (by kernel_rfl)) (hk ⟨(a, c, g2), hf⟩))
        · have hN2 := (askN_fine he).symm.trans hN
          rw [hN2]
          unfold fl
          dsimp only
          refine wpa_fact (fun w h => row_facts h 0 rfl rfl) fun hf2 => ?_
          refine wpa_ent (ent_turn 0 (ro a1 (ints q')) rfl (turn_view view_row) rfl) ?_
          refine wpa_take true [(6, []), (7, []), (8, [])] [(27, Value.int IntKind.i64 (askF k H q x).fst), (26, Value.agg #[Value.int IntKind.i64 H', Value.slice a1 q'.length c1]), (4, Value.int IntKind.i64 (↑i : Int)), (3, Value.pointer (some { block := g1, off := 0 })), (2, Value.bool false), (0, Value.slice (some { block := w1, off := o1 }) l.length cl)] (#[true, true, true, true, true, true, true, true, true, false, false, false]) [] (n := 3) (by kernel_rfl) (by kernel_rfl) (by kernel_rfl) trivial ?_
          refine wpa_new (n := 2) true 9 [] (fun g2 => [(5, Value.pointer (some { block := g2, off := 0 })), (27, Value.int IntKind.i64 (askF k H q x).fst), (26, Value.agg #[Value.int IntKind.i64 H', Value.slice a1 q'.length c1]), (4, Value.int IntKind.i64 (↑i : Int)), (3, Value.pointer (some { block := g1, off := 0 })), (2, Value.bool false), (0, Value.slice (some { block := w1, off := o1 }) l.length cl)]) (fun g2 => [ro a1 (ints q'), ro (some { block := w1, off := o1 }) (List.flatMap askC l), ro a (ints q), Ch.blk g1 24 [Value.int IntKind.i64 H, Value.slice a q.length c], Ch.blk g2 24 [Value.int IntKind.i64 0, Value.slice none 0 0]]) (fun g2 => []) (by kernel_rfl) (fun g2 => by kernel_rfl) (fun g2 => by kernel_rfl) (fun g2 => trivial) (fun g2 => sub_of [1, 2, 3] (by kernel_rfl)) fun g2 => ?_
          refine wpa_one (n := 1) true 10 [4, 4] [(5, Value.pointer (some { block := g2, off := 0 })), (27, Value.int IntKind.i64 (askF k H q x).fst), (4, Value.int IntKind.i64 (↑i : Int)), (3, Value.pointer (some { block := g1, off := 0 })), (2, Value.bool false), (0, Value.slice (some { block := w1, off := o1 }) l.length cl)] [ro a1 (ints q'), ro (some { block := w1, off := o1 }) (List.flatMap askC l), ro a (ints q), Ch.blk g1 24 [Value.int IntKind.i64 H, Value.slice a q.length c], Ch.blk g2 24 [Value.int IntKind.i64 H', Value.slice a1 q'.length c1]] [] (by kernel_rfl) (by kernel_rfl) (by kernel_rfl) trivial (sub_of [1, 2, 3] (by kernel_rfl)) ?_
          refine wpa_take true [(11, [])] [(5, Value.pointer (some { block := g2, off := 0 })), (4, Value.int IntKind.i64 (↑i : Int)), (3, Value.pointer (some { block := g1, off := 0 })), (2, Value.bool false), (0, Value.slice (some { block := w1, off := o1 }) l.length cl)] (#[true, true, true, true, true, true, true, true, true, true, true, true]) [] (n := 0) (by kernel_rfl) (by kernel_rfl) (by kernel_rfl) trivial ?_
          refine wpa_done 0 (by kernel_rfl) ?_
          exact nx_ent (ent_hp [1, 1, 0, 1, 0] rfl) (nx_ent (ent_fr (by kernel_rfl)) (hk ⟨(a1, c1, g2), hf2⟩))
      · refine wpi_new (n := 6) true 9 [] (fun g2 => [(5, Value.pointer (some { block := g2, off := 0 })), (24, Value.agg #[Value.int IntKind.i64 k, Value.int IntKind.i64 x]), (20, Value.agg #[Value.int IntKind.i64 H, Value.slice a q.length c]), (4, Value.int IntKind.i64 (↑i : Int)), (3, Value.pointer (some { block := g1, off := 0 })), (2, Value.bool false), (0, Value.slice (some { block := w1, off := o1 }) l.length cl)]) (fun g2 => [ro (some { block := w1, off := o1 }) (List.flatMap askC l), ro a (ints q), Ch.blk g1 24 [Value.int IntKind.i64 H, Value.slice a q.length c], Ch.blk g2 24 [Value.int IntKind.i64 0, Value.slice none 0 0]]) (fun g2 => []) (fun g2 => by kernel_rfl) (fun g2 => by kernel_rfl) (fun g2 => trivial) (fun g2 => sub_of [0, 1, 2] (by kernel_rfl)) fun g2 => ?_
        refine wpa_call (i := 5) (n := 5) (dst := some 25) (rest := [ro (some { block := w1, off := o1 }) (List.flatMap askC l), ro a (ints q), Ch.blk g1 24 [Value.int IntKind.i64 H, Value.slice a q.length c], Ch.blk g2 24 [Value.int IntKind.i64 0, Value.slice none 0 0]]) (by kernel_rfl) (by kernel_rfl) (lask2_spec H a c q k x (by omega) hf) (Give.view (c := (ro a (ints q))) (give (pre := []) (rest := [ro (some { block := w1, off := o1 }) (List.flatMap askC l), ro a (ints q), Ch.blk g1 24 [Value.int IntKind.i64 H, Value.slice a q.length c], Ch.blk g2 24 [Value.int IntKind.i64 0, Value.slice none 0 0]]) [] (by kernel_rfl)) 1 (by kernel_rfl) view_ro) (sub_of [0, 1, 2] (by kernel_rfl)) ?_
        rintro v hp' (⟨he, rfl, rfl⟩ | ⟨he, a1, c1, rfl, rfl⟩)
        · have hN2 := (askN_err he).symm.trans hN
          obtain ⟨rfl, rfl⟩ := Prod.mk.inj hN2
          unfold fl
          refine wpa_take true [(6, []), (7, []), (8, [])] [(27, Value.int IntKind.i64 (askF k H q x).fst), (26, Value.agg #[Value.int IntKind.i64 H, Value.slice a q.length c]), (5, Value.pointer (some { block := g2, off := 0 })), (4, Value.int IntKind.i64 (↑i : Int)), (3, Value.pointer (some { block := g1, off := 0 })), (2, Value.bool false), (0, Value.slice (some { block := w1, off := o1 }) l.length cl)] (#[true, true, true, true, true, true, true, true, true, true, false, false]) [] (n := 2) (by kernel_rfl) (by kernel_rfl) (by kernel_rfl) trivial ?_
          refine wpa_one (n := 1) true 10 [3, 3] [(27, Value.int IntKind.i64 (askF k H q x).fst), (5, Value.pointer (some { block := g2, off := 0 })), (4, Value.int IntKind.i64 (↑i : Int)), (3, Value.pointer (some { block := g1, off := 0 })), (2, Value.bool false), (0, Value.slice (some { block := w1, off := o1 }) l.length cl)] [ro (some { block := w1, off := o1 }) (List.flatMap askC l), ro a (ints q), Ch.blk g1 24 [Value.int IntKind.i64 H, Value.slice a q.length c], Ch.blk g2 24 [Value.int IntKind.i64 H, Value.slice a q.length c]] [] (by kernel_rfl) (by kernel_rfl) (by kernel_rfl) trivial (sub_of [0, 1, 2] (by kernel_rfl)) ?_
          refine wpa_take true [(11, [])] [(5, Value.pointer (some { block := g2, off := 0 })), (4, Value.int IntKind.i64 (↑i : Int)), (3, Value.pointer (some { block := g1, off := 0 })), (2, Value.bool false), (0, Value.slice (some { block := w1, off := o1 }) l.length cl)] (#[true, true, true, true, true, true, true, true, true, true, true, true]) [] (n := 0) (by kernel_rfl) (by kernel_rfl) (by kernel_rfl) trivial ?_
          refine wpa_done 0 (by kernel_rfl) ?_
          refine nx_ent (ent_copy 1 (ro a (ints q)) rfl (fun h => h) view_ro) ?_
          exact nx_ent (ent_hp [1, 0, 0, 1, 0] rfl) (nx_ent (ent_fr (by kernel_rfl)) (hk ⟨(a, c, g2), hf⟩))
        · have hN2 := (askN_fine he).symm.trans hN
          rw [hN2]
          unfold fl
          dsimp only
          refine wpa_fact (fun w h => row_facts h 0 rfl rfl) fun hf2 => ?_
          refine wpa_ent (ent_turn 0 (ro a1 (ints q')) rfl (turn_view view_row) rfl) ?_
          refine wpa_take true [(6, []), (7, []), (8, [])] [(27, Value.int IntKind.i64 (askF k H q x).fst), (26, Value.agg #[Value.int IntKind.i64 H', Value.slice a1 q'.length c1]), (5, Value.pointer (some { block := g2, off := 0 })), (4, Value.int IntKind.i64 (↑i : Int)), (3, Value.pointer (some { block := g1, off := 0 })), (2, Value.bool false), (0, Value.slice (some { block := w1, off := o1 }) l.length cl)] (#[true, true, true, true, true, true, true, true, true, true, false, false]) [] (n := 2) (by kernel_rfl) (by kernel_rfl) (by kernel_rfl) trivial ?_
          refine wpa_one (n := 1) true 10 [4, 4] [(27, Value.int IntKind.i64 (askF k H q x).fst), (5, Value.pointer (some { block := g2, off := 0 })), (4, Value.int IntKind.i64 (↑i : Int)), (3, Value.pointer (some { block := g1, off := 0 })), (2, Value.bool false), (0, Value.slice (some { block := w1, off := o1 }) l.length cl)] [ro a1 (ints q'), ro (some { block := w1, off := o1 }) (List.flatMap askC l), ro a (ints q), Ch.blk g1 24 [Value.int IntKind.i64 H, Value.slice a q.length c], Ch.blk g2 24 [Value.int IntKind.i64 H', Value.slice a1 q'.length c1]] [] (by kernel_rfl) (by kernel_rfl) (by kernel_rfl) trivial (sub_of [1, 2, 3] (by kernel_rfl)) ?_
          refine wpa_take true [(11, [])] [(5, Value.pointer (some { block := g2, off := 0 })), (4, Value.int IntKind.i64 (↑i : Int)), (3, Value.pointer (some { block := g1, off := 0 })), (2, Value.bool false), (0, Value.slice (some { block := w1, off := o1 }) l.length cl)] (#[true, true, true, true, true, true, true, true, true, true, true, true]) [] (n := 0) (by kernel_rfl) (by kernel_rfl) (by kernel_rfl) trivial ?_
          refine wpa_done 0 (by kernel_rfl) ?_
          exact nx_ent (ent_hp [1, 1, 0, 1, 0] rfl) (nx_ent (ent_fr (by kernel_rfl)) (hk ⟨(a1, c1, g2), hf2⟩))
    rintro ⟨⟨a1, c1, g5⟩, hf2⟩
    dsimp only at hf2 ⊢
    have hQ := ask_queue (k := k) (x := x) ok
    rw [hN] at hQ
    dsimp only at hQ
    have hA := (fm_at askC_len hil).trans (show askC l[i] = [Value.int .i64 k, .int .i64 x] by rw [hK]; rfl)
    have hA1 : ((l.flatMap askC).drop (i * 2 + 1)).take 1 = [Value.int .i64 x] := by
      have e : ((l.flatMap askC).drop (i * 2 + 1)).take 1 = (((l.flatMap askC).drop (i * 2)).take 2).drop 1 := by rw [List.drop_take, List.drop_drop]
      rw [e, hA]; rfl
    obtain ⟨κ, κ0, κle, κs, κn, κx⟩ := kappa ok.2.2.2 hQ
    refine nx_then ?_
    refine wpc_seq ?_
    refine wpc_region [0] (by kernel_rfl) ?_
    refine wpr_run (l₂ := []) true [0] [] [(7, Value.int IntKind.i64 0), (5, Value.pointer (some { block := g5, off := 0 })), (4, Value.int IntKind.i64 (↑i : Int)), (3, Value.pointer (some { block := g1, off := 0 })), (2, Value.bool false), (0, Value.slice (some { block := w1, off := o1 }) l.length cl)] [ro (some { block := w1, off := o1 }) (List.flatMap askC l), ro a (ints q), ro a1 (ints q'), Ch.blk g5 24 [Value.int IntKind.i64 H', Value.slice a1 q'.length c1], Ch.blk g1 24 [Value.int IntKind.i64 H, Value.slice a q.length c]] [] (by kernel_rfl) (by kernel_rfl) trivial ?_
    refine wpr_nil ?_
    refine nx_then ?_
    refine wpc_seq ?_
    refine wpc_seq ?_
    refine wpc_region [0] (by kernel_rfl) ?_
    refine wpr_run (l₂ := []) true [0] [] [(8, Value.int IntKind.i64 0), (7, Value.int IntKind.i64 0), (5, Value.pointer (some { block := g5, off := 0 })), (4, Value.int IntKind.i64 (↑i : Int)), (3, Value.pointer (some { block := g1, off := 0 })), (2, Value.bool false), (0, Value.slice (some { block := w1, off := o1 }) l.length cl)] [ro (some { block := w1, off := o1 }) (List.flatMap askC l), ro a (ints q), ro a1 (ints q'), Ch.blk g5 24 [Value.int IntKind.i64 H', Value.slice a1 q'.length c1], Ch.blk g1 24 [Value.int IntKind.i64 H, Value.slice a q.length c]] [] (by kernel_rfl) (by kernel_rfl) trivial ?_
    refine wpr_nil ?_
    refine nx_then ?_
    refine wpc_block ?_
    refine wpc_loop (X := {j : Nat // j ≤ q.length}) (fun j => St.mk [(8, .int .i64 (j.1 : Int)), (7, .int .i64 (κ j.1 : Int)), (5, .pointer (some ⟨g5, 0, none⟩)), (4, .int .i64 (i : Int)), (3, .pointer (some ⟨g1, 0, none⟩)), (2, .bool false), (0, .slice (some ⟨w1, o1, none⟩) l.length cl)]
      [ro (some ⟨w1, o1, none⟩) (l.flatMap askC), ro a (ints q), ro a1 (ints q'), .blk g5 24 [.int .i64 H', .slice a1 q'.length c1], .blk g1 24 [.int .i64 H, .slice a q.length c]]) (fun j => q.length - j.1) ⟨0, Nat.zero_le _⟩ (by rw [κ0]; exact ent_fr (by kernel_rfl)) ?_
    rintro ⟨j, hj⟩
    dsimp only at hj ⊢
    have κj := κle j
    refine wpc_seq ?_
    refine wpc_seq ?_
    refine wpc_region [0, 1, 2, 3, 4] (by kernel_rfl) ?_
    refine wpr_run (l₂ := []) true [0, 1, 2, 3, 4] [4] [(32, Value.bool (decide ((↑j : Int) < (↑q.length : Int)))), (8, Value.int IntKind.i64 (↑j : Int)), (7, Value.int IntKind.i64 (↑(κ j) : Int)), (5, Value.pointer (some { block := g5, off := 0 })), (4, Value.int IntKind.i64 (↑i : Int)), (3, Value.pointer (some { block := g1, off := 0 })), (2, Value.bool false), (0, Value.slice (some { block := w1, off := o1 }) l.length cl)] [ro (some { block := w1, off := o1 }) (List.flatMap askC l), ro a (ints q), ro a1 (ints q'), Ch.blk g5 24 [Value.int IntKind.i64 H', Value.slice a1 q'.length c1], Ch.blk g1 24 [Value.int IntKind.i64 H, Value.slice a q.length c]] [] (by kernel_rfl) (by kernel_rfl) trivial ?_
    refine wpr_nil ?_
    refine nx_then ?_
    refine wpc_if (((↑j : Int) < (↑q.length : Int))) (by kernel_rfl) (fun hjl => ?_) (fun hjl => ?_)
    · have hjq : j < q.length := by omega
      have κsj := κs j hjq
      refine wpc_fact (fun w h => ro_addr h 1 rfl (by rw [ints_len]; omega)) ?_
      rintro ⟨w2, o2, rfl⟩
      by_cases hκ : κ j < q'.length
      · refine wpc_fact (fun w h => ro_addr h 2 rfl (by rw [ints_len]; omega)) ?_
        rintro ⟨w3, o3, rfl⟩
        rw [List.getElem?_eq_getElem hκ] at κsj
        refine wpc_skip ?_
        refine nx_then ?_
        refine wpc_seq ?_
        refine wpc_block ?_
        refine wpc_seq ?_
        refine wpc_draw (by kernel_rfl) [ro (some { block := w1, off := o1 }) (List.flatMap askC l), ro (some { block := w2, off := o2 }) (ints q), ro (some { block := w3, off := o3 }) (ints q'), Ch.blk g5 24 [Value.int IntKind.i64 H', Value.slice (some { block := w3, off := o3 }) q'.length c1], Ch.blk g1 24 [Value.int IntKind.i64 H, Value.slice (some { block := w2, off := o2 }) q.length c]] (sub_of [0, 1, 2, 3, 4] (by kernel_rfl)) 18 (by kernel_rfl) ?_
        refine wpa_take true [(0, []), (1, []), (2, [3]), (3, []), (4, []), (5, [])] [(40, Value.bool (decide ((↑(κ j) : Int) < (↑q'.length : Int)))), (8, Value.int IntKind.i64 (↑j : Int)), (7, Value.int IntKind.i64 (↑(κ j) : Int)), (5, Value.pointer (some { block := g5, off := 0 })), (4, Value.int IntKind.i64 (↑i : Int)), (3, Value.pointer (some { block := g1, off := 0 })), (2, Value.bool false), (0, Value.slice (some { block := w1, off := o1 }) l.length cl)] (#[true, true, true, true, true, true, false, false, false, false, false, false, false, false, false, false, false, false]) [] (n := 12) (by kernel_rfl) (by kernel_rfl) (by kernel_rfl) trivial ?_
        refine wpa_ent (ent_set 40 (Value.bool (decide ((↑(κ j) : Int) < (↑q'.length : Int)))) (Value.bool true) (by kernel_rfl) (congrArg _ (decide_eq_true (by omega)))) ?_
        refine wpa_take true [(6, []), (7, [3]), (8, []), (9, []), (11, []), (12, [4]), (13, []), (14, [])] ([(49, Value.pointer (some { block := w2, off := o2 + j * 1 })), (44, Value.pointer (some { block := w3, off := o3 + κ j * 1 })), (40, Value.bool true), (8, Value.int IntKind.i64 (↑j : Int)), (7, Value.int IntKind.i64 (↑(κ j) : Int)), (5, Value.pointer (some { block := g5, off := 0 })), (4, Value.int IntKind.i64 (↑i : Int)), (3, Value.pointer (some { block := g1, off := 0 })), (2, Value.bool false), (0, Value.slice (some { block := w1, off := o1 }) l.length cl)]) (#[true, true, true, true, true, true, true, true, true, true, false, true, true, true, true, false, false, false]) [(0 : Int) ≤ (↑(κ j) : Int) ∧ (↑(κ j) : Int) < (↑q'.length : Int), (0 : Int) ≤ (↑j : Int) ∧ (↑j : Int) < (↑q.length : Int)] (n := 4) (by kernel_rfl) (by kernel_rfl) (by kernel_rfl) ⟨by omega, by omega, trivial⟩ ?_
        refine wpa_qld (i := 10) (n := 3) (by kernel_rfl) (by kernel_rfl) (by kernel_rfl) (t := 3) (a := ({ block := w3, off := o3 + κ j * 1 })) (dst := some 45) (by kernel_rfl) false 1 (by kernel_rfl) (by simp) [.int .i64 q'[κ j]] rfl (fun w h => ld_roL h 2 rfl (κ j * 1) (ints_at hκ)) ?_
        refine wpa_qld (i := 15) (n := 2) (by kernel_rfl) (by kernel_rfl) (by kernel_rfl) (t := 3) (a := ({ block := w2, off := o2 + j * 1 })) (dst := some 50) (by kernel_rfl) false 1 (by kernel_rfl) (by simp) [.int .i64 q[j]] rfl (fun w h => ld_roL h 1 rfl (j * 1) (ints_at hjq)) ?_
        refine wpa_take true [(16, []), (17, [])] [(52, Value.bool (q'[κ j] == q[j])), (8, Value.int IntKind.i64 (↑j : Int)), (7, Value.int IntKind.i64 (↑(κ j) : Int)), (5, Value.pointer (some { block := g5, off := 0 })), (4, Value.int IntKind.i64 (↑i : Int)), (3, Value.pointer (some { block := g1, off := 0 })), (2, Value.bool false), (0, Value.slice (some { block := w1, off := o1 }) l.length cl)] (#[true, true, true, true, true, true, true, true, true, true, true, true, true, true, true, true, true, true]) [] (n := 0) (by kernel_rfl) (by kernel_rfl) (by kernel_rfl) trivial ?_
        refine wpa_done 0 (by kernel_rfl) ?_
        refine nx_then ?_
        rcases κsj with ⟨h1, h2⟩ | ⟨h1, hx, h2⟩
        · have h1 := Option.some.inj h1
          rw [h1]
          refine wpc_ent (ent_set 52 (Value.bool (q[j] == q[j])) (Value.bool true) (by kernel_rfl) (congrArg _ (by simp))) ?_
          refine wpc_true (by kernel_rfl) ?_
          refine wpc_region [0, 1, 2] (by kernel_rfl) ?_
          refine wpr_run (l₂ := []) true [0, 1, 2] [] ([(7, Value.int IntKind.i64 ((↑(κ j) : Int) + 1)), (8, Value.int IntKind.i64 (↑j : Int)), (5, Value.pointer (some { block := g5, off := 0 })), (4, Value.int IntKind.i64 (↑i : Int)), (3, Value.pointer (some { block := g1, off := 0 })), (2, Value.bool false), (0, Value.slice (some { block := w1, off := o1 }) l.length cl)]) [ro (some { block := w1, off := o1 }) (List.flatMap askC l), ro (some { block := w2, off := o2 }) (ints q), ro (some { block := w3, off := o3 }) (ints q'), Ch.blk g5 24 [Value.int IntKind.i64 H', Value.slice (some { block := w3, off := o3 }) q'.length c1], Ch.blk g1 24 [Value.int IntKind.i64 H, Value.slice (some { block := w2, off := o2 }) q.length c]] ([inI64 ((↑(κ j) : Int) + (1 : Int))]) (by kernel_rfl) (by kernel_rfl) ⟨by unfold inI64; omega, trivial⟩ ?_
          refine wpr_nil ?_
          refine nx_block ?_
          refine nx_then ?_
          refine wpc_region [0, 1, 2] (by kernel_rfl) ?_
          refine wpr_run (l₂ := []) true [0, 1, 2] [] ([(8, Value.int IntKind.i64 ((↑j : Int) + 1)), (7, Value.int IntKind.i64 ((↑(κ j) : Int) + 1)), (5, Value.pointer (some { block := g5, off := 0 })), (4, Value.int IntKind.i64 (↑i : Int)), (3, Value.pointer (some { block := g1, off := 0 })), (2, Value.bool false), (0, Value.slice (some { block := w1, off := o1 }) l.length cl)]) [ro (some { block := w1, off := o1 }) (List.flatMap askC l), ro (some { block := w2, off := o2 }) (ints q), ro (some { block := w3, off := o3 }) (ints q'), Ch.blk g5 24 [Value.int IntKind.i64 H', Value.slice (some { block := w3, off := o3 }) q'.length c1], Ch.blk g1 24 [Value.int IntKind.i64 H, Value.slice (some { block := w2, off := o2 }) q.length c]] ([inI64 ((↑j : Int) + (1 : Int))]) (by kernel_rfl) (by kernel_rfl) ⟨by unfold inI64; omega, trivial⟩ ?_
          refine wpr_nil ?_
          rw [show (κ j : Int) + 1 = ((κ (j + 1) : Nat) : Int) by rw [h2]; rfl]
          exact fun a' w' hS' => ⟨⟨j + 1, by omega⟩, by dsimp only; omega, ent_fr (by kernel_rfl) _ _ (ent_hp [0, 0, 0, 0, 0] rfl _ _ hS')⟩
        · have h1 : ¬ q'[κ j] = q[j] := fun e => h1 (by rw [e])
          refine wpc_ent (ent_set 52 (Value.bool (q'[κ j] == q[j])) (Value.bool false) (by kernel_rfl) (congrArg _ (by simp only [bne_eq_false_iff_eq, beq_eq_false_iff_ne, ne_eq]; omega))) ?_
          refine wpc_false (by kernel_rfl) ?_
          refine wpc_seq ?_
          refine wpc_draw (by kernel_rfl) [ro (some { block := w1, off := o1 }) (List.flatMap askC l), ro (some { block := w2, off := o2 }) (ints q), ro (some { block := w3, off := o3 }) (ints q'), Ch.blk g5 24 [Value.int IntKind.i64 H', Value.slice (some { block := w3, off := o3 }) q'.length c1], Ch.blk g1 24 [Value.int IntKind.i64 H, Value.slice (some { block := w2, off := o2 }) q.length c]] (sub_of [0, 1, 2, 3, 4] (by kernel_rfl)) 11 (by kernel_rfl) ?_
          refine wpa_take true [(0, []), (1, [4]), (2, []), (3, []), (5, []), (6, []), (7, []), (8, [])] ([(63, Value.pointer (some { block := w1, off := o1 + i * 2 + 1 })), (58, Value.pointer (some { block := w2, off := o2 + j * 1 })), (8, Value.int IntKind.i64 (↑j : Int)), (7, Value.int IntKind.i64 (↑(κ j) : Int)), (5, Value.pointer (some { block := g5, off := 0 })), (4, Value.int IntKind.i64 (↑i : Int)), (3, Value.pointer (some { block := g1, off := 0 })), (2, Value.bool false), (0, Value.slice (some { block := w1, off := o1 }) l.length cl)]) (#[true, true, true, true, false, true, true, true, true, false, false]) [(0 : Int) ≤ (↑j : Int) ∧ (↑j : Int) < (↑q.length : Int), (0 : Int) ≤ (↑i : Int) ∧ (↑i : Int) < (↑l.length : Int)] (n := 3) (by kernel_rfl) (by kernel_rfl) (by kernel_rfl) ⟨by omega, by omega, trivial⟩ ?_
          refine wpa_qld (i := 4) (n := 2) (by kernel_rfl) (by kernel_rfl) (by kernel_rfl) (t := 3) (a := ({ block := w2, off := o2 + j * 1 })) (dst := some 59) (by kernel_rfl) false 1 (by kernel_rfl) (by simp) [.int .i64 q[j]] rfl (fun w h => ld_roL h 1 rfl (j * 1) (ints_at hjq)) ?_
          refine wpa_qld (i := 9) (n := 1) (by kernel_rfl) (by kernel_rfl) (by kernel_rfl) (t := 3) (a := ({ block := w1, off := o1 + i * 2 + 1 })) (dst := some 64) (by kernel_rfl) false 1 (by kernel_rfl) (by simp) [.int .i64 x] rfl (fun w h => ld_roL h 0 rfl (i * 2 + 1) hA1) ?_
          refine wpa_take true [(10, [])] [(65, Value.bool (q[j] != x)), (8, Value.int IntKind.i64 (↑j : Int)), (7, Value.int IntKind.i64 (↑(κ j) : Int)), (5, Value.pointer (some { block := g5, off := 0 })), (4, Value.int IntKind.i64 (↑i : Int)), (3, Value.pointer (some { block := g1, off := 0 })), (2, Value.bool false), (0, Value.slice (some { block := w1, off := o1 }) l.length cl)] (#[true, true, true, true, true, true, true, true, true, true, true]) [] (n := 0) (by kernel_rfl) (by kernel_rfl) (by kernel_rfl) trivial ?_
          refine wpa_done 0 (by kernel_rfl) ?_
          refine nx_then ?_
          refine wpc_ent (ent_set 65 (Value.bool (q[j] != x)) (Value.bool false) (by kernel_rfl) (congrArg _ (by simp only [bne_eq_false_iff_eq, beq_eq_false_iff_ne, ne_eq]; omega))) ?_
          refine wpc_false (by kernel_rfl) ?_
          refine wpc_skip ?_
          refine nx_block ?_
          refine nx_then ?_
          refine wpc_region [0, 1, 2] (by kernel_rfl) ?_
          refine wpr_run (l₂ := []) true [0, 1, 2] [] ([(8, Value.int IntKind.i64 ((↑j : Int) + 1)), (7, Value.int IntKind.i64 (↑(κ j) : Int)), (5, Value.pointer (some { block := g5, off := 0 })), (4, Value.int IntKind.i64 (↑i : Int)), (3, Value.pointer (some { block := g1, off := 0 })), (2, Value.bool false), (0, Value.slice (some { block := w1, off := o1 }) l.length cl)]) [ro (some { block := w1, off := o1 }) (List.flatMap askC l), ro (some { block := w2, off := o2 }) (ints q), ro (some { block := w3, off := o3 }) (ints q'), Ch.blk g5 24 [Value.int IntKind.i64 H', Value.slice (some { block := w3, off := o3 }) q'.length c1], Ch.blk g1 24 [Value.int IntKind.i64 H, Value.slice (some { block := w2, off := o2 }) q.length c]] ([inI64 ((↑j : Int) + (1 : Int))]) (by kernel_rfl) (by kernel_rfl) ⟨by unfold inI64; omega, trivial⟩ ?_
          refine wpr_nil ?_
          rw [← h2]
          exact fun a' w' hS' => ⟨⟨j + 1, by omega⟩, by dsimp only; omega, ent_fr (by kernel_rfl) _ _ (ent_hp [0, 0, 0, 0, 0] rfl _ _ hS')⟩
      · rcases κsj with ⟨h1, h2⟩ | ⟨h1, hx, h2⟩
        · exact absurd (List.getElem?_eq_some_iff.1 h1).1 hκ
        refine wpc_skip ?_
        refine nx_then ?_
        refine wpc_seq ?_
        refine wpc_block ?_
        refine wpc_seq ?_
        refine wpc_draw (by kernel_rfl) [ro (some { block := w1, off := o1 }) (List.flatMap askC l), ro (some { block := w2, off := o2 }) (ints q), ro a1 (ints q'), Ch.blk g5 24 [Value.int IntKind.i64 H', Value.slice a1 q'.length c1], Ch.blk g1 24 [Value.int IntKind.i64 H, Value.slice (some { block := w2, off := o2 }) q.length c]] (sub_of [0, 1, 2, 3, 4] (by kernel_rfl)) 18 (by kernel_rfl) ?_
        refine wpa_take true [(0, []), (1, []), (2, [3]), (3, []), (4, []), (5, [])] [(40, Value.bool (decide ((↑(κ j) : Int) < (↑q'.length : Int)))), (8, Value.int IntKind.i64 (↑j : Int)), (7, Value.int IntKind.i64 (↑(κ j) : Int)), (5, Value.pointer (some { block := g5, off := 0 })), (4, Value.int IntKind.i64 (↑i : Int)), (3, Value.pointer (some { block := g1, off := 0 })), (2, Value.bool false), (0, Value.slice (some { block := w1, off := o1 }) l.length cl)] (#[true, true, true, true, true, true, false, false, false, false, false, false, false, false, false, false, false, false]) [] (n := 12) (by kernel_rfl) (by kernel_rfl) (by kernel_rfl) trivial ?_
        refine wpa_ent (ent_set 40 (Value.bool (decide ((↑(κ j) : Int) < (↑q'.length : Int)))) (Value.bool false) (by kernel_rfl) (congrArg _ (decide_eq_false (by omega)))) ?_
        refine wpa_take true [(6, []), (7, []), (8, []), (9, []), (10, []), (11, []), (12, []), (13, []), (14, []), (15, []), (16, []), (17, [])] [(52, Value.bool false), (8, Value.int IntKind.i64 (↑j : Int)), (7, Value.int IntKind.i64 (↑(κ j) : Int)), (5, Value.pointer (some { block := g5, off := 0 })), (4, Value.int IntKind.i64 (↑i : Int)), (3, Value.pointer (some { block := g1, off := 0 })), (2, Value.bool false), (0, Value.slice (some { block := w1, off := o1 }) l.length cl)] (#[true, true, true, true, true, true, true, true, true, true, true, true, true, true, true, true, true, true]) [] (n := 0) (by kernel_rfl) (by kernel_rfl) (by kernel_rfl) trivial ?_
        refine wpa_done 0 (by kernel_rfl) ?_
        refine nx_then ?_
        refine wpc_false (by kernel_rfl) ?_
        refine wpc_seq ?_
        refine wpc_draw (by kernel_rfl) [ro (some { block := w1, off := o1 }) (List.flatMap askC l), ro (some { block := w2, off := o2 }) (ints q), ro a1 (ints q'), Ch.blk g5 24 [Value.int IntKind.i64 H', Value.slice a1 q'.length c1], Ch.blk g1 24 [Value.int IntKind.i64 H, Value.slice (some { block := w2, off := o2 }) q.length c]] (sub_of [0, 1, 2, 3, 4] (by kernel_rfl)) 11 (by kernel_rfl) ?_
        refine wpa_take true [(0, []), (1, [4]), (2, []), (3, []), (5, []), (6, []), (7, []), (8, [])] ([(63, Value.pointer (some { block := w1, off := o1 + i * 2 + 1 })), (58, Value.pointer (some { block := w2, off := o2 + j * 1 })), (8, Value.int IntKind.i64 (↑j : Int)), (7, Value.int IntKind.i64 (↑(κ j) : Int)), (5, Value.pointer (some { block := g5, off := 0 })), (4, Value.int IntKind.i64 (↑i : Int)), (3, Value.pointer (some { block := g1, off := 0 })), (2, Value.bool false), (0, Value.slice (some { block := w1, off := o1 }) l.length cl)]) (#[true, true, true, true, false, true, true, true, true, false, false]) [(0 : Int) ≤ (↑j : Int) ∧ (↑j : Int) < (↑q.length : Int), (0 : Int) ≤ (↑i : Int) ∧ (↑i : Int) < (↑l.length : Int)] (n := 3) (by kernel_rfl) (by kernel_rfl) (by kernel_rfl) ⟨by omega, by omega, trivial⟩ ?_
        refine wpa_qld (i := 4) (n := 2) (by kernel_rfl) (by kernel_rfl) (by kernel_rfl) (t := 3) (a := ({ block := w2, off := o2 + j * 1 })) (dst := some 59) (by kernel_rfl) false 1 (by kernel_rfl) (by simp) [.int .i64 q[j]] rfl (fun w h => ld_roL h 1 rfl (j * 1) (ints_at hjq)) ?_
        refine wpa_qld (i := 9) (n := 1) (by kernel_rfl) (by kernel_rfl) (by kernel_rfl) (t := 3) (a := ({ block := w1, off := o1 + i * 2 + 1 })) (dst := some 64) (by kernel_rfl) false 1 (by kernel_rfl) (by simp) [.int .i64 x] rfl (fun w h => ld_roL h 0 rfl (i * 2 + 1) hA1) ?_
        refine wpa_take true [(10, [])] [(65, Value.bool (q[j] != x)), (8, Value.int IntKind.i64 (↑j : Int)), (7, Value.int IntKind.i64 (↑(κ j) : Int)), (5, Value.pointer (some { block := g5, off := 0 })), (4, Value.int IntKind.i64 (↑i : Int)), (3, Value.pointer (some { block := g1, off := 0 })), (2, Value.bool false), (0, Value.slice (some { block := w1, off := o1 }) l.length cl)] (#[true, true, true, true, true, true, true, true, true, true, true]) [] (n := 0) (by kernel_rfl) (by kernel_rfl) (by kernel_rfl) trivial ?_
        refine wpa_done 0 (by kernel_rfl) ?_
        refine nx_then ?_
        refine wpc_ent (ent_set 65 (Value.bool (q[j] != x)) (Value.bool false) (by kernel_rfl) (congrArg _ (by simp only [bne_eq_false_iff_eq, beq_eq_false_iff_ne, ne_eq]; omega))) ?_
        refine wpc_false (by kernel_rfl) ?_
        refine wpc_skip ?_
        refine nx_block ?_
        refine nx_then ?_
        refine wpc_region [0, 1, 2] (by kernel_rfl) ?_
        refine wpr_run (l₂ := []) true [0, 1, 2] [] ([(8, Value.int IntKind.i64 ((↑j : Int) + 1)), (7, Value.int IntKind.i64 (↑(κ j) : Int)), (5, Value.pointer (some { block := g5, off := 0 })), (4, Value.int IntKind.i64 (↑i : Int)), (3, Value.pointer (some { block := g1, off := 0 })), (2, Value.bool false), (0, Value.slice (some { block := w1, off := o1 }) l.length cl)]) [ro (some { block := w1, off := o1 }) (List.flatMap askC l), ro (some { block := w2, off := o2 }) (ints q), ro a1 (ints q'), Ch.blk g5 24 [Value.int IntKind.i64 H', Value.slice a1 q'.length c1], Ch.blk g1 24 [Value.int IntKind.i64 H, Value.slice (some { block := w2, off := o2 }) q.length c]] ([inI64 ((↑j : Int) + (1 : Int))]) (by kernel_rfl) (by kernel_rfl) ⟨by unfold inI64; omega, trivial⟩ ?_
        refine wpr_nil ?_
        rw [← h2]
        exact fun a' w' hS' => ⟨⟨j + 1, by omega⟩, by dsimp only; omega, ent_fr (by kernel_rfl) _ _ (ent_hp [0, 0, 0, 0, 0] rfl _ _ hS')⟩
    have hjn : j = q.length := by omega
    rw [← hjn] at κn κx
    refine wpc_exit ?_
    refine nx_then_exit ?_
    refine nx_then_exit ?_
    refine nx_block_here ?_
    refine nx_then ?_
    refine wpc_seq ?_
    refine wpc_seq ?_
    refine wpc_draw (by kernel_rfl) [ro (some { block := w1, off := o1 }) (List.flatMap askC l), ro a (ints q), ro a1 (ints q'), Ch.blk g5 24 [Value.int IntKind.i64 H', Value.slice a1 q'.length c1], Ch.blk g1 24 [Value.int IntKind.i64 H, Value.slice a q.length c]] (sub_of [0, 1, 2, 3, 4] (by kernel_rfl)) 27 (by kernel_rfl) ?_
    refine wpa_take true [(0, []), (1, [3]), (2, []), (3, []), (4, []), (5, []), (6, [])] ([(72, Value.bool (decide ((↑q'.length : Int) > (↑(κ j) : Int) + 1))), (7, Value.int IntKind.i64 (↑(κ j) : Int)), (5, Value.pointer (some { block := g5, off := 0 })), (4, Value.int IntKind.i64 (↑i : Int)), (3, Value.pointer (some { block := g1, off := 0 })), (2, Value.bool false), (0, Value.slice (some { block := w1, off := o1 }) l.length cl)]) (#[true, true, true, true, true, true, true, false, false, false, false, false, false, false, false, false, false, false, false, false, false, false, false, false, false, false, false]) ([inI64 ((↑(κ j) : Int) + (1 : Int))]) (n := 20) (by kernel_rfl) (by kernel_rfl) (by kernel_rfl) ⟨by unfold inI64; omega, trivial⟩ ?_
    refine wpa_ent (ent_set 72 (Value.bool (decide ((↑q'.length : Int) > (↑(κ j) : Int) + 1))) (Value.bool false) (by kernel_rfl) (congrArg _ (decide_eq_false (by omega)))) ?_
    refine wpa_take true [(7, []), (8, [3]), (9, []), (10, []), (11, []), (12, []), (13, [])] ([(79, Value.bool ((↑q'.length : Int) == (↑(κ j) : Int) + 1)), (72, Value.bool false), (7, Value.int IntKind.i64 (↑(κ j) : Int)), (5, Value.pointer (some { block := g5, off := 0 })), (4, Value.int IntKind.i64 (↑i : Int)), (3, Value.pointer (some { block := g1, off := 0 })), (2, Value.bool false), (0, Value.slice (some { block := w1, off := o1 }) l.length cl)]) (#[true, true, true, true, true, true, true, true, true, true, true, true, true, true, false, false, false, false, false, false, false, false, false, false, false, false, false]) ([inI64 ((↑(κ j) : Int) + (1 : Int))]) (n := 13) (by kernel_rfl) (by kernel_rfl) (by kernel_rfl) ⟨by unfold inI64; omega, trivial⟩ ?_
    by_cases hlast : q'.length = κ j + 1
    · have κx := κx hlast
      obtain ⟨hκ, hκ2⟩ := List.getElem?_eq_some_iff.1 κx
      refine wpa_fact (fun w h => ro_addr h 2 rfl (by rw [ints_len]; omega)) ?_
      rintro ⟨w3, o3, rfl⟩
      refine wpa_ent (ent_set 79 (Value.bool ((↑q'.length : Int) == (↑(κ j) : Int) + 1)) (Value.bool true) (by kernel_rfl) (congrArg _ (by simp only [bne_iff_ne, beq_iff_eq, ne_eq]; omega))) ?_
      refine wpa_take true [(14, []), (15, [3]), (16, []), (17, []), (19, []), (20, []), (21, []), (22, [])] ([(88, Value.pointer (some { block := w1, off := o1 + i * 2 + 1 })), (83, Value.pointer (some { block := w3, off := o3 + κ j * 1 })), (79, Value.bool true), (72, Value.bool false), (5, Value.pointer (some { block := g5, off := 0 })), (4, Value.int IntKind.i64 (↑i : Int)), (3, Value.pointer (some { block := g1, off := 0 })), (2, Value.bool false), (0, Value.slice (some { block := w1, off := o1 }) l.length cl)]) (#[true, true, true, true, true, true, true, true, true, true, true, true, true, true, true, true, true, true, false, true, true, true, true, false, false, false, false]) [(0 : Int) ≤ (↑(κ j) : Int) ∧ (↑(κ j) : Int) < (↑q'.length : Int), (0 : Int) ≤ (↑i : Int) ∧ (↑i : Int) < (↑l.length : Int)] (n := 5) (by kernel_rfl) (by kernel_rfl) (by kernel_rfl) ⟨by omega, by omega, trivial⟩ ?_
      refine wpa_qld (i := 18) (n := 4) (by kernel_rfl) (by kernel_rfl) (by kernel_rfl) (t := 3) (a := ({ block := w3, off := o3 + κ j * 1 })) (dst := some 84) (by kernel_rfl) false 1 (by kernel_rfl) (by simp) [.int .i64 q'[κ j]] rfl (fun w h => ld_roL h 2 rfl (κ j * 1) (ints_at hκ)) ?_
      refine wpa_qld (i := 23) (n := 3) (by kernel_rfl) (by kernel_rfl) (by kernel_rfl) (t := 3) (a := ({ block := w1, off := o1 + i * 2 + 1 })) (dst := some 89) (by kernel_rfl) false 1 (by kernel_rfl) (by simp) [.int .i64 x] rfl (fun w h => ld_roL h 0 rfl (i * 2 + 1) hA1) ?_
      refine wpa_take true [(24, []), (25, []), (26, [])] [(92, Value.bool (q'[κ j] != x)), (5, Value.pointer (some { block := g5, off := 0 })), (4, Value.int IntKind.i64 (↑i : Int)), (3, Value.pointer (some { block := g1, off := 0 })), (2, Value.bool false), (0, Value.slice (some { block := w1, off := o1 }) l.length cl)] (#[true, true, true, true, true, true, true, true, true, true, true, true, true, true, true, true, true, true, true, true, true, true, true, true, true, true, true]) [] (n := 0) (by kernel_rfl) (by kernel_rfl) (by kernel_rfl) trivial ?_
      refine wpa_done 0 (by kernel_rfl) ?_
      refine nx_then ?_
      refine wpc_ent (ent_set 92 (Value.bool (q'[κ j] != x)) (Value.bool false) (by kernel_rfl) (congrArg _ (by simp only [bne_eq_false_iff_eq, beq_eq_false_iff_ne, ne_eq]; omega))) ?_
      refine wpc_false (by kernel_rfl) ?_
      refine wpc_skip ?_
      refine nx_then ?_
      refine wpc_region [0, 1] (by kernel_rfl) ?_
      refine wpr_run (l₂ := []) true [0, 1] [3, 3, 4, 4] [(4, Value.int IntKind.i64 (↑i : Int)), (3, Value.pointer (some { block := g1, off := 0 })), (2, Value.bool false), (0, Value.slice (some { block := w1, off := o1 }) l.length cl)] [ro (some { block := w1, off := o1 }) (List.flatMap askC l), ro a (ints q), ro (some { block := w3, off := o3 }) (ints q'), Ch.blk g5 24 [Value.int IntKind.i64 H', Value.slice (some { block := w3, off := o3 }) q'.length c1], Ch.blk g1 24 [Value.int IntKind.i64 H', Value.slice (some { block := w3, off := o3 }) q'.length c1]] [] (by kernel_rfl) (by kernel_rfl) trivial ?_
      refine wpr_nil ?_
      refine nx_block ?_
      refine nx_then ?_
      refine wpc_region [0, 1, 2] (by kernel_rfl) ?_
      refine wpr_run (l₂ := []) true [0, 1, 2] [] ([(4, Value.int IntKind.i64 ((↑i : Int) + 1)), (3, Value.pointer (some { block := g1, off := 0 })), (2, Value.bool false), (0, Value.slice (some { block := w1, off := o1 }) l.length cl)]) [ro (some { block := w1, off := o1 }) (List.flatMap askC l), ro a (ints q), ro (some { block := w3, off := o3 }) (ints q'), Ch.blk g5 24 [Value.int IntKind.i64 H', Value.slice (some { block := w3, off := o3 }) q'.length c1], Ch.blk g1 24 [Value.int IntKind.i64 H', Value.slice (some { block := w3, off := o3 }) q'.length c1]] ([inI64 ((↑i : Int) + (1 : Int))]) (by kernel_rfl) (by kernel_rfl) ⟨by unfold inI64; omega, trivial⟩ ?_
      refine wpr_nil ?_
      exact fun a' w' hS' => ⟨⟨i + 1, H', q', (some ⟨w3, o3, none⟩), c1, by omega, ok', hf2⟩, by dsimp only; omega, ent_fr (by kernel_rfl) _ _ (ent_hp [0, 1, 2] rfl _ _ hS')⟩
    · have hgt : ¬ ((q'.length : Int) > (κ j : Int) + 1) := by omega
      refine wpa_ent (ent_set 79 (Value.bool ((↑q'.length : Int) == (↑(κ j) : Int) + 1)) (Value.bool false) (by kernel_rfl) (congrArg _ (by simp only [bne_eq_false_iff_eq, beq_eq_false_iff_ne, ne_eq]; omega))) ?_
      refine wpa_take true [(14, []), (15, []), (16, []), (17, []), (18, []), (19, []), (20, []), (21, []), (22, []), (23, []), (24, []), (25, []), (26, [])] [(92, Value.bool false), (5, Value.pointer (some { block := g5, off := 0 })), (4, Value.int IntKind.i64 (↑i : Int)), (3, Value.pointer (some { block := g1, off := 0 })), (2, Value.bool false), (0, Value.slice (some { block := w1, off := o1 }) l.length cl)] (#[true, true, true, true, true, true, true, true, true, true, true, true, true, true, true, true, true, true, true, true, true, true, true, true, true, true, true]) [] (n := 0) (by kernel_rfl) (by kernel_rfl) (by kernel_rfl) trivial ?_
      refine wpa_done 0 (by kernel_rfl) ?_
      refine nx_then ?_
      refine wpc_false (by kernel_rfl) ?_
      refine wpc_skip ?_
      refine nx_then ?_
      refine wpc_region [0, 1] (by kernel_rfl) ?_
      refine wpr_run (l₂ := []) true [0, 1] [3, 3, 4, 4] [(4, Value.int IntKind.i64 (↑i : Int)), (3, Value.pointer (some { block := g1, off := 0 })), (2, Value.bool false), (0, Value.slice (some { block := w1, off := o1 }) l.length cl)] [ro (some { block := w1, off := o1 }) (List.flatMap askC l), ro a (ints q), ro a1 (ints q'), Ch.blk g5 24 [Value.int IntKind.i64 H', Value.slice a1 q'.length c1], Ch.blk g1 24 [Value.int IntKind.i64 H', Value.slice a1 q'.length c1]] [] (by kernel_rfl) (by kernel_rfl) trivial ?_
      refine wpr_nil ?_
      refine nx_block ?_
      refine nx_then ?_
      refine wpc_region [0, 1, 2] (by kernel_rfl) ?_
      refine wpr_run (l₂ := []) true [0, 1, 2] [] ([(4, Value.int IntKind.i64 ((↑i : Int) + 1)), (3, Value.pointer (some { block := g1, off := 0 })), (2, Value.bool false), (0, Value.slice (some { block := w1, off := o1 }) l.length cl)]) [ro (some { block := w1, off := o1 }) (List.flatMap askC l), ro a (ints q), ro a1 (ints q'), Ch.blk g5 24 [Value.int IntKind.i64 H', Value.slice a1 q'.length c1], Ch.blk g1 24 [Value.int IntKind.i64 H', Value.slice a1 q'.length c1]] ([inI64 ((↑i : Int) + (1 : Int))]) (by kernel_rfl) (by kernel_rfl) ⟨by unfold inI64; omega, trivial⟩ ?_
      refine wpr_nil ?_
      exact fun a' w' hS' => ⟨⟨i + 1, H', q', a1, c1, by omega, ok', hf2⟩, by dsimp only; omega, ent_fr (by kernel_rfl) _ _ (ent_hp [0, 1, 2] rfl _ _ hS')⟩
  refine wpc_exit ?_
  refine nx_then_exit ?_
  refine nx_then_exit ?_
  refine nx_block_here ?_
  refine nx_then ?_
  refine wpc_seq ?_
  refine wpc_region [0, 1] (by kernel_rfl) ?_
  refine wpr_call (dst := some 94) (rest := [ro al (List.flatMap askC l), ro a (ints q), Ch.blk g1 24 [Value.int IntKind.i64 H, Value.slice a q.length c]]) (by kernel_rfl) (lives_spec) (give [] (by kernel_rfl)) ?_
  rintro v hp' ⟨rfl, rfl⟩
  refine wpr_run (l₂ := []) true [1] [] [(2, Value.bool true)] [ro al (List.flatMap askC l), ro a (ints q), Ch.blk g1 24 [Value.int IntKind.i64 H, Value.slice a q.length c]] [] (by kernel_rfl) (by kernel_rfl) trivial ?_
  refine wpr_nil ?_
  refine nx_then ?_
  refine wpc_ret ?_
  refine nx_end (hp' := []) (rest := [ro al (List.flatMap askC l), ro a (ints q), Ch.blk g1 24 [Value.int IntKind.i64 H, Value.slice a q.length c]]) [] ((Value.bool true)) (by kernel_rfl) (by kernel_rfl) (give [] (by kernel_rfl)) (by first | ((repeat (first | exact trivial | refine ⟨trivial, ?_⟩)); done) | assumption) ?_ (.inr rfl)
  exact ⟨rfl, rfl⟩
end Go.Proofs.Ytoagfnobfbfdfaa
