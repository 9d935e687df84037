import Derived.Test.YtoagfnobfbfdfaaF8
import Derived.Test.YtoagfnobfbfdfaaX13
namespace Go.Proofs.Ytoagfnobfbfdfaa
open Go Go.Sx
set_option linter.unusedVariables false
set_option linter.unusedSimpArgs false

/-- A call of the five: its answer. -/
def askF (k : Int) (H : Int) (l : List Int) (x : Int) : Int × Int × List Int :=
  if k = 1 then grant H l x else if k = 2 then revoke H l else if k = 3 then release H l x else if k = 4 then leave H l x else req H l x
/-- The floor then: as it was, with an error. -/
def askN (k : Int) (H : Int) (l : List Int) (x : Int) : Int × List Int := if (askF k H l x).1 ≠ 0 then (H, l) else (askF k H l x).2

theorem lask_spec (H : Int) (a : Option Addr) (c : Nat) (l : List Int) (k x : Int) (hl : l.length ≤ 1048576) :
    Does Try.prog 22 [fl H a l.length c, .agg #[.int .i64 k, .int .i64 x]] [row 3 1 a l.length c (ints l)]
      (fun r hp' => ∃ a' c', r = .tuple #[fl (askN k H l x).1 a' (askN k H l x).2.length c', .int .i64 (askF k H l x).1] ∧ hp' = [row 3 1 a' (askN k H l x).2.length c' (ints (askN k H l x).2)]) := by
  refine does_fact (fun w h => row_facts h 0 rfl rfl) fun hf => ?_
  unfold fl
  refine fn_enter Try.func22 rfl 58 rfl fun w0 h0 => ?_
  refine wpc_seq ?_
  refine wpc_region [0, 1, 2, 3] (by kernel_rfl) ?_
  refine wpr_new (l₂ := [1, 2, 3]) true [0] [] (fun g1 => [(2, Value.pointer (some { block := g1, off := 0 })), (1, Value.agg #[Value.int IntKind.i64 k, Value.int IntKind.i64 x])]) (fun g1 => [row 3 1 a l.length c (ints l), Ch.blk g1 24 [Value.int IntKind.i64 H, Value.slice a l.length c]]) (fun g1 => []) (fun g1 => by kernel_rfl) (fun g1 => by kernel_rfl) (fun g1 => trivial) fun g1 => ?_
  refine wpr_new (l₂ := [2, 3]) true [1] [] (fun g2 => [(3, Value.pointer (some { block := g2, off := 0 })), (2, Value.pointer (some { block := g1, off := 0 }))]) (fun g2 => [row 3 1 a l.length c (ints l), Ch.blk g1 24 [Value.int IntKind.i64 H, Value.slice a l.length c], Ch.blk g2 41 [Value.int IntKind.i64 k, Value.int IntKind.i64 x]]) (fun g2 => []) (fun g2 => by kernel_rfl) (fun g2 => by kernel_rfl) (fun g2 => trivial) fun g2 => ?_
  refine wpr_new (l₂ := [3]) true [2] [] (fun g3 => [(4, Value.pointer (some { block := g3, off := 0 })), (3, Value.pointer (some { block := g2, off := 0 })), (2, Value.pointer (some { block := g1, off := 0 }))]) (fun g3 => [row 3 1 a l.length c (ints l), Ch.blk g1 24 [Value.int IntKind.i64 H, Value.slice a l.length c], Ch.blk g2 41 [Value.int IntKind.i64 k, Value.int IntKind.i64 x], Ch.blk g3 24 [Value.int IntKind.i64 0, Value.slice none 0 0]]) (fun g3 => []) (fun g3 => by kernel_rfl) (fun g3 => by kernel_rfl) (fun g3 => trivial) fun g3 => ?_
  refine wpr_run (l₂ := []) true [3] [] [(5, Value.int IntKind.i64 0), (4, Value.pointer (some { block := g3, off := 0 })), (3, Value.pointer (some { block := g2, off := 0 })), (2, Value.pointer (some { block := g1, off := 0 }))] [row 3 1 a l.length c (ints l), Ch.blk g1 24 [Value.int IntKind.i64 H, Value.slice a l.length c], Ch.blk g2 41 [Value.int IntKind.i64 k, Value.int IntKind.i64 x], Ch.blk g3 24 [Value.int IntKind.i64 0, Value.slice none 0 0]] [] (by kernel_rfl) (by kernel_rfl) trivial ?_
  refine wpr_nil ?_
  refine nx_then ?_
  refine wpc_seq ?_
  refine wpc_region [0, 1, 2, 3] (by kernel_rfl) ?_
  refine wpr_new (l₂ := [2, 3]) true [0, 1] [1, 1] (fun g4 => [(6, Value.pointer (some { block := g4, off := 0 })), (8, Value.agg #[Value.int IntKind.i64 H, Value.slice a l.length c]), (5, Value.int IntKind.i64 0), (4, Value.pointer (some { block := g3, off := 0 })), (3, Value.pointer (some { block := g2, off := 0 })), (2, Value.pointer (some { block := g1, off := 0 }))]) (fun g4 => [row 3 1 a l.length c (ints l), Ch.blk g1 24 [Value.int IntKind.i64 H, Value.slice a l.length c], Ch.blk g2 41 [Value.int IntKind.i64 k, Value.int IntKind.i64 x], Ch.blk g3 24 [Value.int IntKind.i64 0, Value.slice none 0 0], Ch.blk g4 24 [Value.int IntKind.i64 0, Value.slice none 0 0]]) (fun g4 => []) (fun g4 => by kernel_rfl) (fun g4 => by kernel_rfl) (fun g4 => trivial) fun g4 => ?_
  refine wpr_run (l₂ := []) true [2, 3] [4, 4] [(7, Value.int IntKind.i64 0), (6, Value.pointer (some { block := g4, off := 0 })), (5, Value.int IntKind.i64 0), (4, Value.pointer (some { block := g3, off := 0 })), (3, Value.pointer (some { block := g2, off := 0 })), (2, Value.pointer (some { block := g1, off := 0 }))] [row 3 1 a l.length c (ints l), Ch.blk g1 24 [Value.int IntKind.i64 H, Value.slice a l.length c], Ch.blk g2 41 [Value.int IntKind.i64 k, Value.int IntKind.i64 x], Ch.blk g3 24 [Value.int IntKind.i64 0, Value.slice none 0 0], Ch.blk g4 24 [Value.int IntKind.i64 H, Value.slice a l.length c]] [] (by kernel_rfl) (by kernel_rfl) trivial ?_
  refine wpr_nil ?_
  refine nx_then ?_
  refine wpc_seq ?_
  refine wpc_seq ?_
  refine wpc_region [0, 1] (by kernel_rfl) ?_
  refine wpr_run (l₂ := []) true [0, 1] [2] [(10, Value.int IntKind.i64 k), (7, Value.int IntKind.i64 0), (6, Value.pointer (some { block := g4, off := 0 })), (5, Value.int IntKind.i64 0), (4, Value.pointer (some { block := g3, off := 0 })), (3, Value.pointer (some { block := g2, off := 0 })), (2, Value.pointer (some { block := g1, off := 0 }))] [row 3 1 a l.length c (ints l), Ch.blk g1 24 [Value.int IntKind.i64 H, Value.slice a l.length c], Ch.blk g2 41 [Value.int IntKind.i64 k, Value.int IntKind.i64 x], Ch.blk g3 24 [Value.int IntKind.i64 0, Value.slice none 0 0], Ch.blk g4 24 [Value.int IntKind.i64 H, Value.slice a l.length c]] [] (by kernel_rfl) (by kernel_rfl) trivial ?_
  refine wpr_nil ?_
  refine nx_then ?_
  refine wpc_block ?_
  refine wpc_seq ?_
  refine wpc_region [0, 1] (by kernel_rfl) ?_
  refine wpr_run (l₂ := []) true [0, 1] [] [(18, Value.bool (k == 1)), (10, Value.int IntKind.i64 k), (7, Value.int IntKind.i64 0), (6, Value.pointer (some { block := g4, off := 0 })), (5, Value.int IntKind.i64 0), (4, Value.pointer (some { block := g3, off := 0 })), (3, Value.pointer (some { block := g2, off := 0 })), (2, Value.pointer (some { block := g1, off := 0 }))] [row 3 1 a l.length c (ints l), Ch.blk g1 24 [Value.int IntKind.i64 H, Value.slice a l.length c], Ch.blk g2 41 [Value.int IntKind.i64 k, Value.int IntKind.i64 x], Ch.blk g3 24 [Value.int IntKind.i64 0, Value.slice none 0 0], Ch.blk g4 24 [Value.int IntKind.i64 H, Value.slice a l.length c]] [] (by kernel_rfl) (by kernel_rfl) trivial ?_
  refine wpr_nil ?_
  refine nx_then ?_
  refine wpc_joinx (X := Option Addr × Nat) (fun y => St.mk [(7, .int .i64 (askF k H l x).1), (6, .pointer (some ⟨g4, 0, none⟩)), (5, .int .i64 0), (4, .pointer (some ⟨g3, 0, none⟩)), (2, .pointer (some ⟨g1, 0, none⟩))]
    [row 3 1 a l.length c (ints l), row 3 1 y.1 (askF k H l x).2.2.length y.2 (ints (askF k H l x).2.2), .blk g1 24 [.int .i64 H, .slice a l.length c], .blk g3 24 [.int .i64 0, .slice none 0 0], .blk g4 24 [.int .i64 (askF k H l x).2.1, .slice y.1 (askF k H l x).2.2.length y.2]]) (fun Q1 hQ1 hk => ?_) ?_
  refine wpc_cond ((k == 1)) (by kernel_rfl) (fun k1 => ?_) (fun k1 => ?_)
  · have hk1 : k = 1 := eq_of_beq k1
    have hE : askF k H l x = grant H l x := by rw [hk1]; rfl
    rw [hE] at hk
    refine wpc_region [0, 1, 2, 3, 4, 5, 6, 7, 8] (by kernel_rfl) ?_
    refine wpr_run (l₂ := [3, 4, 5, 6, 7, 8]) true [0, 1, 2] [1, 1, 2] [(23, Value.int IntKind.i64 x), (21, Value.agg #[Value.int IntKind.i64 H, Value.slice a l.length c]), (7, Value.int IntKind.i64 0), (6, Value.pointer (some { block := g4, off := 0 })), (5, Value.int IntKind.i64 0), (4, Value.pointer (some { block := g3, off := 0 })), (2, Value.pointer (some { block := g1, off := 0 }))] [row 3 1 a l.length c (ints l), Ch.blk g1 24 [Value.int IntKind.i64 H, Value.slice a l.length c], Ch.blk g2 41 [Value.int IntKind.i64 k, Value.int IntKind.i64 x], Ch.blk g3 24 [Value.int IntKind.i64 0, Value.slice none 0 0], Ch.blk g4 24 [Value.int IntKind.i64 H, Value.slice a l.length c]] [] (by kernel_rfl) (by kernel_rfl) trivial ?_
    refine wpr_call (dst := some 24) (rest := [row 3 1 a l.length c (ints l), Ch.blk g1 24 [Value.int IntKind.i64 H, Value.slice a l.length c], Ch.blk g2 41 [Value.int IntKind.i64 k, Value.int IntKind.i64 x], Ch.blk g3 24 [Value.int IntKind.i64 0, Value.slice none 0 0], Ch.blk g4 24 [Value.int IntKind.i64 H, Value.slice a l.length c]]) (by kernel_rfl) (Grant_spec H a c l x hf.1 (by omega) hf.2) (Give.view (c := (row 3 1 a l.length c (ints l))) (give (pre := []) (rest := [row 3 1 a l.length c (ints l), Ch.blk g1 24 [Value.int IntKind.i64 H, Value.slice a l.length c], Ch.blk g2 41 [Value.int IntKind.i64 k, Value.int IntKind.i64 x], Ch.blk g3 24 [Value.int IntKind.i64 0, Value.slice none 0 0], Ch.blk g4 24 [Value.int IntKind.i64 H, Value.slice a l.length c]]) [] (by kernel_rfl)) 0 (by kernel_rfl) view_row) ?_
    rintro v hp' ⟨a1, c1, rfl, rfl⟩
    unfold fl
    refine wpr_run (l₂ := []) true [4, 5, 6, 7, 8] [5, 5] [(7, Value.int IntKind.i64 (grant H l x).fst), (6, Value.pointer (some { block := g4, off := 0 })), (5, Value.int IntKind.i64 0), (4, Value.pointer (some { block := g3, off := 0 })), (2, Value.pointer (some { block := g1, off := 0 }))] [row 3 1 a1 (grant H l x).snd.snd.length c1 (ints (grant H l x).snd.snd), row 3 1 a l.length c (ints l), Ch.blk g1 24 [Value.int IntKind.i64 H, Value.slice a l.length c], Ch.blk g2 41 [Value.int IntKind.i64 k, Value.int IntKind.i64 x], Ch.blk g3 24 [Value.int IntKind.i64 0, Value.slice none 0 0], Ch.blk g4 24 [Value.int IntKind.i64 (grant H l x).snd.fst, Value.slice a1 (grant H l x).snd.snd.length c1]] [] (by kernel_rfl) (by kernel_rfl) trivial ?_
    refine wpr_nil ?_
    exact nx_ent (ent_hp [1, 0, 0, 1, 1] rfl) (nx_ent (ent_fr (by kernel_rfl)) (hk (a1, c1)))
  have hn1 : k ≠ 1 := fun e => by rw [e] at k1; simp at k1
  refine wpc_seq ?_
  refine wpc_region [0, 1] (by kernel_rfl) ?_
  refine wpr_run (l₂ := []) true [0, 1] [] [(27, Value.bool (k == 2)), (10, Value.int IntKind.i64 k), (7, Value.int IntKind.i64 0), (6, Value.pointer (some { block := g4, off := 0 })), (5, Value.int IntKind.i64 0), (4, Value.pointer (some { block := g3, off := 0 })), (3, Value.pointer (some { block := g2, off := 0 })), (2, Value.pointer (some { block := g1, off := 0 }))] [row 3 1 a l.length c (ints l), Ch.blk g1 24 [Value.int IntKind.i64 H, Value.slice a l.length c], Ch.blk g2 41 [Value.int IntKind.i64 k, Value.int IntKind.i64 x], Ch.blk g3 24 [Value.int IntKind.i64 0, Value.slice none 0 0], Ch.blk g4 24 [Value.int IntKind.i64 H, Value.slice a l.length c]] [] (by kernel_rfl) (by kernel_rfl) trivial ?_
  refine wpr_nil ?_
  refine nx_then ?_
  refine wpc_cond ((k == 2)) (by kernel_rfl) (fun k2 => ?_) (fun k2 => ?_)
  · have hk2 : k = 2 := eq_of_beq k2
    have hE : askF k H l x = revoke H l := by rw [hk2]; rfl
    rw [hE] at hk
    refine wpc_region [0, 1, 2, 3, 4, 5, 6] (by kernel_rfl) ?_
    refine wpr_run (l₂ := [1, 2, 3, 4, 5, 6]) true [0] [1, 1] [(30, Value.agg #[Value.int IntKind.i64 H, Value.slice a l.length c]), (7, Value.int IntKind.i64 0), (6, Value.pointer (some { block := g4, off := 0 })), (5, Value.int IntKind.i64 0), (4, Value.pointer (some { block := g3, off := 0 })), (2, Value.pointer (some { block := g1, off := 0 }))] [row 3 1 a l.length c (ints l), Ch.blk g1 24 [Value.int IntKind.i64 H, Value.slice a l.length c], Ch.blk g2 41 [Value.int IntKind.i64 k, Value.int IntKind.i64 x], Ch.blk g3 24 [Value.int IntKind.i64 0, Value.slice none 0 0], Ch.blk g4 24 [Value.int IntKind.i64 H, Value.slice a l.length c]] [] (by kernel_rfl) (by kernel_rfl) trivial ?_
    refine wpr_call (dst := some 31) (rest := [row 3 1 a l.length c (ints l), Ch.blk g1 24 [Value.int IntKind.i64 H, Value.slice a l.length c], Ch.blk g2 41 [Value.int IntKind.i64 k, Value.int IntKind.i64 x], Ch.blk g3 24 [Value.int IntKind.i64 0, Value.slice none 0 0], Ch.blk g4 24 [Value.int IntKind.i64 H, Value.slice a l.length c]]) (by kernel_rfl) (Revoke_spec H a c l hf.1 (by omega) hf.2) (Give.view (c := (row 3 1 a l.length c (ints l))) (give (pre := []) (rest := [row 3 1 a l.length c (ints l), Ch.blk g1 24 [Value.int IntKind.i64 H, Value.slice a l.length c], Ch.blk g2 41 [Value.int IntKind.i64 k, Value.int IntKind.i64 x], Ch.blk g3 24 [Value.int IntKind.i64 0, Value.slice none 0 0], Ch.blk g4 24 [Value.int IntKind.i64 H, Value.slice a l.length c]]) [] (by kernel_rfl)) 0 (by kernel_rfl) view_row) ?_
    rintro v hp' ⟨a1, c1, rfl, rfl⟩
    unfold fl
    refine wpr_run (l₂ := []) true [2, 3, 4, 5, 6] [5, 5] [(7, Value.int IntKind.i64 (revoke H l).fst), (6, Value.pointer (some { block := g4, off := 0 })), (5, Value.int IntKind.i64 0), (4, Value.pointer (some { block := g3, off := 0 })), (2, Value.pointer (some { block := g1, off := 0 }))] [row 3 1 a1 (revoke H l).snd.snd.length c1 (ints (revoke H l).snd.snd), row 3 1 a l.length c (ints l), Ch.blk g1 24 [Value.int IntKind.i64 H, Value.slice a l.length c], Ch.blk g2 41 [Value.int IntKind.i64 k, Value.int IntKind.i64 x], Ch.blk g3 24 [Value.int IntKind.i64 0, Value.slice none 0 0], Ch.blk g4 24 [Value.int IntKind.i64 (revoke H l).snd.fst, Value.slice a1 (revoke H l).snd.snd.length c1]] [] (by kernel_rfl) (by kernel_rfl) trivial ?_
    refine wpr_nil ?_
    exact nx_ent (ent_hp [1, 0, 0, 1, 1] rfl) (nx_ent (ent_fr (by kernel_rfl)) (hk (a1, c1)))
  have hn2 : k ≠ 2 := fun e => by rw [e] at k2; simp at k2
  refine wpc_seq ?_
  refine wpc_region [0, 1] (by kernel_rfl) ?_
  refine wpr_run (l₂ := []) true [0, 1] [] [(34, Value.bool (k == 3)), (10, Value.int IntKind.i64 k), (7, Value.int IntKind.i64 0), (6, Value.pointer (some { block := g4, off := 0 })), (5, Value.int IntKind.i64 0), (4, Value.pointer (some { block := g3, off := 0 })), (3, Value.pointer (some { block := g2, off := 0 })), (2, Value.pointer (some { block := g1, off := 0 }))] [row 3 1 a l.length c (ints l), Ch.blk g1 24 [Value.int IntKind.i64 H, Value.slice a l.length c], Ch.blk g2 41 [Value.int IntKind.i64 k, Value.int IntKind.i64 x], Ch.blk g3 24 [Value.int IntKind.i64 0, Value.slice none 0 0], Ch.blk g4 24 [Value.int IntKind.i64 H, Value.slice a l.length c]] [] (by kernel_rfl) (by kernel_rfl) trivial ?_
  refine wpr_nil ?_
  refine nx_then ?_
  refine wpc_cond ((k == 3)) (by kernel_rfl) (fun k3 => ?_) (fun k3 => ?_)
  · have hk3 : k = 3 := eq_of_beq k3
    have hE : askF k H l x = release H l x := by rw [hk3]; rfl
    rw [hE] at hk
    refine wpc_region [0, 1, 2, 3, 4, 5, 6, 7, 8] (by kernel_rfl) ?_
    refine wpr_run (l₂ := [3, 4, 5, 6, 7, 8]) true [0, 1, 2] [1, 1, 2] [(39, Value.int IntKind.i64 x), (37, Value.agg #[Value.int IntKind.i64 H, Value.slice a l.length c]), (7, Value.int IntKind.i64 0), (6, Value.pointer (some { block := g4, off := 0 })), (5, Value.int IntKind.i64 0), (4, Value.pointer (some { block := g3, off := 0 })), (2, Value.pointer (some { block := g1, off := 0 }))] [row 3 1 a l.length c (ints l), Ch.blk g1 24 [Value.int IntKind.i64 H, Value.slice a l.length c], Ch.blk g2 41 [Value.int IntKind.i64 k, Value.int IntKind.i64 x], Ch.blk g3 24 [Value.int IntKind.i64 0, Value.slice none 0 0], Ch.blk g4 24 [Value.int IntKind.i64 H, Value.slice a l.length c]] [] (by kernel_rfl) (by kernel_rfl) trivial ?_
    refine wpr_call (dst := some 40) (rest := [row 3 1 a l.length c (ints l), Ch.blk g1 24 [Value.int IntKind.i64 H, Value.slice a l.length c], Ch.blk g2 41 [Value.int IntKind.i64 k, Value.int IntKind.i64 x], Ch.blk g3 24 [Value.int IntKind.i64 0, Value.slice none 0 0], Ch.blk g4 24 [Value.int IntKind.i64 H, Value.slice a l.length c]]) (by kernel_rfl) (Release_spec H a c l x hf.1 (by omega) hf.2) (Give.view (c := (row 3 1 a l.length c (ints l))) (give (pre := []) (rest := [row 3 1 a l.length c (ints l), Ch.blk g1 24 [Value.int IntKind.i64 H, Value.slice a l.length c], Ch.blk g2 41 [Value.int IntKind.i64 k, Value.int IntKind.i64 x], Ch.blk g3 24 [Value.int IntKind.i64 0, Value.slice none 0 0], Ch.blk g4 24 [Value.int IntKind.i64 H, Value.slice a l.length c]]) [] (by kernel_rfl)) 0 (by kernel_rfl) view_row) ?_
    rintro v hp' ⟨a1, c1, rfl, rfl⟩
    unfold fl
    refine wpr_run (l₂ := []) true [4, 5, 6, 7, 8] [5, 5] [(7, Value.int IntKind.i64 (release H l x).fst), (6, Value.pointer (some { block := g4, off := 0 })), (5, Value.int IntKind.i64 0), (4, Value.pointer (some { block := g3, off := 0 })), (2, Value.pointer (some { block := g1, off := 0 }))] [row 3 1 a1 (release H l x).snd.snd.length c1 (ints (release H l x).snd.snd), row 3 1 a l.length c (ints l), Ch.blk g1 24 [Value.int IntKind.i64 H, Value.slice a l.length c], Ch.blk g2 41 [Value.int IntKind.i64 k, Value.int IntKind.i64 x], Ch.blk g3 24 [Value.int IntKind.i64 0, Value.slice none 0 0], Ch.blk g4 24 [Value.int IntKind.i64 (release H l x).snd.fst, Value.slice a1 (release H l x).snd.snd.length c1]] [] (by kernel_rfl) (by kernel_rfl) trivial ?_
    refine wpr_nil ?_
    exact nx_ent (ent_hp [1, 0, 0, 1, 1] rfl) (nx_ent (ent_fr (by kernel_rfl)) (hk (a1, c1)))
  have hn3 : k ≠ 3 := fun e => by rw [e] at k3; simp at k3
  refine wpc_seq ?_
  refine wpc_region [0, 1] (by kernel_rfl) ?_
  refine wpr_run (l₂ := []) true [0, 1] [] [(43, Value.bool (k == 4)), (7, Value.int IntKind.i64 0), (6, Value.pointer (some { block := g4, off := 0 })), (5, Value.int IntKind.i64 0), (4, Value.pointer (some { block := g3, off := 0 })), (3, Value.pointer (some { block := g2, off := 0 })), (2, Value.pointer (some { block := g1, off := 0 }))] [row 3 1 a l.length c (ints l), Ch.blk g1 24 [Value.int IntKind.i64 H, Value.slice a l.length c], Ch.blk g2 41 [Value.int IntKind.i64 k, Value.int IntKind.i64 x], Ch.blk g3 24 [Value.int IntKind.i64 0, Value.slice none 0 0], Ch.blk g4 24 [Value.int IntKind.i64 H, Value.slice a l.length c]] [] (by kernel_rfl) (by kernel_rfl) trivial ?_
  refine wpr_nil ?_
  refine nx_then ?_
  refine wpc_cond ((k == 4)) (by kernel_rfl) (fun k4 => ?_) (fun k4 => ?_)
  · have hk4 : k = 4 := eq_of_beq k4
    have hE : askF k H l x = leave H l x := by rw [hk4]; rfl
    rw [hE] at hk
    refine wpc_region [0, 1, 2, 3, 4, 5, 6, 7, 8] (by kernel_rfl) ?_
    refine wpr_run (l₂ := [3, 4, 5, 6, 7, 8]) true [0, 1, 2] [1, 1, 2] [(48, Value.int IntKind.i64 x), (46, Value.agg #[Value.int IntKind.i64 H, Value.slice a l.length c]), (7, Value.int IntKind.i64 0), (6, Value.pointer (some { block := g4, off := 0 })), (5, Value.int IntKind.i64 0), (4, Value.pointer (some { block := g3, off := 0 })), (2, Value.pointer (some { block := g1, off := 0 }))] [row 3 1 a l.length c (ints l), Ch.blk g1 24 [Value.int IntKind.i64 H, Value.slice a l.length c], Ch.blk g2 41 [Value.int IntKind.i64 k, Value.int IntKind.i64 x], Ch.blk g3 24 [Value.int IntKind.i64 0, Value.slice none 0 0], Ch.blk g4 24 [Value.int IntKind.i64 H, Value.slice a l.length c]] [] (by kernel_rfl) (by kernel_rfl) trivial ?_
    refine wpr_call (dst := some 49) (rest := [row 3 1 a l.length c (ints l), Ch.blk g1 24 [Value.int IntKind.i64 H, Value.slice a l.length c], Ch.blk g2 41 [Value.int IntKind.i64 k, Value.int IntKind.i64 x], Ch.blk g3 24 [Value.int IntKind.i64 0, Value.slice none 0 0], Ch.blk g4 24 [Value.int IntKind.i64 H, Value.slice a l.length c]]) (by kernel_rfl) (Leave_spec H a c l x hf.1 (by omega) hf.2) (Give.view (c := (row 3 1 a l.length c (ints l))) (give (pre := []) (rest := [row 3 1 a l.length c (ints l), Ch.blk g1 24 [Value.int IntKind.i64 H, Value.slice a l.length c], Ch.blk g2 41 [Value.int IntKind.i64 k, Value.int IntKind.i64 x], Ch.blk g3 24 [Value.int IntKind.i64 0, Value.slice none 0 0], Ch.blk g4 24 [Value.int IntKind.i64 H, Value.slice a l.length c]]) [] (by kernel_rfl)) 0 (by kernel_rfl) view_row) ?_
    rintro v hp' ⟨a1, c1, rfl, rfl⟩
    unfold fl
    refine wpr_run (l₂ := []) true [4, 5, 6, 7, 8] [5, 5] [(7, Value.int IntKind.i64 (leave H l x).fst), (6, Value.pointer (some { block := g4, off := 0 })), (5, Value.int IntKind.i64 0), (4, Value.pointer (some { block := g3, off := 0 })), (2, Value.pointer (some { block := g1, off := 0 }))] [row 3 1 a1 (leave H l x).snd.snd.length c1 (ints (leave H l x).snd.snd), row 3 1 a l.length c (ints l), Ch.blk g1 24 [Value.int IntKind.i64 H, Value.slice a l.length c], Ch.blk g2 41 [Value.int IntKind.i64 k, Value.int IntKind.i64 x], Ch.blk g3 24 [Value.int IntKind.i64 0, Value.slice none 0 0], Ch.blk g4 24 [Value.int IntKind.i64 (leave H l x).snd.fst, Value.slice a1 (leave H l x).snd.snd.length c1]] [] (by kernel_rfl) (by kernel_rfl) trivial ?_
    refine wpr_nil ?_
    exact nx_ent (ent_hp [1, 0, 0, 1, 1] rfl) (nx_ent (ent_fr (by kernel_rfl)) (hk (a1, c1)))
  have hn4 : k ≠ 4 := fun e => by rw [e] at k4; simp at k4
  refine wpc_region [0, 1, 2, 3, 4, 5, 6, 7, 8] (by kernel_rfl) ?_
  refine wpr_run (l₂ := [3, 4, 5, 6, 7, 8]) true [0, 1, 2] [1, 1, 2] [(14, Value.int IntKind.i64 x), (12, Value.agg #[Value.int IntKind.i64 H, Value.slice a l.length c]), (7, Value.int IntKind.i64 0), (6, Value.pointer (some { block := g4, off := 0 })), (5, Value.int IntKind.i64 0), (4, Value.pointer (some { block := g3, off := 0 })), (2, Value.pointer (some { block := g1, off := 0 }))] [row 3 1 a l.length c (ints l), Ch.blk g1 24 [Value.int IntKind.i64 H, Value.slice a l.length c], Ch.blk g2 41 [Value.int IntKind.i64 k, Value.int IntKind.i64 x], Ch.blk g3 24 [Value.int IntKind.i64 0, Value.slice none 0 0], Ch.blk g4 24 [Value.int IntKind.i64 H, Value.slice a l.length c]] [] (by kernel_rfl) (by kernel_rfl) trivial ?_
  have hE : askF k H l x = req H l x := by unfold askF; rw [if_neg hn1, if_neg hn2, if_neg hn3, if_neg hn4]
  rw [hE] at hk
  refine wpr_call (dst := some 15) (rest := [row 3 1 a l.length c (ints l), Ch.blk g1 24 [Value.int IntKind.i64 H, Value.slice a l.length c], Ch.blk g2 41 [Value.int IntKind.i64 k, Value.int IntKind.i64 x], Ch.blk g3 24 [Value.int IntKind.i64 0, Value.slice none 0 0], Ch.blk g4 24 [Value.int IntKind.i64 H, Value.slice a l.length c]]) (by kernel_rfl) (Request_spec H a c l x hf.1 (by omega) hf.2) (Give.view (c := (row 3 1 a l.length c (ints l))) (give (pre := []) (rest := [row 3 1 a l.length c (ints l), Ch.blk g1 24 [Value.int IntKind.i64 H, Value.slice a l.length c], Ch.blk g2 41 [Value.int IntKind.i64 k, Value.int IntKind.i64 x], Ch.blk g3 24 [Value.int IntKind.i64 0, Value.slice none 0 0], Ch.blk g4 24 [Value.int IntKind.i64 H, Value.slice a l.length c]]) [] (by kernel_rfl)) 0 (by kernel_rfl) view_row) ?_
  rintro v hp' ⟨a1, c1, rfl, rfl⟩
  unfold fl
  refine wpr_run (l₂ := []) true [4, 5, 6, 7, 8] [5, 5] [(7, Value.int IntKind.i64 (req H l x).fst), (6, Value.pointer (some { block := g4, off := 0 })), (5, Value.int IntKind.i64 0), (4, Value.pointer (some { block := g3, off := 0 })), (2, Value.pointer (some { block := g1, off := 0 }))] [row 3 1 a1 (req H l x).snd.snd.length c1 (ints (req H l x).snd.snd), row 3 1 a l.length c (ints l), Ch.blk g1 24 [Value.int IntKind.i64 H, Value.slice a l.length c], Ch.blk g2 41 [Value.int IntKind.i64 k, Value.int IntKind.i64 x], Ch.blk g3 24 [Value.int IntKind.i64 0, Value.slice none 0 0], Ch.blk g4 24 [Value.int IntKind.i64 (req H l x).snd.fst, Value.slice a1 (req H l x).snd.snd.length c1]] [] (by kernel_rfl) (by kernel_rfl) trivial ?_
  refine wpr_nil ?_
  exact nx_ent (ent_hp [1, 0, 0, 1, 1] rfl) (nx_ent (ent_fr (by kernel_rfl)) (hk (a1, c1)))
  rintro ⟨a1, c1⟩
  dsimp only
  unfold askN
  refine nx_block ?_
  refine nx_then ?_
  refine wpc_seq ?_
  refine wpc_seq ?_
  refine wpc_region [0, 1] (by kernel_rfl) ?_
  refine wpr_run (l₂ := []) true [0, 1] [] [(53, Value.bool ((askF k H l x).fst != 0)), (7, Value.int IntKind.i64 (askF k H l x).fst), (6, Value.pointer (some { block := g4, off := 0 })), (5, Value.int IntKind.i64 0), (4, Value.pointer (some { block := g3, off := 0 })), (2, Value.pointer (some { block := g1, off := 0 }))] [row 3 1 a l.length c (ints l), row 3 1 a1 (askF k H l x).snd.snd.length c1 (ints (askF k H l x).snd.snd), Ch.blk g1 24 [Value.int IntKind.i64 H, Value.slice a l.length c], Ch.blk g3 24 [Value.int IntKind.i64 0, Value.slice none 0 0], Ch.blk g4 24 [Value.int IntKind.i64 (askF k H l x).snd.fst, Value.slice a1 (askF k H l x).snd.snd.length c1]] [] (by kernel_rfl) (by kernel_rfl) trivial ?_
  refine wpr_nil ?_
  refine nx_then ?_
  by_cases he : (askF k H l x).1 ≠ 0
  · rw [if_pos he]
    refine wpc_ent (ent_set 53 (Value.bool ((askF k H l x).fst != 0)) (Value.bool true) (by kernel_rfl) (congrArg _ (by simpa using he))) ?_
    refine wpc_true (by kernel_rfl) ?_
    refine wpc_seq ?_
    refine wpc_region [0, 1, 2, 3] (by kernel_rfl) ?_
    refine wpr_run (l₂ := []) true [0, 1, 2, 3] [2, 2, 3, 3] [(5, Value.int IntKind.i64 (askF k H l x).fst), (7, Value.int IntKind.i64 (askF k H l x).fst), (6, Value.pointer (some { block := g4, off := 0 })), (4, Value.pointer (some { block := g3, off := 0 }))] [row 3 1 a l.length c (ints l), row 3 1 a1 (askF k H l x).snd.snd.length c1 (ints (askF k H l x).snd.snd), Ch.blk g1 24 [Value.int IntKind.i64 H, Value.slice a l.length c], Ch.blk g3 24 [Value.int IntKind.i64 H, Value.slice a l.length c], Ch.blk g4 24 [Value.int IntKind.i64 (askF k H l x).snd.fst, Value.slice a1 (askF k H l x).snd.snd.length c1]] [] (by kernel_rfl) (by kernel_rfl) trivial ?_
    refine wpr_nil ?_
    refine nx_then ?_
    refine wpc_ret ?_
    refine nx_then_ret ?_
    refine nx_end (hp' := [row 3 1 a l.length c (ints l)]) (rest := [row 3 1 a1 (askF k H l x).snd.snd.length c1 (ints (askF k H l x).snd.snd), Ch.blk g1 24 [Value.int IntKind.i64 H, Value.slice a l.length c], Ch.blk g3 24 [Value.int IntKind.i64 H, Value.slice a l.length c], Ch.blk g4 24 [Value.int IntKind.i64 (askF k H l x).snd.fst, Value.slice a1 (askF k H l x).snd.snd.length c1]]) [3, 3] ((Value.tuple #[Value.agg #[Value.int IntKind.i64 H, Value.slice a l.length c], Value.int IntKind.i64 (askF k H l x).fst])) (by kernel_rfl) (by kernel_rfl) (give [0] (by kernel_rfl)) (by first | ((repeat (first | exact trivial | refine ⟨trivial, ?_⟩)); done) | assumption) ?_ (.inr rfl)
    exact ⟨a, c, rfl, rfl⟩
  · rw [if_neg he]
    refine wpc_ent (ent_set 53 (Value.bool ((askF k H l x).fst != 0)) (Value.bool false) (by kernel_rfl) (congrArg _ (by simpa using he))) ?_
    refine wpc_false (by kernel_rfl) ?_
    refine wpc_skip ?_
    refine nx_then ?_
    refine wpc_seq ?_
    refine wpc_region [0, 1, 2, 3] (by kernel_rfl) ?_
    refine wpr_run (l₂ := []) true [0, 1, 2, 3] [4, 4, 3, 3] [(5, Value.int IntKind.i64 (askF k H l x).fst), (4, Value.pointer (some { block := g3, off := 0 }))] [row 3 1 a l.length c (ints l), row 3 1 a1 (askF k H l x).snd.snd.length c1 (ints (askF k H l x).snd.snd), Ch.blk g1 24 [Value.int IntKind.i64 H, Value.slice a l.length c], Ch.blk g3 24 [Value.int IntKind.i64 (askF k H l x).snd.fst, Value.slice a1 (askF k H l x).snd.snd.length c1], Ch.blk g4 24 [Value.int IntKind.i64 (askF k H l x).snd.fst, Value.slice a1 (askF k H l x).snd.snd.length c1]] [] (by kernel_rfl) (by kernel_rfl) trivial ?_
    refine wpr_nil ?_
    refine nx_then ?_
    refine wpc_ret ?_
    refine nx_end (hp' := [row 3 1 a1 (askF k H l x).snd.snd.length c1 (ints (askF k H l x).snd.snd)]) (rest := [row 3 1 a l.length c (ints l), Ch.blk g1 24 [Value.int IntKind.i64 H, Value.slice a l.length c], Ch.blk g3 24 [Value.int IntKind.i64 (askF k H l x).snd.fst, Value.slice a1 (askF k H l x).snd.snd.length c1], Ch.blk g4 24 [Value.int IntKind.i64 (askF k H l x).snd.fst, Value.slice a1 (askF k H l x).snd.snd.length c1]]) [3, 3] ((Value.tuple #[Value.agg #[Value.int IntKind.i64 (askF k H l x).snd.fst, Value.slice a1 (askF k H l x).snd.snd.length c1], Value.int IntKind.i64 (askF k H l x).fst])) (by kernel_rfl) (by kernel_rfl) (give [1] (by kernel_rfl)) (by first | ((repeat (first | exact trivial | refine ⟨trivial, ?_⟩)); done) | assumption) ?_ (.inr rfl)
    exact ⟨a1, c1, rfl, rfl⟩
end Go.Proofs.Ytoagfnobfbfdfaa
