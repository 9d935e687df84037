import Derived.Test.YtoagfnobfbfdfaaF10
import Derived.Test.YtoagfnobfbfdfaaX13
namespace Go.Proofs.Ytoagfnobfbfdfaa
open Go Go.Sx
set_option linter.unusedVariables false
set_option linter.unusedSimpArgs false

def askC (x : Int × Int) : List Value := [.int .i64 x.1, .int .i64 x.2]
theorem askC_len (x : Int × Int) : (askC x).length = 2 := rfl

structure FX (n : Nat) where
  i : Nat
  H : Int
  q : List Int
  a : Option Addr
  c : Nat
  hi : i ≤ n
  ok : Ok H q

set_option maxHeartbeats 4000000 in
theorem FloorOne_spec (al : Option Addr) (cl : Nat) (l : List (Int × Int)) (ha : al = none → l = []) (hl : l.length ≤ 9223372036854775807) :
    Does Try.prog 4 [.slice al l.length cl] [ro al (l.flatMap askC)] (fun v hp' => v = .bool true ∧ hp' = []) := by
  refine fn_enter Try.func4 rfl 92 rfl fun w0 h0 => ?_
  refine wpc_seq ?_
  refine wpc_region [0] (by kernel_rfl) ?_
  refine wpr_run (l₂ := []) true [0] [] [(2, Value.bool false), (0, Value.slice al l.length cl)] [ro al (List.flatMap askC l)] [] (by kernel_rfl) (by kernel_rfl) trivial ?_
  refine wpr_nil ?_
  refine nx_then ?_
  refine wpc_seq ?_
  refine wpc_seq ?_
  refine wpc_region [0, 1, 2] (by kernel_rfl) ?_
  refine wpr_run (l₂ := []) true [0, 1, 2] [] [(10, Value.bool (decide ((↑l.length : Int) > 200))), (2, Value.bool false), (0, Value.slice al l.length cl)] [ro al (List.flatMap askC l)] [] (by kernel_rfl) (by kernel_rfl) trivial ?_
  refine wpr_nil ?_
  refine nx_then ?_
  refine wpc_if (((↑l.length : Int) > 200)) (by kernel_rfl) (fun hbig => ?_) (fun hbig => ?_)
  · refine wpc_seq ?_
    refine wpc_region [0, 1] (by kernel_rfl) ?_
    refine wpr_call (dst := some 11) (rest := [ro al (List.flatMap askC l)]) (by kernel_rfl) (lives_spec) (give [] (by kernel_rfl)) ?_
    rintro v hp' ⟨rfl, rfl⟩
    refine wpr_run (l₂ := []) true [1] [] [(2, Value.bool true), (0, Value.slice al l.length cl)] [ro al (List.flatMap askC l)] [] (by kernel_rfl) (by kernel_rfl) trivial ?_
    refine wpr_nil ?_
    refine nx_then ?_
    refine wpc_ret ?_
    refine nx_then_ret ?_
    refine nx_end (hp' := []) (rest := [ro al (List.flatMap askC l)]) [] ((Value.bool true)) (by kernel_rfl) (by kernel_rfl) (give [] (by kernel_rfl)) (by first | ((repeat (first | exact trivial | refine ⟨trivial, ?_⟩)); done) | assumption) ?_ (.inr rfl)
    exact ⟨rfl, rfl⟩
  refine wpc_skip ?_
  refine nx_then ?_
  refine wpc_seq ?_
  refine wpc_region [0] (by kernel_rfl) ?_
  refine wpr_new (l₂ := []) true [0] [] (fun g1 => [(3, Value.pointer (some { block := g1, off := 0 })), (2, Value.bool false), (0, Value.slice al l.length cl)]) (fun g1 => [ro al (List.flatMap askC l), Ch.blk g1 24 [Value.int IntKind.i64 0, Value.slice none 0 0]]) (fun g1 => []) (fun g1 => by kernel_rfl) (fun g1 => by kernel_rfl) (fun g1 => trivial) fun g1 => ?_
  refine wpr_nil ?_
  refine nx_then ?_
  refine wpc_seq ?_
  refine wpc_seq ?_
  refine wpc_region [0] (by kernel_rfl) ?_
  refine wpr_run (l₂ := []) true [0] [] [(4, Value.int IntKind.i64 0), (3, Value.pointer (some { block := g1, off := 0 })), (2, Value.bool false), (0, Value.slice al l.length cl)] [ro al (List.flatMap askC l), Ch.blk g1 24 [Value.int IntKind.i64 0, Value.slice none 0 0]] [] (by kernel_rfl) (by kernel_rfl) trivial ?_
  refine wpr_nil ?_
  refine nx_then ?_
  refine wpc_block ?_
  refine wpc_ent (ent_nil 3 1) ?_
  refine wpc_loop (X := FX l.length) (fun x => St.mk [(4, .int .i64 (x.i : Int)), (3, .pointer (some ⟨g1, 0, none⟩)), (2, .bool false), (0, .slice al l.length cl)]
    [ro al (l.flatMap askC), row 3 1 x.a x.q.length x.c (ints x.q), .blk g1 24 [.int .i64 x.H, .slice x.a x.q.length x.c]]) (fun x => l.length - x.i) ⟨0, 0, [], none, 0, Nat.zero_le _, by decide⟩ ?_ ?_
  · exact fun a w hS => ent_fr (by kernel_rfl) _ _ (ent_hp [1, 0, 0] rfl _ _ hS)
  rintro ⟨i, H, q, a, c, hi, ok⟩
  dsimp only at hi ok ⊢
  refine wpc_seq ?_
  refine wpc_seq ?_
  refine wpc_region [0, 1, 2, 3] (by kernel_rfl) ?_
  refine wpr_run (l₂ := []) true [0, 1, 2, 3] [] [(15, Value.bool (decide ((↑i : Int) < (↑l.length : Int)))), (4, Value.int IntKind.i64 (↑i : Int)), (3, Value.pointer (some { block := g1, off := 0 })), (2, Value.bool false), (0, Value.slice al l.length cl)] [ro al (List.flatMap askC l), row 3 1 a q.length c (ints q), Ch.blk g1 24 [Value.int IntKind.i64 H, Value.slice a q.length c]] [] (by kernel_rfl) (by kernel_rfl) trivial ?_
  refine wpr_nil ?_
  refine nx_then ?_
  refine wpc_if (((↑i : Int) < (↑l.length : Int))) (by kernel_rfl) (fun hlt => ?_) (fun hlt => ?_)
  · have hil : i < l.length := by omega
    obtain ⟨k, x, hK⟩ : ∃ k x, l[i] = (k, x) := ⟨_, _, rfl⟩
    have hq4 := ok.2.1
    have ok' := ok_askN (k := k) (x := x) ok
    have hq4' := ok'.2.1
    refine wpc_fact (fun w h => ro_addr h 0 rfl (by rw [fm_len askC_len]; omega)) ?_
    rintro ⟨w1, o1, rfl⟩
    refine wpc_skip ?_
    refine nx_then ?_
    refine wpc_seq ?_
    refine wpc_block ?_
    refine wpc_seq ?_
    refine wpc_draw (by kernel_rfl) [ro (some { block := w1, off := o1 }) (List.flatMap askC l), Ch.blk g1 24 [Value.int IntKind.i64 H, Value.slice a q.length c]] (sub_of [0, 2] (by kernel_rfl)) 12 (by kernel_rfl) ?_
    refine wpa_take true [(0, [1, 1]), (1, []), (2, []), (3, [])] ([(22, Value.pointer (some { block := w1, off := o1 + i * 2 })), (19, Value.agg #[Value.int IntKind.i64 H, Value.slice a q.length c]), (4, Value.int IntKind.i64 (↑i : Int)), (3, Value.pointer (some { block := g1, off := 0 })), (2, Value.bool false), (0, Value.slice (some { block := w1, off := o1 }) l.length cl)]) (#[true, true, true, true, false, false, false, false, false, false, false, false]) [(0 : Int) ≤ (↑i : Int) ∧ (↑i : Int) < (↑l.length : Int)] (n := 8) (by kernel_rfl) (by kernel_rfl) (by kernel_rfl) ⟨by omega, trivial⟩ ?_
    refine wpa_qld (i := 4) (n := 7) (by kernel_rfl) (by kernel_rfl) (by kernel_rfl) (t := 41) (a := ({ block := w1, off := o1 + i * 2 })) (dst := some 23) (by kernel_rfl) true 2 (by kernel_rfl) (by simp) [.int .i64 k, .int .i64 x] rfl (fun w h => ld_roL h 0 rfl (i * 2) ((fm_at askC_len hil).trans (by rw [hK]; rfl))) ?_
    refine wpa_joinx (X := Option Addr × Nat × Nat) (fun y => St.mk [(6, .int .i64 (askF k H q x).1), (5, .pointer (some ⟨y.2.2, 0, none⟩)), (4, .int .i64 (i : Int)), (3, .pointer (some ⟨g1, 0, none⟩)), (2, .bool false), (0, .slice (some ⟨w1, o1, none⟩) l.length cl)]
      [ro (some ⟨w1, o1, none⟩) (l.flatMap askC), row 3 1 y.1 (askN k H q x).2.length y.2.1 (ints (askN k H q x).2), .blk y.2.2 24 [.int .i64 (askN k H q x).1, .slice y.1 (askN k H q x).2.length y.2.1], .blk g1 24 [.int .i64 H, .slice a q.length c]]) (fun Q1 hQ1 hk => ?_) ?_
    · refine wpa_two (i := 5) (j := 9) (n := 6) (by kernel_rfl) ?_ ?_
      · refine wpi_call (i := 5) (dst := some 24) (rest := [ro (some { block := w1, off := o1 }) (List.flatMap askC l), Ch.blk g1 24 [Value.int IntKind.i64 H, Value.slice a q.length c]]) (by kernel_rfl) (lask_spec H a c q k x (by omega)) (give [1] (by kernel_rfl)) (sub_of [0, 1] (by kernel_rfl)) ?_
        rintro v hp' ⟨a1, c1, rfl, rfl⟩
        unfold fl
        refine wpa_take true [(6, []), (7, []), (8, [])] [(26, Value.int IntKind.i64 (askF k H q x).fst), (25, Value.agg #[Value.int IntKind.i64 (askN k H q x).fst, Value.slice a1 (askN k H q x).snd.length c1]), (4, Value.int IntKind.i64 (↑i : Int)), (3, Value.pointer (some { block := g1, off := 0 })), (2, Value.bool false), (0, Value.slice (some { block := w1, off := o1 }) l.length cl)] (#[true, true, true, true, true, true, true, true, true, false, false, false]) [] (n := 3) (by kernel_rfl) (by kernel_rfl) (by kernel_rfl) trivial ?_
        refine wpa_new (n := 2) true 9 [] (fun g2 => [(5, Value.pointer (some { block := g2, off := 0 })), (26, Value.int IntKind.i64 (askF k H q x).fst), (25, Value.agg #[Value.int IntKind.i64 (askN k H q x).fst, Value.slice a1 (askN k H q x).snd.length c1]), (4, Value.int IntKind.i64 (↑i : Int)), (3, Value.pointer (some { block := g1, off := 0 })), (2, Value.bool false), (0, Value.slice (some { block := w1, off := o1 }) l.length cl)]) (fun g2 => [row 3 1 a1 (askN k H q x).snd.length c1 (ints (askN k H q x).snd), ro (some { block := w1, off := o1 }) (List.flatMap askC l), Ch.blk g1 24 [Value.int IntKind.i64 H, Value.slice a q.length c], Ch.blk g2 24 [Value.int IntKind.i64 0, Value.slice none 0 0]]) (fun g2 => []) (by kernel_rfl) (fun g2 => by kernel_rfl) (fun g2 => by kernel_rfl) (fun g2 => trivial) (fun g2 => sub_of [1, 2] (by kernel_rfl)) fun g2 => ?_
        refine wpa_one (n := 1) true 10 [3, 3] [(5, Value.pointer (some { block := g2, off := 0 })), (26, Value.int IntKind.i64 (askF k H q x).fst), (4, Value.int IntKind.i64 (↑i : Int)), (3, Value.pointer (some { block := g1, off := 0 })), (2, Value.bool false), (0, Value.slice (some { block := w1, off := o1 }) l.length cl)] [row 3 1 a1 (askN k H q x).snd.length c1 (ints (askN k H q x).snd), ro (some { block := w1, off := o1 }) (List.flatMap askC l), Ch.blk g1 24 [Value.int IntKind.i64 H, Value.slice a q.length c], Ch.blk g2 24 [Value.int IntKind.i64 (askN k H q x).fst, Value.slice a1 (askN k H q x).snd.length c1]] [] (by kernel_rfl) (by kernel_rfl) (by kernel_rfl) trivial (sub_of [1, 2] (by kernel_rfl)) ?_
        refine wpa_take true [(11, [])] [(6, Value.int IntKind.i64 (askF k H q x).fst), (5, Value.pointer (some { block := g2, off := 0 })), (4, Value.int IntKind.i64 (↑i : Int)), (3, Value.pointer (some { block := g1, off := 0 })), (2, Value.bool false), (0, Value.slice (some { block := w1, off := o1 }) l.length cl)] (#[true, true, true, true, true, true, true, true, true, true, true, true]) [] (n := 0) (by kernel_rfl) (by kernel_rfl) (by kernel_rfl) trivial ?_
        refine wpa_done 0 (by kernel_rfl) ?_
        exact nx_ent (ent_hp [1, 0, 1, 0] rfl) (nx_ent (ent_fr (by kernel_rfl)) (hk (a1, c1, g2)))
      · refine wpi_new (n := 6) true 9 [] (fun g2 => [(5, Value.pointer (some { block := g2, off := 0 })), (23, Value.agg #[Value.int IntKind.i64 k, Value.int IntKind.i64 x]), (19, Value.agg #[Value.int IntKind.i64 H, Value.slice a q.length c]), (4, Value.int IntKind.i64 (↑i : Int)), (3, Value.pointer (some { block := g1, off := 0 })), (2, Value.bool false), (0, Value.slice (some { block := w1, off := o1 }) l.length cl)]) (fun g2 => [ro (some { block := w1, off := o1 }) (List.flatMap askC l), row 3 1 a q.length c (ints q), Ch.blk g1 24 [Value.int IntKind.i64 H, Value.slice a q.length c], Ch.blk g2 24 [Value.int IntKind.i64 0, Value.slice none 0 0]]) (fun g2 => []) (fun g2 => by kernel_rfl) (fun g2 => by kernel_rfl) (fun g2 => trivial) (fun g2 => sub_of [0, 2] (by kernel_rfl)) fun g2 => ?_
        refine wpa_call (i := 5) (n := 5) (dst := some 24) (rest := [ro (some { block := w1, off := o1 }) (List.flatMap askC l), Ch.blk g1 24 [Value.int IntKind.i64 H, Value.slice a q.length c], Ch.blk g2 24 [Value.int IntKind.i64 0, Value.slice none 0 0]]) (by kernel_rfl) (by kernel_rfl) (lask_spec H a c q k x (by omega)) (give [1] (by kernel_rfl)) (sub_of [0, 1] (by kernel_rfl)) ?_
        rintro v hp' ⟨a1, c1, rfl, rfl⟩
        unfold fl
        refine wpa_take true [(6, []), (7, []), (8, [])] [(26, Value.int IntKind.i64 (askF k H q x).fst), (25, Value.agg #[Value.int IntKind.i64 (askN k H q x).fst, Value.slice a1 (askN k H q x).snd.length c1]), (5, Value.pointer (some { block := g2, off := 0 })), (4, Value.int IntKind.i64 (↑i : Int)), (3, Value.pointer (some { block := g1, off := 0 })), (2, Value.bool false), (0, Value.slice (some { block := w1, off := o1 }) l.length cl)] (#[true, true, true, true, true, true, true, true, true, true, false, false]) [] (n := 2) (by kernel_rfl) (by kernel_rfl) (by kernel_rfl) trivial ?_
        refine wpa_one (n := 1) true 10 [3, 3] [(26, Value.int IntKind.i64 (askF k H q x).fst), (5, Value.pointer (some { block := g2, off := 0 })), (4, Value.int IntKind.i64 (↑i : Int)), (3, Value.pointer (some { block := g1, off := 0 })), (2, Value.bool false), (0, Value.slice (some { block := w1, off := o1 }) l.length cl)] [row 3 1 a1 (askN k H q x).snd.length c1 (ints (askN k H q x).snd), ro (some { block := w1, off := o1 }) (List.flatMap askC l), Ch.blk g1 24 [Value.int IntKind.i64 H, Value.slice a q.length c], Ch.blk g2 24 [Value.int IntKind.i64 (askN k H q x).fst, Value.slice a1 (askN k H q x).snd.length c1]] [] (by kernel_rfl) (by kernel_rfl) (by kernel_rfl) trivial (sub_of [1, 2] (by kernel_rfl)) ?_
        refine wpa_take true [(11, [])] [(6, Value.int IntKind.i64 (askF k H q x).fst), (5, Value.pointer (some { block := g2, off := 0 })), (4, Value.int IntKind.i64 (↑i : Int)), (3, Value.pointer (some { block := g1, off := 0 })), (2, Value.bool false), (0, Value.slice (some { block := w1, off := o1 }) l.length cl)] (#[true, true, true, true, true, true, true, true, true, true, true, true]) [] (n := 0) (by kernel_rfl) (by kernel_rfl) (by kernel_rfl) trivial ?_
        refine wpa_done 0 (by kernel_rfl) ?_
        exact nx_ent (ent_hp [1, 0, 1, 0] rfl) (nx_ent (ent_fr (by kernel_rfl)) (hk (a1, c1, g2)))
    rintro ⟨a1, c1, g5⟩
    dsimp only
    refine nx_fact (fun w h => row_facts h 1 rfl rfl) fun hf => ?_
    refine nx_then ?_
    refine wpc_seq ?_
    refine wpc_seq ?_
    refine wpc_region [0, 1, 2, 3, 4, 5, 6, 7] (by kernel_rfl) ?_
    refine wpr_run (l₂ := [1, 2, 3, 4, 5, 6, 7]) true [0] [2, 2] [(27, Value.agg #[Value.int IntKind.i64 (askN k H q x).fst, Value.slice a1 (askN k H q x).snd.length c1]), (6, Value.int IntKind.i64 (askF k H q x).fst), (5, Value.pointer (some { block := g5, off := 0 })), (4, Value.int IntKind.i64 (↑i : Int)), (3, Value.pointer (some { block := g1, off := 0 })), (2, Value.bool false), (0, Value.slice (some { block := w1, off := o1 }) l.length cl)] [ro (some { block := w1, off := o1 }) (List.flatMap askC l), row 3 1 a1 (askN k H q x).snd.length c1 (ints (askN k H q x).snd), Ch.blk g5 24 [Value.int IntKind.i64 (askN k H q x).fst, Value.slice a1 (askN k H q x).snd.length c1], Ch.blk g1 24 [Value.int IntKind.i64 H, Value.slice a q.length c]] [] (by kernel_rfl) (by kernel_rfl) trivial ?_
    refine wpr_call (dst := some 28) (rest := [ro (some { block := w1, off := o1 }) (List.flatMap askC l), row 3 1 a1 (askN k H q x).snd.length c1 (ints (askN k H q x).snd), Ch.blk g5 24 [Value.int IntKind.i64 (askN k H q x).fst, Value.slice a1 (askN k H q x).snd.length c1], Ch.blk g1 24 [Value.int IntKind.i64 H, Value.slice a q.length c]]) (by kernel_rfl) (Check_spec (askN k H q x).1 a1 c1 (askN k H q x).2 hf.1 (by omega) hf.2) (Give.view (c := (row 3 1 a1 (askN k H q x).snd.length c1 (ints (askN k H q x).snd))) (give (pre := []) (rest := [ro (some { block := w1, off := o1 }) (List.flatMap askC l), row 3 1 a1 (askN k H q x).snd.length c1 (ints (askN k H q x).snd), Ch.blk g5 24 [Value.int IntKind.i64 (askN k H q x).fst, Value.slice a1 (askN k H q x).snd.length c1], Ch.blk g1 24 [Value.int IntKind.i64 H, Value.slice a q.length c]]) [] (by kernel_rfl)) 1 (by kernel_rfl) view_row) ?_
    rintro v hp' ⟨rfl, rfl⟩
    rw [chk, if_pos ok']
    refine wpr_run (l₂ := [5, 6, 7]) true [2, 3, 4] [2, 2] [(31, Value.agg #[Value.int IntKind.i64 (askN k H q x).fst, Value.slice a1 (askN k H q x).snd.length c1]), (30, Value.bool false), (6, Value.int IntKind.i64 (askF k H q x).fst), (5, Value.pointer (some { block := g5, off := 0 })), (4, Value.int IntKind.i64 (↑i : Int)), (3, Value.pointer (some { block := g1, off := 0 })), (2, Value.bool false), (0, Value.slice (some { block := w1, off := o1 }) l.length cl)] [ro (some { block := w1, off := o1 }) (List.flatMap askC l), row 3 1 a1 (askN k H q x).snd.length c1 (ints (askN k H q x).snd), Ch.blk g5 24 [Value.int IntKind.i64 (askN k H q x).fst, Value.slice a1 (askN k H q x).snd.length c1], Ch.blk g1 24 [Value.int IntKind.i64 H, Value.slice a q.length c]] [] (by kernel_rfl) (by kernel_rfl) trivial ?_
    refine wpr_call (dst := some 32) (rest := [ro (some { block := w1, off := o1 }) (List.flatMap askC l), row 3 1 a1 (askN k H q x).snd.length c1 (ints (askN k H q x).snd), Ch.blk g5 24 [Value.int IntKind.i64 (askN k H q x).fst, Value.slice a1 (askN k H q x).snd.length c1], Ch.blk g1 24 [Value.int IntKind.i64 H, Value.slice a q.length c]]) (by kernel_rfl) (Right_spec (askN k H q x).1 a1 c1 (askN k H q x).2 hf.1 (by omega)) (Give.view (c := (row 3 1 a1 (askN k H q x).snd.length c1 (ints (askN k H q x).snd))) (give (pre := []) (rest := [ro (some { block := w1, off := o1 }) (List.flatMap askC l), row 3 1 a1 (askN k H q x).snd.length c1 (ints (askN k H q x).snd), Ch.blk g5 24 [Value.int IntKind.i64 (askN k H q x).fst, Value.slice a1 (askN k H q x).snd.length c1], Ch.blk g1 24 [Value.int IntKind.i64 H, Value.slice a q.length c]]) [] (by kernel_rfl)) 1 (by kernel_rfl) view_row) ?_
    rintro v hp' ⟨rfl, rfl⟩
    rw [rightB, decide_eq_true ok']
    refine wpr_run (l₂ := []) true [6, 7] [] [(34, Value.bool false), (6, Value.int IntKind.i64 (askF k H q x).fst), (5, Value.pointer (some { block := g5, off := 0 })), (4, Value.int IntKind.i64 (↑i : Int)), (3, Value.pointer (some { block := g1, off := 0 })), (2, Value.bool false), (0, Value.slice (some { block := w1, off := o1 }) l.length cl)] [ro (some { block := w1, off := o1 }) (List.flatMap askC l), row 3 1 a1 (askN k H q x).snd.length c1 (ints (askN k H q x).snd), Ch.blk g5 24 [Value.int IntKind.i64 (askN k H q x).fst, Value.slice a1 (askN k H q x).snd.length c1], Ch.blk g1 24 [Value.int IntKind.i64 H, Value.slice a q.length c]] [] (by kernel_rfl) (by kernel_rfl) trivial ?_
    refine wpr_nil ?_
    refine nx_then ?_
    refine wpc_false (by kernel_rfl) ?_
    refine wpc_skip ?_
    refine nx_then ?_
    refine wpc_seq ?_
    refine wpc_seq ?_
    refine wpc_region [0, 1, 2, 3, 4] (by kernel_rfl) ?_
    refine wpr_run (l₂ := []) true [0, 1, 2, 3, 4] [2, 3] [(39, Value.bool ((askN k H q x).fst != H)), (6, Value.int IntKind.i64 (askF k H q x).fst), (5, Value.pointer (some { block := g5, off := 0 })), (4, Value.int IntKind.i64 (↑i : Int)), (3, Value.pointer (some { block := g1, off := 0 })), (2, Value.bool false), (0, Value.slice (some { block := w1, off := o1 }) l.length cl)] [ro (some { block := w1, off := o1 }) (List.flatMap askC l), row 3 1 a1 (askN k H q x).snd.length c1 (ints (askN k H q x).snd), Ch.blk g5 24 [Value.int IntKind.i64 (askN k H q x).fst, Value.slice a1 (askN k H q x).snd.length c1], Ch.blk g1 24 [Value.int IntKind.i64 H, Value.slice a q.length c]] [] (by kernel_rfl) (by kernel_rfl) trivial ?_
    refine wpr_nil ?_
    refine nx_then ?_
    by_cases hH : (askN k H q x).1 = H
    · refine wpc_ent (ent_set 39 (Value.bool ((askN k H q x).fst != H)) (Value.bool false) (by kernel_rfl) (congrArg _ (by simpa using hH))) ?_
      refine wpc_false (by kernel_rfl) ?_
      refine wpc_skip ?_
      refine nx_then ?_
      refine wpc_region [0, 1] (by kernel_rfl) ?_
      refine wpr_run (l₂ := []) true [0, 1] [2, 2, 3, 3] [(4, Value.int IntKind.i64 (↑i : Int)), (3, Value.pointer (some { block := g1, off := 0 })), (2, Value.bool false), (0, Value.slice (some { block := w1, off := o1 }) l.length cl)] [ro (some { block := w1, off := o1 }) (List.flatMap askC l), row 3 1 a1 (askN k H q x).snd.length c1 (ints (askN k H q x).snd), Ch.blk g5 24 [Value.int IntKind.i64 (askN k H q x).fst, Value.slice a1 (askN k H q x).snd.length c1], Ch.blk g1 24 [Value.int IntKind.i64 (askN k H q x).fst, Value.slice a1 (askN k H q x).snd.length c1]] [] (by kernel_rfl) (by kernel_rfl) trivial ?_
      refine wpr_nil ?_
      refine nx_block ?_
      refine nx_then ?_
      refine wpc_region [0, 1, 2] (by kernel_rfl) ?_
      refine wpr_run (l₂ := []) true [0, 1, 2] [] ([(4, Value.int IntKind.i64 ((↑i : Int) + 1)), (3, Value.pointer (some { block := g1, off := 0 })), (2, Value.bool false), (0, Value.slice (some { block := w1, off := o1 }) l.length cl)]) [ro (some { block := w1, off := o1 }) (List.flatMap askC l), row 3 1 a1 (askN k H q x).snd.length c1 (ints (askN k H q x).snd), Ch.blk g5 24 [Value.int IntKind.i64 (askN k H q x).fst, Value.slice a1 (askN k H q x).snd.length c1], Ch.blk g1 24 [Value.int IntKind.i64 (askN k H q x).fst, Value.slice a1 (askN k H q x).snd.length c1]] ([inI64 ((↑i : Int) + (1 : Int))]) (by kernel_rfl) (by kernel_rfl) ⟨by unfold inI64; omega, trivial⟩ ?_
      refine wpr_nil ?_
      exact fun a' w' hS' => ⟨⟨i + 1, (askN k H q x).1, (askN k H q x).2, a1, c1, by omega, ok'⟩, by dsimp only; omega, ent_fr (by kernel_rfl) _ _ (ent_hp [0, 0, 1] rfl _ _ hS')⟩
    · obtain ⟨f1, f2, f3, f4, f5, f6⟩ := ask_holder hH
      refine wpc_ent (ent_set 39 (Value.bool ((askN k H q x).fst != H)) (Value.bool true) (by kernel_rfl) (congrArg _ (by simpa using hH))) ?_
      refine wpc_true (by kernel_rfl) ?_
      refine wpc_seq ?_
      refine wpc_region [0, 1, 2, 3, 4, 5] (by kernel_rfl) ?_
      refine wpr_run (l₂ := [3, 4, 5]) true [0, 1, 2] [] ([(42, Value.pointer (some { block := w1, off := o1 + i * 2 })), (6, Value.int IntKind.i64 (askF k H q x).fst), (5, Value.pointer (some { block := g5, off := 0 })), (4, Value.int IntKind.i64 (↑i : Int)), (3, Value.pointer (some { block := g1, off := 0 })), (2, Value.bool false), (0, Value.slice (some { block := w1, off := o1 }) l.length cl)]) [ro (some { block := w1, off := o1 }) (List.flatMap askC l), row 3 1 a1 (askN k H q x).snd.length c1 (ints (askN k H q x).snd), Ch.blk g5 24 [Value.int IntKind.i64 (askN k H q x).fst, Value.slice a1 (askN k H q x).snd.length c1], Ch.blk g1 24 [Value.int IntKind.i64 H, Value.slice a q.length c]] [(0 : Int) ≤ (↑i : Int) ∧ (↑i : Int) < (↑l.length : Int)] (by kernel_rfl) (by kernel_rfl) ⟨by omega, trivial⟩ ?_
      refine wpr_eq (ld (t := 41) (a := ({ block := w1, off := o1 + i * 2 })) (dst := some 43) (by kernel_rfl) true 2 (by kernel_rfl) (by simp) [.int .i64 k, .int .i64 x] rfl (fun w h => ld_ro h 0 rfl (i * 2) ((fm_at askC_len hil).trans (by rw [hK]; rfl)))) ?_
      rw [f1]
      refine wpr_new (l₂ := [5]) true [4] [] (fun g2 => [(7, Value.pointer (some { block := g2, off := 0 })), (43, Value.agg #[Value.int IntKind.i64 k, Value.int IntKind.i64 x]), (6, Value.int IntKind.i64 0), (5, Value.pointer (some { block := g5, off := 0 })), (4, Value.int IntKind.i64 (↑i : Int)), (3, Value.pointer (some { block := g1, off := 0 })), (2, Value.bool false), (0, Value.slice (some { block := w1, off := o1 }) l.length cl)]) (fun g2 => [ro (some { block := w1, off := o1 }) (List.flatMap askC l), row 3 1 a1 (askN k H q x).snd.length c1 (ints (askN k H q x).snd), Ch.blk g5 24 [Value.int IntKind.i64 (askN k H q x).fst, Value.slice a1 (askN k H q x).snd.length c1], Ch.blk g1 24 [Value.int IntKind.i64 H, Value.slice a q.length c], Ch.blk g2 41 [Value.int IntKind.i64 0, Value.int IntKind.i64 0]]) (fun g2 => []) (fun g2 => by kernel_rfl) (fun g2 => by kernel_rfl) (fun g2 => trivial) fun g2 => ?_
      refine wpr_run (l₂ := []) true [5] [4, 4] [(7, Value.pointer (some { block := g2, off := 0 })), (6, Value.int IntKind.i64 0), (5, Value.pointer (some { block := g5, off := 0 })), (4, Value.int IntKind.i64 (↑i : Int)), (3, Value.pointer (some { block := g1, off := 0 })), (2, Value.bool false), (0, Value.slice (some { block := w1, off := o1 }) l.length cl)] [ro (some { block := w1, off := o1 }) (List.flatMap askC l), row 3 1 a1 (askN k H q x).snd.length c1 (ints (askN k H q x).snd), Ch.blk g5 24 [Value.int IntKind.i64 (askN k H q x).fst, Value.slice a1 (askN k H q x).snd.length c1], Ch.blk g1 24 [Value.int IntKind.i64 H, Value.slice a q.length c], Ch.blk g2 41 [Value.int IntKind.i64 k, Value.int IntKind.i64 x]] [] (by kernel_rfl) (by kernel_rfl) trivial ?_
      refine wpr_nil ?_
      refine nx_then ?_
      refine wpc_seq ?_
      refine wpc_region [0, 1, 2, 3, 4, 5, 6, 7, 8, 9, 10, 11, 12, 13, 14, 15, 16, 17, 18, 19, 20, 21, 22, 23, 24, 25, 26, 27, 28, 29, 30, 31, 32, 33, 34, 35, 36, 37, 38, 39, 40, 41, 42, 43, 44, 45] (by kernel_rfl) ?_
      refine wpr_run (l₂ := [8, 9, 10, 11, 12, 13, 14, 15, 16, 17, 18, 19, 20, 21, 22, 23, 24, 25, 26, 27, 28, 29, 30, 31, 32, 33, 34, 35, 36, 37, 38, 39, 40, 41, 42, 43, 44, 45]) true [0, 1, 2, 3, 4, 5, 6, 7] [4] [(51, Value.bool (decide (k < 1))), (7, Value.pointer (some { block := g2, off := 0 })), (5, Value.pointer (some { block := g5, off := 0 })), (4, Value.int IntKind.i64 (↑i : Int)), (3, Value.pointer (some { block := g1, off := 0 })), (2, Value.bool false), (0, Value.slice (some { block := w1, off := o1 }) l.length cl)] [ro (some { block := w1, off := o1 }) (List.flatMap askC l), row 3 1 a1 (askN k H q x).snd.length c1 (ints (askN k H q x).snd), Ch.blk g5 24 [Value.int IntKind.i64 (askN k H q x).fst, Value.slice a1 (askN k H q x).snd.length c1], Ch.blk g1 24 [Value.int IntKind.i64 H, Value.slice a q.length c], Ch.blk g2 41 [Value.int IntKind.i64 k, Value.int IntKind.i64 x]] [] (by kernel_rfl) (by kernel_rfl) trivial ?_
      refine wpr_ent (ent_set 51 (Value.bool (decide (k < 1))) (Value.bool false) (by kernel_rfl) (congrArg _ (decide_eq_false (by omega)))) ?_
      refine wpr_run (l₂ := [13, 14, 15, 16, 17, 18, 19, 20, 21, 22, 23, 24, 25, 26, 27, 28, 29, 30, 31, 32, 33, 34, 35, 36, 37, 38, 39, 40, 41, 42, 43, 44, 45]) true [8, 9, 10, 11, 12] [4] [(56, Value.bool (decide (k > 4))), (7, Value.pointer (some { block := g2, off := 0 })), (5, Value.pointer (some { block := g5, off := 0 })), (4, Value.int IntKind.i64 (↑i : Int)), (3, Value.pointer (some { block := g1, off := 0 })), (2, Value.bool false), (0, Value.slice (some { block := w1, off := o1 }) l.length cl)] [ro (some { block := w1, off := o1 }) (List.flatMap askC l), row 3 1 a1 (askN k H q x).snd.length c1 (ints (askN k H q x).snd), Ch.blk g5 24 [Value.int IntKind.i64 (askN k H q x).fst, Value.slice a1 (askN k H q x).snd.length c1], Ch.blk g1 24 [Value.int IntKind.i64 H, Value.slice a q.length c], Ch.blk g2 41 [Value.int IntKind.i64 k, Value.int IntKind.i64 x]] [] (by kernel_rfl) (by kernel_rfl) trivial ?_
      refine wpr_ent (ent_set 56 (Value.bool (decide (k > 4))) (Value.bool false) (by kernel_rfl) (congrArg _ (decide_eq_false (by omega)))) ?_
      refine wpr_run (l₂ := [17, 18, 19, 20, 21, 22, 23, 24, 25, 26, 27, 28, 29, 30, 31, 32, 33, 34, 35, 36, 37, 38, 39, 40, 41, 42, 43, 44, 45]) true [13, 14, 15, 16] [4] [(60, Value.bool (k == 1)), (56, Value.bool false), (7, Value.pointer (some { block := g2, off := 0 })), (5, Value.pointer (some { block := g5, off := 0 })), (4, Value.int IntKind.i64 (↑i : Int)), (3, Value.pointer (some { block := g1, off := 0 })), (2, Value.bool false), (0, Value.slice (some { block := w1, off := o1 }) l.length cl)] [ro (some { block := w1, off := o1 }) (List.flatMap askC l), row 3 1 a1 (askN k H q x).snd.length c1 (ints (askN k H q x).snd), Ch.blk g5 24 [Value.int IntKind.i64 (askN k H q x).fst, Value.slice a1 (askN k H q x).snd.length c1], Ch.blk g1 24 [Value.int IntKind.i64 H, Value.slice a q.length c], Ch.blk g2 41 [Value.int IntKind.i64 k, Value.int IntKind.i64 x]] [] (by kernel_rfl) (by kernel_rfl) trivial ?_
      by_cases k1 : k = 1
      · have f4 := f4 k1
        refine wpr_ent (ent_set 60 (Value.bool (k == 1)) (Value.bool true) (by kernel_rfl) (congrArg _ (by simp only [bne_iff_ne, beq_iff_eq, ne_eq]; omega))) ?_
        refine wpr_run (l₂ := [25, 26, 27, 28, 29, 30, 31, 32, 33, 34, 35, 36, 37, 38, 39, 40, 41, 42, 43, 44, 45]) true [17, 18, 19, 20, 21, 22, 23, 24] [2, 4] [(68, Value.bool ((askN k H q x).fst != x)), (7, Value.pointer (some { block := g2, off := 0 })), (5, Value.pointer (some { block := g5, off := 0 })), (4, Value.int IntKind.i64 (↑i : Int)), (3, Value.pointer (some { block := g1, off := 0 })), (2, Value.bool false), (0, Value.slice (some { block := w1, off := o1 }) l.length cl)] [ro (some { block := w1, off := o1 }) (List.flatMap askC l), row 3 1 a1 (askN k H q x).snd.length c1 (ints (askN k H q x).snd), Ch.blk g5 24 [Value.int IntKind.i64 (askN k H q x).fst, Value.slice a1 (askN k H q x).snd.length c1], Ch.blk g1 24 [Value.int IntKind.i64 H, Value.slice a q.length c], Ch.blk g2 41 [Value.int IntKind.i64 k, Value.int IntKind.i64 x]] [] (by kernel_rfl) (by kernel_rfl) trivial ?_
        refine wpr_ent (ent_set 68 (Value.bool ((askN k H q x).fst != x)) (Value.bool false) (by kernel_rfl) (congrArg _ (by simp only [bne_eq_false_iff_eq, beq_eq_false_iff_ne, ne_eq]; omega))) ?_
        refine wpr_run (l₂ := [29, 30, 31, 32, 33, 34, 35, 36, 37, 38, 39, 40, 41, 42, 43, 44, 45]) true [25, 26, 27, 28] [4] [(72, Value.bool (k != 1)), (68, Value.bool false), (7, Value.pointer (some { block := g2, off := 0 })), (5, Value.pointer (some { block := g5, off := 0 })), (4, Value.int IntKind.i64 (↑i : Int)), (3, Value.pointer (some { block := g1, off := 0 })), (2, Value.bool false), (0, Value.slice (some { block := w1, off := o1 }) l.length cl)] [ro (some { block := w1, off := o1 }) (List.flatMap askC l), row 3 1 a1 (askN k H q x).snd.length c1 (ints (askN k H q x).snd), Ch.blk g5 24 [Value.int IntKind.i64 (askN k H q x).fst, Value.slice a1 (askN k H q x).snd.length c1], Ch.blk g1 24 [Value.int IntKind.i64 H, Value.slice a q.length c], Ch.blk g2 41 [Value.int IntKind.i64 k, Value.int IntKind.i64 x]] [] (by kernel_rfl) (by kernel_rfl) trivial ?_
        refine wpr_ent (ent_set 72 (Value.bool (k != 1)) (Value.bool false) (by kernel_rfl) (congrArg _ (by simp only [bne_eq_false_iff_eq, beq_eq_false_iff_ne, ne_eq]; omega))) ?_
        refine wpr_run (l₂ := [39, 40, 41, 42, 43, 44, 45]) true [29, 30, 31, 32, 33, 34, 35, 36, 37, 38] [4] [(82, Value.bool (decide (k ≥ 3))), (78, Value.bool false), (7, Value.pointer (some { block := g2, off := 0 })), (5, Value.pointer (some { block := g5, off := 0 })), (4, Value.int IntKind.i64 (↑i : Int)), (3, Value.pointer (some { block := g1, off := 0 })), (2, Value.bool false), (0, Value.slice (some { block := w1, off := o1 }) l.length cl)] [ro (some { block := w1, off := o1 }) (List.flatMap askC l), row 3 1 a1 (askN k H q x).snd.length c1 (ints (askN k H q x).snd), Ch.blk g5 24 [Value.int IntKind.i64 (askN k H q x).fst, Value.slice a1 (askN k H q x).snd.length c1], Ch.blk g1 24 [Value.int IntKind.i64 H, Value.slice a q.length c], Ch.blk g2 41 [Value.int IntKind.i64 k, Value.int IntKind.i64 x]] [] (by kernel_rfl) (by kernel_rfl) trivial ?_
        refine wpr_ent (ent_set 82 (Value.bool (decide (k ≥ 3))) (Value.bool false) (by kernel_rfl) (congrArg _ (decide_eq_false (by omega)))) ?_
        refine wpr_run (l₂ := []) true [39, 40, 41, 42, 43, 44, 45] [] [(89, Value.bool false), (5, Value.pointer (some { block := g5, off := 0 })), (4, Value.int IntKind.i64 (↑i : Int)), (3, Value.pointer (some { block := g1, off := 0 })), (2, Value.bool false), (0, Value.slice (some { block := w1, off := o1 }) l.length cl)] [ro (some { block := w1, off := o1 }) (List.flatMap askC l), row 3 1 a1 (askN k H q x).snd.length c1 (ints (askN k H q x).snd), Ch.blk g5 24 [Value.int IntKind.i64 (askN k H q x).fst, Value.slice a1 (askN k H q x).snd.length c1], Ch.blk g1 24 [Value.int IntKind.i64 H, Value.slice a q.length c], Ch.blk g2 41 [Value.int IntKind.i64 k, Value.int IntKind.i64 x]] [] (by kernel_rfl) (by kernel_rfl) trivial ?_
        refine wpr_nil ?_
        refine nx_then ?_
        refine wpc_false (by kernel_rfl) ?_
        refine wpc_skip ?_
        refine nx_then ?_
        refine wpc_region [0, 1] (by kernel_rfl) ?_
        refine wpr_run (l₂ := []) true [0, 1] [2, 2, 3, 3] [(4, Value.int IntKind.i64 (↑i : Int)), (3, Value.pointer (some { block := g1, off := 0 })), (2, Value.bool false), (0, Value.slice (some { block := w1, off := o1 }) l.length cl)] [ro (some { block := w1, off := o1 }) (List.flatMap askC l), row 3 1 a1 (askN k H q x).snd.length c1 (ints (askN k H q x).snd), Ch.blk g5 24 [Value.int IntKind.i64 (askN k H q x).fst, Value.slice a1 (askN k H q x).snd.length c1], Ch.blk g1 24 [Value.int IntKind.i64 (askN k H q x).fst, Value.slice a1 (askN k H q x).snd.length c1], Ch.blk g2 41 [Value.int IntKind.i64 k, Value.int IntKind.i64 x]] [] (by kernel_rfl) (by kernel_rfl) trivial ?_
        refine wpr_nil ?_
        refine nx_block ?_
        refine nx_then ?_
        refine wpc_region [0, 1, 2] (by kernel_rfl) ?_
        refine wpr_run (l₂ := []) true [0, 1, 2] [] ([(4, Value.int IntKind.i64 ((↑i : Int) + 1)), (3, Value.pointer (some { block := g1, off := 0 })), (2, Value.bool false), (0, Value.slice (some { block := w1, off := o1 }) l.length cl)]) [ro (some { block := w1, off := o1 }) (List.flatMap askC l), row 3 1 a1 (askN k H q x).snd.length c1 (ints (askN k H q x).snd), Ch.blk g5 24 [Value.int IntKind.i64 (askN k H q x).fst, Value.slice a1 (askN k H q x).snd.length c1], Ch.blk g1 24 [Value.int IntKind.i64 (askN k H q x).fst, Value.slice a1 (askN k H q x).snd.length c1], Ch.blk g2 41 [Value.int IntKind.i64 k, Value.int IntKind.i64 x]] ([inI64 ((↑i : Int) + (1 : Int))]) (by kernel_rfl) (by kernel_rfl) ⟨by unfold inI64; omega, trivial⟩ ?_
        refine wpr_nil ?_
        exact fun a' w' hS' => ⟨⟨i + 1, (askN k H q x).1, (askN k H q x).2, a1, c1, by omega, ok'⟩, by dsimp only; omega, ent_fr (by kernel_rfl) _ _ (ent_hp [0, 0, 1] rfl _ _ hS')⟩
      · have f5 := f5 k1
        by_cases k3 : 3 ≤ k
        · have f6 := f6 k3
          refine wpr_ent (ent_set 60 (Value.bool (k == 1)) (Value.bool false) (by kernel_rfl) (congrArg _ (by simp only [bne_eq_false_iff_eq, beq_eq_false_iff_ne, ne_eq]; omega))) ?_
          refine wpr_run (l₂ := [29, 30, 31, 32, 33, 34, 35, 36, 37, 38, 39, 40, 41, 42, 43, 44, 45]) true [17, 18, 19, 20, 21, 22, 23, 24, 25, 26, 27, 28] [4] [(72, Value.bool (k != 1)), (68, Value.bool false), (7, Value.pointer (some { block := g2, off := 0 })), (5, Value.pointer (some { block := g5, off := 0 })), (4, Value.int IntKind.i64 (↑i : Int)), (3, Value.pointer (some { block := g1, off := 0 })), (2, Value.bool false), (0, Value.slice (some { block := w1, off := o1 }) l.length cl)] [ro (some { block := w1, off := o1 }) (List.flatMap askC l), row 3 1 a1 (askN k H q x).snd.length c1 (ints (askN k H q x).snd), Ch.blk g5 24 [Value.int IntKind.i64 (askN k H q x).fst, Value.slice a1 (askN k H q x).snd.length c1], Ch.blk g1 24 [Value.int IntKind.i64 H, Value.slice a q.length c], Ch.blk g2 41 [Value.int IntKind.i64 k, Value.int IntKind.i64 x]] [] (by kernel_rfl) (by kernel_rfl) trivial ?_
          refine wpr_ent (ent_set 72 (Value.bool (k != 1)) (Value.bool true) (by kernel_rfl) (congrArg _ (by simp only [bne_iff_ne, beq_iff_eq, ne_eq]; omega))) ?_
          refine wpr_run (l₂ := [35, 36, 37, 38, 39, 40, 41, 42, 43, 44, 45]) true [29, 30, 31, 32, 33, 34] [2] [(78, Value.bool ((askN k H q x).fst != 0)), (7, Value.pointer (some { block := g2, off := 0 })), (5, Value.pointer (some { block := g5, off := 0 })), (4, Value.int IntKind.i64 (↑i : Int)), (3, Value.pointer (some { block := g1, off := 0 })), (2, Value.bool false), (0, Value.slice (some { block := w1, off := o1 }) l.length cl)] [ro (some { block := w1, off := o1 }) (List.flatMap askC l), row 3 1 a1 (askN k H q x).snd.length c1 (ints (askN k H q x).snd), Ch.blk g5 24 [Value.int IntKind.i64 (askN k H q x).fst, Value.slice a1 (askN k H q x).snd.length c1], Ch.blk g1 24 [Value.int IntKind.i64 H, Value.slice a q.length c], Ch.blk g2 41 [Value.int IntKind.i64 k, Value.int IntKind.i64 x]] [] (by kernel_rfl) (by kernel_rfl) trivial ?_
          refine wpr_ent (ent_set 78 (Value.bool ((askN k H q x).fst != 0)) (Value.bool false) (by kernel_rfl) (congrArg _ (by simp only [bne_eq_false_iff_eq, beq_eq_false_iff_ne, ne_eq]; omega))) ?_
          refine wpr_run (l₂ := [39, 40, 41, 42, 43, 44, 45]) true [35, 36, 37, 38] [4] [(82, Value.bool (decide (k ≥ 3))), (78, Value.bool false), (7, Value.pointer (some { block := g2, off := 0 })), (5, Value.pointer (some { block := g5, off := 0 })), (4, Value.int IntKind.i64 (↑i : Int)), (3, Value.pointer (some { block := g1, off := 0 })), (2, Value.bool false), (0, Value.slice (some { block := w1, off := o1 }) l.length cl)] [ro (some { block := w1, off := o1 }) (List.flatMap askC l), row 3 1 a1 (askN k H q x).snd.length c1 (ints (askN k H q x).snd), Ch.blk g5 24 [Value.int IntKind.i64 (askN k H q x).fst, Value.slice a1 (askN k H q x).snd.length c1], Ch.blk g1 24 [Value.int IntKind.i64 H, Value.slice a q.length c], Ch.blk g2 41 [Value.int IntKind.i64 k, Value.int IntKind.i64 x]] [] (by kernel_rfl) (by kernel_rfl) trivial ?_
          refine wpr_ent (ent_set 82 (Value.bool (decide (k ≥ 3))) (Value.bool true) (by kernel_rfl) (congrArg _ (decide_eq_true (by omega)))) ?_
          refine wpr_run (l₂ := []) true [39, 40, 41, 42, 43, 44, 45] [3, 4] [(89, Value.bool (H != x)), (5, Value.pointer (some { block := g5, off := 0 })), (4, Value.int IntKind.i64 (↑i : Int)), (3, Value.pointer (some { block := g1, off := 0 })), (2, Value.bool false), (0, Value.slice (some { block := w1, off := o1 }) l.length cl)] [ro (some { block := w1, off := o1 }) (List.flatMap askC l), row 3 1 a1 (askN k H q x).snd.length c1 (ints (askN k H q x).snd), Ch.blk g5 24 [Value.int IntKind.i64 (askN k H q x).fst, Value.slice a1 (askN k H q x).snd.length c1], Ch.blk g1 24 [Value.int IntKind.i64 H, Value.slice a q.length c], Ch.blk g2 41 [Value.int IntKind.i64 k, Value.int IntKind.i64 x]] [] (by kernel_rfl) (by kernel_rfl) trivial ?_
          refine wpr_nil ?_
          refine nx_then ?_
          refine wpc_ent (ent_set 89 (Value.bool (H != x)) (Value.bool false) (by kernel_rfl) (congrArg _ (by simp only [bne_eq_false_iff_eq, beq_eq_false_iff_ne, ne_eq]; omega))) ?_
          refine wpc_false (by kernel_rfl) ?_
          refine wpc_skip ?_
          refine nx_then ?_
          refine wpc_region [0, 1] (by kernel_rfl) ?_
          refine wpr_run (l₂ := []) true [0, 1] [2, 2, 3, 3] [(4, Value.int IntKind.i64 (↑i : Int)), (3, Value.pointer (some { block := g1, off := 0 })), (2, Value.bool false), (0, Value.slice (some { block := w1, off := o1 }) l.length cl)] [ro (some { block := w1, off := o1 }) (List.flatMap askC l), row 3 1 a1 (askN k H q x).snd.length c1 (ints (askN k H q x).snd), Ch.blk g5 24 [Value.int IntKind.i64 (askN k H q x).fst, Value.slice a1 (askN k H q x).snd.length c1], Ch.blk g1 24 [Value.int IntKind.i64 (askN k H q x).fst, Value.slice a1 (askN k H q x).snd.length c1], Ch.blk g2 41 [Value.int IntKind.i64 k, Value.int IntKind.i64 x]] [] (by kernel_rfl) (by kernel_rfl) trivial ?_
          refine wpr_nil ?_
          refine nx_block ?_
          refine nx_then ?_
          refine wpc_region [0, 1, 2] (by kernel_rfl) ?_
          refine wpr_run (l₂ := []) true [0, 1, 2] [] ([(4, Value.int IntKind.i64 ((↑i : Int) + 1)), (3, Value.pointer (some { block := g1, off := 0 })), (2, Value.bool false), (0, Value.slice (some { block := w1, off := o1 }) l.length cl)]) [ro (some { block := w1, off := o1 }) (List.flatMap askC l), row 3 1 a1 (askN k H q x).snd.length c1 (ints (askN k H q x).snd), Ch.blk g5 24 [Value.int IntKind.i64 (askN k H q x).fst, Value.slice a1 (askN k H q x).snd.length c1], Ch.blk g1 24 [Value.int IntKind.i64 (askN k H q x).fst, Value.slice a1 (askN k H q x).snd.length c1], Ch.blk g2 41 [Value.int IntKind.i64 k, Value.int IntKind.i64 x]] ([inI64 ((↑i : Int) + (1 : Int))]) (by kernel_rfl) (by kernel_rfl) ⟨by unfold inI64; omega, trivial⟩ ?_
          refine wpr_nil ?_
          exact fun a' w' hS' => ⟨⟨i + 1, (askN k H q x).1, (askN k H q x).2, a1, c1, by omega, ok'⟩, by dsimp only; omega, ent_fr (by kernel_rfl) _ _ (ent_hp [0, 0, 1] rfl _ _ hS')⟩
        · refine wpr_ent (ent_set 60 (Value.bool (k == 1)) (Value.bool false) (by kernel_rfl) (congrArg _ (by simp only [bne_eq_false_iff_eq, beq_eq_false_iff_ne, ne_eq]; omega))) ?_
          refine wpr_run (l₂ := [29, 30, 31, 32, 33, 34, 35, 36, 37, 38, 39, 40, 41, 42, 43, 44, 45]) true [17, 18, 19, 20, 21, 22, 23, 24, 25, 26, 27, 28] [4] [(72, Value.bool (k != 1)), (68, Value.bool false), (7, Value.pointer (some { block := g2, off := 0 })), (5, Value.pointer (some { block := g5, off := 0 })), (4, Value.int IntKind.i64 (↑i : Int)), (3, Value.pointer (some { block := g1, off := 0 })), (2, Value.bool false), (0, Value.slice (some { block := w1, off := o1 }) l.length cl)] [ro (some { block := w1, off := o1 }) (List.flatMap askC l), row 3 1 a1 (askN k H q x).snd.length c1 (ints (askN k H q x).snd), Ch.blk g5 24 [Value.int IntKind.i64 (askN k H q x).fst, Value.slice a1 (askN k H q x).snd.length c1], Ch.blk g1 24 [Value.int IntKind.i64 H, Value.slice a q.length c], Ch.blk g2 41 [Value.int IntKind.i64 k, Value.int IntKind.i64 x]] [] (by kernel_rfl) (by kernel_rfl) trivial ?_
          refine wpr_ent (ent_set 72 (Value.bool (k != 1)) (Value.bool true) (by kernel_rfl) (congrArg _ (by simp only [bne_iff_ne, beq_iff_eq, ne_eq]; omega))) ?_
          refine wpr_run (l₂ := [35, 36, 37, 38, 39, 40, 41, 42, 43, 44, 45]) true [29, 30, 31, 32, 33, 34] [2] [(78, Value.bool ((askN k H q x).fst != 0)), (7, Value.pointer (some { block := g2, off := 0 })), (5, Value.pointer (some { block := g5, off := 0 })), (4, Value.int IntKind.i64 (↑i : Int)), (3, Value.pointer (some { block := g1, off := 0 })), (2, Value.bool false), (0, Value.slice (some { block := w1, off := o1 }) l.length cl)] [ro (some { block := w1, off := o1 }) (List.flatMap askC l), row 3 1 a1 (askN k H q x).snd.length c1 (ints (askN k H q x).snd), Ch.blk g5 24 [Value.int IntKind.i64 (askN k H q x).fst, Value.slice a1 (askN k H q x).snd.length c1], Ch.blk g1 24 [Value.int IntKind.i64 H, Value.slice a q.length c], Ch.blk g2 41 [Value.int IntKind.i64 k, Value.int IntKind.i64 x]] [] (by kernel_rfl) (by kernel_rfl) trivial ?_
          refine wpr_ent (ent_set 78 (Value.bool ((askN k H q x).fst != 0)) (Value.bool false) (by kernel_rfl) (congrArg _ (by simp only [bne_eq_false_iff_eq, beq_eq_false_iff_ne, ne_eq]; omega))) ?_
          refine wpr_run (l₂ := [39, 40, 41, 42, 43, 44, 45]) true [35, 36, 37, 38] [4] [(82, Value.bool (decide (k ≥ 3))), (78, Value.bool false), (7, Value.pointer (some { block := g2, off := 0 })), (5, Value.pointer (some { block := g5, off := 0 })), (4, Value.int IntKind.i64 (↑i : Int)), (3, Value.pointer (some { block := g1, off := 0 })), (2, Value.bool false), (0, Value.slice (some { block := w1, off := o1 }) l.length cl)] [ro (some { block := w1, off := o1 }) (List.flatMap askC l), row 3 1 a1 (askN k H q x).snd.length c1 (ints (askN k H q x).snd), Ch.blk g5 24 [Value.int IntKind.i64 (askN k H q x).fst, Value.slice a1 (askN k H q x).snd.length c1], Ch.blk g1 24 [Value.int IntKind.i64 H, Value.slice a q.length c], Ch.blk g2 41 [Value.int IntKind.i64 k, Value.int IntKind.i64 x]] [] (by kernel_rfl) (by kernel_rfl) trivial ?_
          refine wpr_ent (ent_set 82 (Value.bool (decide (k ≥ 3))) (Value.bool false) (by kernel_rfl) (congrArg _ (decide_eq_false (by omega)))) ?_
          refine wpr_run (l₂ := []) true [39, 40, 41, 42, 43, 44, 45] [] [(89, Value.bool false), (5, Value.pointer (some { block := g5, off := 0 })), (4, Value.int IntKind.i64 (↑i : Int)), (3, Value.pointer (some { block := g1, off := 0 })), (2, Value.bool false), (0, Value.slice (some { block := w1, off := o1 }) l.length cl)] [ro (some { block := w1, off := o1 }) (List.flatMap askC l), row 3 1 a1 (askN k H q x).snd.length c1 (ints (askN k H q x).snd), Ch.blk g5 24 [Value.int IntKind.i64 (askN k H q x).fst, Value.slice a1 (askN k H q x).snd.length c1], Ch.blk g1 24 [Value.int IntKind.i64 H, Value.slice a q.length c], Ch.blk g2 41 [Value.int IntKind.i64 k, Value.int IntKind.i64 x]] [] (by kernel_rfl) (by kernel_rfl) trivial ?_
          refine wpr_nil ?_
          refine nx_then ?_
          refine wpc_false (by kernel_rfl) ?_
          refine wpc_skip ?_
          refine nx_then ?_
          refine wpc_region [0, 1] (by kernel_rfl) ?_
          refine wpr_run (l₂ := []) true [0, 1] [2, 2, 3, 3] [(4, Value.int IntKind.i64 (↑i : Int)), (3, Value.pointer (some { block := g1, off := 0 })), (2, Value.bool false), (0, Value.slice (some { block := w1, off := o1 }) l.length cl)] [ro (some { block := w1, off := o1 }) (List.flatMap askC l), row 3 1 a1 (askN k H q x).snd.length c1 (ints (askN k H q x).snd), Ch.blk g5 24 [Value.int IntKind.i64 (askN k H q x).fst, Value.slice a1 (askN k H q x).snd.length c1], Ch.blk g1 24 [Value.int IntKind.i64 (askN k H q x).fst, Value.slice a1 (askN k H q x).snd.length c1], Ch.blk g2 41 [Value.int IntKind.i64 k, Value.int IntKind.i64 x]] [] (by kernel_rfl) (by kernel_rfl) trivial ?_
          refine wpr_nil ?_
          refine nx_block ?_
          refine nx_then ?_
          refine wpc_region [0, 1, 2] (by kernel_rfl) ?_
          refine wpr_run (l₂ := []) true [0, 1, 2] [] ([(4, Value.int IntKind.i64 ((↑i : Int) + 1)), (3, Value.pointer (some { block := g1, off := 0 })), (2, Value.bool false), (0, Value.slice (some { block := w1, off := o1 }) l.length cl)]) [ro (some { block := w1, off := o1 }) (List.flatMap askC l), row 3 1 a1 (askN k H q x).snd.length c1 (ints (askN k H q x).snd), Ch.blk g5 24 [Value.int IntKind.i64 (askN k H q x).fst, Value.slice a1 (askN k H q x).snd.length c1], Ch.blk g1 24 [Value.int IntKind.i64 (askN k H q x).fst, Value.slice a1 (askN k H q x).snd.length c1], Ch.blk g2 41 [Value.int IntKind.i64 k, Value.int IntKind.i64 x]] ([inI64 ((↑i : Int) + (1 : Int))]) (by kernel_rfl) (by kernel_rfl) ⟨by unfold inI64; omega, trivial⟩ ?_
          refine wpr_nil ?_
          exact fun a' w' hS' => ⟨⟨i + 1, (askN k H q x).1, (askN k H q x).2, a1, c1, by omega, ok'⟩, by dsimp only; omega, ent_fr (by kernel_rfl) _ _ (ent_hp [0, 0, 1] rfl _ _ hS')⟩
  refine wpc_exit ?_
  refine nx_then_exit ?_
  refine nx_then_exit ?_
  refine nx_block_here ?_
  refine nx_then ?_
  refine wpc_seq ?_
  refine wpc_region [0, 1] (by kernel_rfl) ?_
  refine wpr_call (dst := some 91) (rest := [ro al (List.flatMap askC l), row 3 1 a q.length c (ints q), Ch.blk g1 24 [Value.int IntKind.i64 H, Value.slice a q.length c]]) (by kernel_rfl) (lives_spec) (give [] (by kernel_rfl)) ?_
  rintro v hp' ⟨rfl, rfl⟩
  refine wpr_run (l₂ := []) true [1] [] [(2, Value.bool true)] [ro al (List.flatMap askC l), row 3 1 a q.length c (ints q), Ch.blk g1 24 [Value.int IntKind.i64 H, Value.slice a q.length c]] [] (by kernel_rfl) (by kernel_rfl) trivial ?_
  refine wpr_nil ?_
  refine nx_then ?_
  refine wpc_ret ?_
  refine nx_end (hp' := []) (rest := [ro al (List.flatMap askC l), row 3 1 a q.length c (ints q), Ch.blk g1 24 [Value.int IntKind.i64 H, Value.slice a q.length c]]) [] ((Value.bool true)) (by kernel_rfl) (by kernel_rfl) (give [] (by kernel_rfl)) (by first | ((repeat (first | exact trivial | refine ⟨trivial, ?_⟩)); done) | assumption) ?_ (.inr rfl)
  exact ⟨rfl, rfl⟩
end Go.Proofs.Ytoagfnobfbfdfaa
