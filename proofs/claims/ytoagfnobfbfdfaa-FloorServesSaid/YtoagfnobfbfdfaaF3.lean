import Derived.Test.YtoagfnobfbfdfaaF2
import Derived.Test.YtoagfnobfbfdfaaX13
namespace Go.Proofs.Ytoagfnobfbfdfaa
open Go Go.Sx
set_option linter.unusedVariables false
set_option linter.unusedSimpArgs false

/-- A floor as a value. -/
def fl (H : Int) (a : Option Addr) (n c : Nat) : Value := .agg #[.int .i64 H, .slice a n c]

structure CX (H : Int) (l : List Int) where
  i : Nat
  hi : i ≤ l.length
  h : ∀ j (hj : j < i), cl (l[j]'(by omega)) = true ∧ l[j]'(by omega) ≠ H ∧ l[j]'(by omega) ∉ l.take j

theorem Check_spec (H : Int) (a : Option Addr) (c : Nat) (l : List Int) (ha : a = none → l = []) (hl : l.length ≤ 1099511627776) (hc : l.length ≤ c) :
    Does Try.prog 16 [fl H a l.length c] [ro a (ints l)] (fun r hp' => r = .int .i64 (chk H l) ∧ hp' = []) := by
  unfold fl
  have hno : ¬ Ok H l → chk H l = 4 := fun h => if_neg h
  by_cases hH : H = 0 ∨ cl H = true
  · refine fn_enter Try.func16 rfl 46 rfl fun w0 h0 => ?_
    refine wpc_seq ?_
    refine wpc_region [0, 1] (by kernel_rfl) ?_
    refine wpr_new (l₂ := [1]) true [0] [] (fun g1 => [(1, Value.pointer (some { block := g1, off := 0 }))]) (fun g1 => [ro a (ints l), Ch.blk g1 24 [Value.int IntKind.i64 H, Value.slice a l.length c]]) (fun g1 => []) (fun g1 => by kernel_rfl) (fun g1 => by kernel_rfl) (fun g1 => trivial) fun g1 => ?_
    refine wpr_run (l₂ := []) true [1] [] [(2, Value.int IntKind.i64 0), (1, Value.pointer (some { block := g1, off := 0 }))] [ro a (ints l), Ch.blk g1 24 [Value.int IntKind.i64 H, Value.slice a l.length c]] [] (by kernel_rfl) (by kernel_rfl) trivial ?_
    refine wpr_nil ?_
    refine nx_then ?_
    refine wpc_seq ?_
    refine wpc_seq ?_
    refine wpc_region [0, 1, 2, 3, 4, 5, 6, 7, 8, 9, 10, 11, 12, 13, 14] (by kernel_rfl) ?_
    refine wpr_run (l₂ := [4, 5, 6, 7, 8, 9, 10, 11, 12, 13, 14]) true [0, 1, 2, 3] [1] [(8, Value.bool (H != 0)), (2, Value.int IntKind.i64 0), (1, Value.pointer (some { block := g1, off := 0 }))] [ro a (ints l), Ch.blk g1 24 [Value.int IntKind.i64 H, Value.slice a l.length c]] [] (by kernel_rfl) (by kernel_rfl) trivial ?_
    refine wpr_join ⟨[(19, Value.bool (decide ((l.length : Int) > 4))), (2, (Value.int IntKind.i64 0)), (1, (Value.pointer (some { block := g1, off := 0 })))], [ro a (ints l), Ch.blk g1 24 [Value.int IntKind.i64 H, Value.slice a l.length c]]⟩ (fun Q1 hQ1 hk => ?_) ?_
    · by_cases hz : H = 0
      · subst hz
        refine wpr_run (l₂ := []) true [4, 5, 6, 7, 8, 9, 10, 11, 12, 13, 14] [1] [(19, Value.bool (decide ((↑l.length : Int) > 4))), (2, Value.int IntKind.i64 0), (1, Value.pointer (some { block := g1, off := 0 }))] [ro a (ints l), Ch.blk g1 24 [Value.int IntKind.i64 0, Value.slice a l.length c]] [] (by kernel_rfl) (by kernel_rfl) trivial ?_
        refine wpr_nil ?_
        exact nx_ent (ent_fr (by kernel_rfl)) hk
      · refine wpr_ent (ent_set 8 (Value.bool (H != 0)) (Value.bool true) (by kernel_rfl) (congrArg _ (by simpa using hz))) ?_
        refine wpr_run (l₂ := [6, 7, 8, 9, 10, 11, 12, 13, 14]) true [4, 5] [1] [(10, Value.int IntKind.i64 H), (8, Value.bool true), (2, Value.int IntKind.i64 0), (1, Value.pointer (some { block := g1, off := 0 }))] [ro a (ints l), Ch.blk g1 24 [Value.int IntKind.i64 H, Value.slice a l.length c]] [] (by kernel_rfl) (by kernel_rfl) trivial ?_
        refine wpr_call (dst := some 11) (rest := [ro a (ints l), Ch.blk g1 24 [Value.int IntKind.i64 H, Value.slice a l.length c]]) (by kernel_rfl) (client_spec H) (give [] (by kernel_rfl)) ?_
        rintro v hp' ⟨rfl, rfl⟩
        rw [hH.resolve_left hz]
        refine wpr_run (l₂ := []) true [7, 8, 9, 10, 11, 12, 13, 14] [1] [(19, Value.bool (decide ((↑l.length : Int) > 4))), (2, Value.int IntKind.i64 0), (1, Value.pointer (some { block := g1, off := 0 }))] [ro a (ints l), Ch.blk g1 24 [Value.int IntKind.i64 H, Value.slice a l.length c]] [] (by kernel_rfl) (by kernel_rfl) trivial ?_
        refine wpr_nil ?_
        exact nx_ent (ent_fr (by kernel_rfl)) hk
    refine nx_then ?_
    refine wpc_if (((↑l.length : Int) > 4)) (by kernel_rfl) (fun h4 => ?_) (fun h4 => ?_)
    · refine wpc_seq ?_
      refine wpc_region [0] (by kernel_rfl) ?_
      refine wpr_run (l₂ := []) true [0] [] [(2, Value.int IntKind.i64 4), (1, Value.pointer (some { block := g1, off := 0 }))] [ro a (ints l), Ch.blk g1 24 [Value.int IntKind.i64 H, Value.slice a l.length c]] [] (by kernel_rfl) (by kernel_rfl) trivial ?_
      refine wpr_nil ?_
      refine nx_then ?_
      refine wpc_ret ?_
      refine nx_then_ret ?_
      refine nx_end (hp' := []) (rest := [ro a (ints l), Ch.blk g1 24 [Value.int IntKind.i64 H, Value.slice a l.length c]]) [] ((Value.int IntKind.i64 4)) (by kernel_rfl) (by kernel_rfl) (give [] (by kernel_rfl)) (by first | ((repeat (first | exact trivial | refine ⟨trivial, ?_⟩)); done) | assumption) ?_ (.inr rfl)
      exact ⟨by rw [hno (fun h => absurd h.2.1 (by omega))], rfl⟩
    refine wpc_skip ?_
    refine nx_then ?_
    refine wpc_seq ?_
    refine wpc_seq ?_
    refine wpc_region [0, 1, 2, 3] (by kernel_rfl) ?_
    refine wpr_run (l₂ := []) true [0, 1, 2, 3] [1] [(23, Value.int IntKind.i64 0), (22, Value.int IntKind.i64 (↑l.length : Int)), (21, Value.slice a l.length c), (2, Value.int IntKind.i64 0), (1, Value.pointer (some { block := g1, off := 0 }))] [ro a (ints l), Ch.blk g1 24 [Value.int IntKind.i64 H, Value.slice a l.length c]] [] (by kernel_rfl) (by kernel_rfl) trivial ?_
    refine wpr_nil ?_
    refine nx_then ?_
    refine wpc_block ?_
    refine wpc_loop (X := CX H l) (fun x => St.mk [(23, .int .i64 (x.i : Int)), (22, .int .i64 (l.length : Int)), (21, .slice a l.length c), (2, .int .i64 0), (1, .pointer (some ⟨g1, 0, none⟩))] [ro a (ints l), .blk g1 24 [.int .i64 H, .slice a l.length c]]) (fun x => l.length - x.i) ⟨0, Nat.zero_le _, fun j hj => absurd hj (by omega)⟩ (ent_fr (by kernel_rfl)) ?_
    rintro ⟨i, hi, h⟩
    dsimp only
    refine wpc_seq ?_
    refine wpc_region [0] (by kernel_rfl) ?_
    refine wpr_run (l₂ := []) true [0] [] [(24, Value.bool (decide ((↑i : Int) < (↑l.length : Int)))), (23, Value.int IntKind.i64 (↑i : Int)), (22, Value.int IntKind.i64 (↑l.length : Int)), (21, Value.slice a l.length c), (2, Value.int IntKind.i64 0), (1, Value.pointer (some { block := g1, off := 0 }))] [ro a (ints l), Ch.blk g1 24 [Value.int IntKind.i64 H, Value.slice a l.length c]] [] (by kernel_rfl) (by kernel_rfl) trivial ?_
    refine wpr_nil ?_
    refine nx_then ?_
    refine wpc_seq ?_
    refine wpc_if (((↑i : Int) < (↑l.length : Int))) (by kernel_rfl) (fun hlt => ?_) (fun hlt => ?_)
    · have hil : i < l.length := by omega
      have hbad : (cl l[i] = true → l[i] ≠ H → l[i] ∉ l.take i → False) → ¬ Ok H l := fun hf hok => hf (hok.2.2.1 _ (List.getElem_mem hil)).1 (hok.2.2.1 _ (List.getElem_mem hil)).2 ((nodup_take l).1 hok.2.2.2 i hil)
      refine wpc_fact (fun w h => ro_addr h 0 rfl (by rw [ints_len]; omega)) ?_
      rintro ⟨w1, o1, rfl⟩
      refine wpc_skip ?_
      refine nx_then ?_
      refine wpc_seq ?_
      refine wpc_block ?_
      refine wpc_seq ?_
      refine wpc_region [0, 1, 2, 3, 4] (by kernel_rfl) ?_
      refine wpr_run (l₂ := [2, 3, 4]) true [0, 1] [] ([(26, Value.pointer (some { block := w1, off := o1 + i * 1 })), (25, Value.int IntKind.i64 (↑i : Int)), (23, Value.int IntKind.i64 (↑i : Int)), (22, Value.int IntKind.i64 (↑l.length : Int)), (21, Value.slice (some { block := w1, off := o1 }) l.length c), (2, Value.int IntKind.i64 0), (1, Value.pointer (some { block := g1, off := 0 }))]) [ro (some { block := w1, off := o1 }) (ints l), Ch.blk g1 24 [Value.int IntKind.i64 H, Value.slice (some { block := w1, off := o1 }) l.length c]] [(0 : Int) ≤ (↑i : Int) ∧ (↑i : Int) < (↑l.length : Int)] (by kernel_rfl) (by kernel_rfl) ⟨by omega, trivial⟩ ?_
      refine wpr_eq (ld (t := 3) (a := ({ block := w1, off := o1 + i * 1 })) (dst := some 27) (by kernel_rfl) false 1 (by kernel_rfl) (by simp) [.int .i64 l[i]] rfl (fun w h => ld_ro h 0 rfl (i * 1) (ints_at hil))) ?_
      refine wpr_run (l₂ := []) true [3, 4] [] [(4, Value.int IntKind.i64 l[i]), (3, Value.int IntKind.i64 (↑i : Int)), (23, Value.int IntKind.i64 (↑i : Int)), (22, Value.int IntKind.i64 (↑l.length : Int)), (21, Value.slice (some { block := w1, off := o1 }) l.length c), (2, Value.int IntKind.i64 0), (1, Value.pointer (some { block := g1, off := 0 }))] [ro (some { block := w1, off := o1 }) (ints l), Ch.blk g1 24 [Value.int IntKind.i64 H, Value.slice (some { block := w1, off := o1 }) l.length c]] [] (by kernel_rfl) (by kernel_rfl) trivial ?_
      refine wpr_nil ?_
      refine nx_then ?_
      refine wpc_seq ?_
      refine wpc_region [0, 1, 2, 3, 4, 5, 6, 7, 8, 9, 10, 11, 12, 13, 14, 15, 16] (by kernel_rfl) ?_
      refine wpr_run (l₂ := [1, 2, 3, 4, 5, 6, 7, 8, 9, 10, 11, 12, 13, 14, 15, 16]) true [0] [] [(28, Value.int IntKind.i64 l[i]), (4, Value.int IntKind.i64 l[i]), (3, Value.int IntKind.i64 (↑i : Int)), (23, Value.int IntKind.i64 (↑i : Int)), (22, Value.int IntKind.i64 (↑l.length : Int)), (21, Value.slice (some { block := w1, off := o1 }) l.length c), (2, Value.int IntKind.i64 0), (1, Value.pointer (some { block := g1, off := 0 }))] [ro (some { block := w1, off := o1 }) (ints l), Ch.blk g1 24 [Value.int IntKind.i64 H, Value.slice (some { block := w1, off := o1 }) l.length c]] [] (by kernel_rfl) (by kernel_rfl) trivial ?_
      refine wpr_call (dst := some 29) (rest := [ro (some { block := w1, off := o1 }) (ints l), Ch.blk g1 24 [Value.int IntKind.i64 H, Value.slice (some { block := w1, off := o1 }) l.length c]]) (by kernel_rfl) (client_spec l[i]) (give [] (by kernel_rfl)) ?_
      rintro v hp' ⟨rfl, rfl⟩
      cases hcl : cl l[i]
      · refine wpr_run (l₂ := []) true [2, 3, 4, 5, 6, 7, 8, 9, 10, 11, 12, 13, 14, 15, 16] [] [(44, Value.bool true), (23, Value.int IntKind.i64 (↑i : Int)), (22, Value.int IntKind.i64 (↑l.length : Int)), (21, Value.slice (some { block := w1, off := o1 }) l.length c), (2, Value.int IntKind.i64 0), (1, Value.pointer (some { block := g1, off := 0 }))] [ro (some { block := w1, off := o1 }) (ints l), Ch.blk g1 24 [Value.int IntKind.i64 H, Value.slice (some { block := w1, off := o1 }) l.length c]] [] (by kernel_rfl) (by kernel_rfl) trivial ?_
        refine wpr_nil ?_
        refine nx_then ?_
        refine wpc_true (by kernel_rfl) ?_
        refine wpc_seq ?_
        refine wpc_region [0] (by kernel_rfl) ?_
        refine wpr_run (l₂ := []) true [0] [] [(2, Value.int IntKind.i64 4), (23, Value.int IntKind.i64 (↑i : Int)), (22, Value.int IntKind.i64 (↑l.length : Int)), (21, Value.slice (some { block := w1, off := o1 }) l.length c), (1, Value.pointer (some { block := g1, off := 0 }))] [ro (some { block := w1, off := o1 }) (ints l), Ch.blk g1 24 [Value.int IntKind.i64 H, Value.slice (some { block := w1, off := o1 }) l.length c]] [] (by kernel_rfl) (by kernel_rfl) trivial ?_
        refine wpr_nil ?_
        refine nx_then ?_
        refine wpc_ret ?_
        refine nx_block_ret ?_
        refine nx_then_ret ?_
        refine nx_then_ret ?_
        refine nx_block_ret ?_
        refine nx_then_ret ?_
        refine nx_end (hp' := []) (rest := [ro (some { block := w1, off := o1 }) (ints l), Ch.blk g1 24 [Value.int IntKind.i64 H, Value.slice (some { block := w1, off := o1 }) l.length c]]) [] ((Value.int IntKind.i64 4)) (by kernel_rfl) (by kernel_rfl) (give [] (by kernel_rfl)) (by first | ((repeat (first | exact trivial | refine ⟨trivial, ?_⟩)); done) | assumption) ?_ (.inr rfl)
        exact ⟨by rw [hno (hbad fun h => by rw [hcl] at h; cases h)], rfl⟩
      refine wpr_run (l₂ := [10, 11, 12, 13, 14, 15, 16]) true [2, 3, 4, 5, 6, 7, 8, 9] [1] [(37, Value.bool (l[i] == H)), (4, Value.int IntKind.i64 l[i]), (3, Value.int IntKind.i64 (↑i : Int)), (23, Value.int IntKind.i64 (↑i : Int)), (22, Value.int IntKind.i64 (↑l.length : Int)), (21, Value.slice (some { block := w1, off := o1 }) l.length c), (2, Value.int IntKind.i64 0), (1, Value.pointer (some { block := g1, off := 0 }))] [ro (some { block := w1, off := o1 }) (ints l), Ch.blk g1 24 [Value.int IntKind.i64 H, Value.slice (some { block := w1, off := o1 }) l.length c]] [] (by kernel_rfl) (by kernel_rfl) trivial ?_
      by_cases heq : l[i] = H
      · refine wpr_ent (ent_set 37 (Value.bool (l[i] == H)) (Value.bool true) (by kernel_rfl) (congrArg _ (by simpa using heq))) ?_
        refine wpr_run (l₂ := []) true [10, 11, 12, 13, 14, 15, 16] [] [(44, Value.bool true), (23, Value.int IntKind.i64 (↑i : Int)), (22, Value.int IntKind.i64 (↑l.length : Int)), (21, Value.slice (some { block := w1, off := o1 }) l.length c), (2, Value.int IntKind.i64 0), (1, Value.pointer (some { block := g1, off := 0 }))] [ro (some { block := w1, off := o1 }) (ints l), Ch.blk g1 24 [Value.int IntKind.i64 H, Value.slice (some { block := w1, off := o1 }) l.length c]] [] (by kernel_rfl) (by kernel_rfl) trivial ?_
        refine wpr_nil ?_
        refine nx_then ?_
        refine wpc_true (by kernel_rfl) ?_
        refine wpc_seq ?_
        refine wpc_region [0] (by kernel_rfl) ?_
        refine wpr_run (l₂ := []) true [0] [] [(2, Value.int IntKind.i64 4), (23, Value.int IntKind.i64 (↑i : Int)), (22, Value.int IntKind.i64 (↑l.length : Int)), (21, Value.slice (some { block := w1, off := o1 }) l.length c), (1, Value.pointer (some { block := g1, off := 0 }))] [ro (some { block := w1, off := o1 }) (ints l), Ch.blk g1 24 [Value.int IntKind.i64 H, Value.slice (some { block := w1, off := o1 }) l.length c]] [] (by kernel_rfl) (by kernel_rfl) trivial ?_
        refine wpr_nil ?_
        refine nx_then ?_
        refine wpc_ret ?_
        refine nx_block_ret ?_
        refine nx_then_ret ?_
        refine nx_then_ret ?_
        refine nx_block_ret ?_
        refine nx_then_ret ?_
        refine nx_end (hp' := []) (rest := [ro (some { block := w1, off := o1 }) (ints l), Ch.blk g1 24 [Value.int IntKind.i64 H, Value.slice (some { block := w1, off := o1 }) l.length c]]) [] ((Value.int IntKind.i64 4)) (by kernel_rfl) (by kernel_rfl) (give [] (by kernel_rfl)) (by first | ((repeat (first | exact trivial | refine ⟨trivial, ?_⟩)); done) | assumption) ?_ (.inr rfl)
        exact ⟨by rw [hno (hbad fun _ h => absurd heq h)], rfl⟩
      refine wpr_ent (ent_set 37 (Value.bool (l[i] == H)) (Value.bool false) (by kernel_rfl) (congrArg _ (by simpa using heq))) ?_
      refine wpr_run (l₂ := [15, 16]) true [10, 11, 12, 13, 14] [1] [(42, Value.int IntKind.i64 l[i]), (41, Value.slice (some { block := w1, off := o1 }) i c), (37, Value.bool false), (23, Value.int IntKind.i64 (↑i : Int)), (22, Value.int IntKind.i64 (↑l.length : Int)), (21, Value.slice (some { block := w1, off := o1 }) l.length c), (2, Value.int IntKind.i64 0), (1, Value.pointer (some { block := g1, off := 0 }))] [ro (some { block := w1, off := o1 }) (ints l), Ch.blk g1 24 [Value.int IntKind.i64 H, Value.slice (some { block := w1, off := o1 }) l.length c]] [(0 : Int) ≤ (↑i : Int) ∧ (↑i : Int) ≤ (↑c : Int)] (by kernel_rfl) (by kernel_rfl) ⟨by omega, trivial⟩ ?_
      have hT : (l.take i).length = i := by rw [List.length_take]; omega
      refine wpr_ent (ent_set 41 (Value.slice (some { block := w1, off := o1 }) i c) (Value.slice (some ⟨w1, o1, none⟩) (l.take i).length c) (by kernel_rfl) (by rw [hT])) ?_
      refine wpr_ent (ent_copy 0 (ro (some ⟨w1, o1, none⟩) (ints (l.take i))) rfl (fun h => h) (by rw [← ints_take]; exact view_front i)) ?_
      refine wpr_call (dst := some 43) (rest := [ro (some { block := w1, off := o1 }) (ints (List.take i l)), ro (some { block := w1, off := o1 }) (ints l), Ch.blk g1 24 [Value.int IntKind.i64 H, Value.slice (some { block := w1, off := o1 }) l.length c]]) (by kernel_rfl) (Contains_spec (some ⟨w1, o1, none⟩) c (l.take i) l[i] (fun e => nomatch e) (by omega)) (Give.view (c := (ro (some { block := w1, off := o1 }) (ints (List.take i l)))) (give (pre := []) (rest := [ro (some { block := w1, off := o1 }) (ints (List.take i l)), ro (some { block := w1, off := o1 }) (ints l), Ch.blk g1 24 [Value.int IntKind.i64 H, Value.slice (some { block := w1, off := o1 }) l.length c]]) [] (by kernel_rfl)) 0 (by kernel_rfl) view_ro) ?_
      rintro v hp' ⟨rfl, rfl⟩
      by_cases hin : l[i] ∈ l.take i
      · rw [decide_eq_true hin]
        refine wpr_run (l₂ := []) true [16] [] [(44, Value.bool true), (23, Value.int IntKind.i64 (↑i : Int)), (22, Value.int IntKind.i64 (↑l.length : Int)), (21, Value.slice (some { block := w1, off := o1 }) l.length c), (2, Value.int IntKind.i64 0), (1, Value.pointer (some { block := g1, off := 0 }))] [ro (some { block := w1, off := o1 }) (ints (List.take i l)), ro (some { block := w1, off := o1 }) (ints l), Ch.blk g1 24 [Value.int IntKind.i64 H, Value.slice (some { block := w1, off := o1 }) l.length c]] [] (by kernel_rfl) (by kernel_rfl) trivial ?_
        refine wpr_nil ?_
        refine nx_then ?_
        refine wpc_true (by kernel_rfl) ?_
        refine wpc_seq ?_
        refine wpc_region [0] (by kernel_rfl) ?_
        refine wpr_run (l₂ := []) true [0] [] [(2, Value.int IntKind.i64 4), (23, Value.int IntKind.i64 (↑i : Int)), (22, Value.int IntKind.i64 (↑l.length : Int)), (21, Value.slice (some { block := w1, off := o1 }) l.length c), (1, Value.pointer (some { block := g1, off := 0 }))] [ro (some { block := w1, off := o1 }) (ints (List.take i l)), ro (some { block := w1, off := o1 }) (ints l), Ch.blk g1 24 [Value.int IntKind.i64 H, Value.slice (some { block := w1, off := o1 }) l.length c]] [] (by kernel_rfl) (by kernel_rfl) trivial ?_
        refine wpr_nil ?_
        refine nx_then ?_
        refine wpc_ret ?_
        refine nx_block_ret ?_
        refine nx_then_ret ?_
        refine nx_then_ret ?_
        refine nx_block_ret ?_
        refine nx_then_ret ?_
        refine nx_end (hp' := []) (rest := [ro (some { block := w1, off := o1 }) (ints (List.take i l)), ro (some { block := w1, off := o1 }) (ints l), Ch.blk g1 24 [Value.int IntKind.i64 H, Value.slice (some { block := w1, off := o1 }) l.length c]]) [] ((Value.int IntKind.i64 4)) (by kernel_rfl) (by kernel_rfl) (give [] (by kernel_rfl)) (by first | ((repeat (first | exact trivial | refine ⟨trivial, ?_⟩)); done) | assumption) ?_ (.inr rfl)
        exact ⟨by rw [hno (hbad fun _ _ h => absurd hin h)], rfl⟩
      rw [decide_eq_false hin]
      refine wpr_run (l₂ := []) true [16] [] [(44, Value.bool false), (23, Value.int IntKind.i64 (↑i : Int)), (22, Value.int IntKind.i64 (↑l.length : Int)), (21, Value.slice (some { block := w1, off := o1 }) l.length c), (2, Value.int IntKind.i64 0), (1, Value.pointer (some { block := g1, off := 0 }))] [ro (some { block := w1, off := o1 }) (ints (List.take i l)), ro (some { block := w1, off := o1 }) (ints l), Ch.blk g1 24 [Value.int IntKind.i64 H, Value.slice (some { block := w1, off := o1 }) l.length c]] [] (by kernel_rfl) (by kernel_rfl) trivial ?_
      refine wpr_nil ?_
      refine nx_then ?_
      refine wpc_false (by kernel_rfl) ?_
      refine wpc_skip ?_
      refine nx_block ?_
      refine nx_then ?_
      refine wpc_region [0, 1] (by kernel_rfl) ?_
      refine wpr_run (l₂ := []) true [0, 1] [] ([(23, Value.int IntKind.i64 ((↑i : Int) + 1)), (22, Value.int IntKind.i64 (↑l.length : Int)), (21, Value.slice (some { block := w1, off := o1 }) l.length c), (2, Value.int IntKind.i64 0), (1, Value.pointer (some { block := g1, off := 0 }))]) [ro (some { block := w1, off := o1 }) (ints (List.take i l)), ro (some { block := w1, off := o1 }) (ints l), Ch.blk g1 24 [Value.int IntKind.i64 H, Value.slice (some { block := w1, off := o1 }) l.length c]] ([inI64 ((↑i : Int) + (1 : Int))]) (by kernel_rfl) (by kernel_rfl) ⟨by unfold inI64; omega, trivial⟩ ?_
      refine wpr_nil ?_
      exact fun a' w' hS' => ⟨⟨i + 1, by omega, fun j hj => by
              rcases Nat.lt_or_ge j i with h1 | h1
              · exact h j h1
              · have : j = i := by omega
                subst this; exact ⟨hcl, heq, hin⟩⟩, by dsimp only; omega, ent_fr (by kernel_rfl) _ _ (ent_hp [1, 1] rfl _ _ hS')⟩
    · refine wpc_exit ?_
      refine nx_then_exit ?_
      refine nx_then_exit ?_
      refine nx_block_here ?_
      refine nx_then ?_
      refine wpc_seq ?_
      refine wpc_region [0] (by kernel_rfl) ?_
      refine wpr_run (l₂ := []) true [0] [] [(2, Value.int IntKind.i64 0)] [ro a (ints l), Ch.blk g1 24 [Value.int IntKind.i64 H, Value.slice a l.length c]] [] (by kernel_rfl) (by kernel_rfl) trivial ?_
      refine wpr_nil ?_
      refine nx_then ?_
      refine wpc_ret ?_
      refine nx_end (hp' := []) (rest := [ro a (ints l), Ch.blk g1 24 [Value.int IntKind.i64 H, Value.slice a l.length c]]) [] ((Value.int IntKind.i64 0)) (by kernel_rfl) (by kernel_rfl) (give [] (by kernel_rfl)) (by first | ((repeat (first | exact trivial | refine ⟨trivial, ?_⟩)); done) | assumption) ?_ (.inr rfl)
      exact ⟨by rw [chk, if_pos (ok_take H l hH (by omega) fun j hj => h j (by omega))], rfl⟩
  · have hz : H ≠ 0 := fun h => hH (.inl h)
    have h1 : cl H = false := by
      cases hc : cl H
      · rfl
      · exact absurd (.inr hc) hH
    refine fn_enter Try.func16 rfl 46 rfl fun w0 h0 => ?_
    refine wpc_seq ?_
    refine wpc_region [0, 1] (by kernel_rfl) ?_
    refine wpr_new (l₂ := [1]) true [0] [] (fun g1 => [(1, Value.pointer (some { block := g1, off := 0 }))]) (fun g1 => [ro a (ints l), Ch.blk g1 24 [Value.int IntKind.i64 H, Value.slice a l.length c]]) (fun g1 => []) (fun g1 => by kernel_rfl) (fun g1 => by kernel_rfl) (fun g1 => trivial) fun g1 => ?_
    refine wpr_run (l₂ := []) true [1] [] [(2, Value.int IntKind.i64 0), (1, Value.pointer (some { block := g1, off := 0 }))] [ro a (ints l), Ch.blk g1 24 [Value.int IntKind.i64 H, Value.slice a l.length c]] [] (by kernel_rfl) (by kernel_rfl) trivial ?_
    refine wpr_nil ?_
    refine nx_then ?_
    refine wpc_seq ?_
    refine wpc_seq ?_
    refine wpc_region [0, 1, 2, 3, 4, 5, 6, 7, 8, 9, 10, 11, 12, 13, 14] (by kernel_rfl) ?_
    refine wpr_run (l₂ := [4, 5, 6, 7, 8, 9, 10, 11, 12, 13, 14]) true [0, 1, 2, 3] [1] [(8, Value.bool (H != 0)), (2, Value.int IntKind.i64 0), (1, Value.pointer (some { block := g1, off := 0 }))] [ro a (ints l), Ch.blk g1 24 [Value.int IntKind.i64 H, Value.slice a l.length c]] [] (by kernel_rfl) (by kernel_rfl) trivial ?_
    refine wpr_ent (ent_set 8 (Value.bool (H != 0)) (Value.bool true) (by kernel_rfl) (congrArg _ (by simpa using hz))) ?_
    refine wpr_run (l₂ := [6, 7, 8, 9, 10, 11, 12, 13, 14]) true [4, 5] [1] [(10, Value.int IntKind.i64 H), (8, Value.bool true), (2, Value.int IntKind.i64 0), (1, Value.pointer (some { block := g1, off := 0 }))] [ro a (ints l), Ch.blk g1 24 [Value.int IntKind.i64 H, Value.slice a l.length c]] [] (by kernel_rfl) (by kernel_rfl) trivial ?_
    refine wpr_call (dst := some 11) (rest := [ro a (ints l), Ch.blk g1 24 [Value.int IntKind.i64 H, Value.slice a l.length c]]) (by kernel_rfl) (client_spec H) (give [] (by kernel_rfl)) ?_
    rintro v hp' ⟨rfl, rfl⟩
    rw [h1]
    refine wpr_run (l₂ := []) true [7, 8, 9, 10, 11, 12, 13, 14] [] [(19, Value.bool true), (2, Value.int IntKind.i64 0), (1, Value.pointer (some { block := g1, off := 0 }))] [ro a (ints l), Ch.blk g1 24 [Value.int IntKind.i64 H, Value.slice a l.length c]] [] (by kernel_rfl) (by kernel_rfl) trivial ?_
    refine wpr_nil ?_
    refine nx_then ?_
    refine wpc_true (by kernel_rfl) ?_
    refine wpc_seq ?_
    refine wpc_region [0] (by kernel_rfl) ?_
    refine wpr_run (l₂ := []) true [0] [] [(2, Value.int IntKind.i64 4), (1, Value.pointer (some { block := g1, off := 0 }))] [ro a (ints l), Ch.blk g1 24 [Value.int IntKind.i64 H, Value.slice a l.length c]] [] (by kernel_rfl) (by kernel_rfl) trivial ?_
    refine wpr_nil ?_
    refine nx_then ?_
    refine wpc_ret ?_
    refine nx_then_ret ?_
    refine nx_end (hp' := []) (rest := [ro a (ints l), Ch.blk g1 24 [Value.int IntKind.i64 H, Value.slice a l.length c]]) [] ((Value.int IntKind.i64 4)) (by kernel_rfl) (by kernel_rfl) (give [] (by kernel_rfl)) (by first | ((repeat (first | exact trivial | refine ⟨trivial, ?_⟩)); done) | assumption) ?_ (.inr rfl)
    exact ⟨by rw [hno (fun h => hH h.1)], rfl⟩

structure WX (l : List Int) where
  i : Nat
  hi : i ≤ l.length
theorem waits_spec (a : Option Addr) (c : Nat) (l : List Int) (v : Int) (ha : a = none → l = []) (hl : l.length ≤ 1099511627776) :
    Does Try.prog 28 [.slice a l.length c, .int .i64 v] [ro a (ints l)] (fun r hp' => r = .int .i64 (l.count v : Int) ∧ hp' = []) := by
  have hle : ∀ i, (l.take i).count v ≤ l.length := fun i => Nat.le_trans (List.count_le_length) (by rw [List.length_take]; omega)
  refine fn_enter Try.func28 rfl 22 rfl fun w0 h0 => ?_
  refine wpc_seq ?_
  refine wpc_region [0] (by kernel_rfl) ?_
  refine wpr_run (l₂ := []) true [0] [] [(4, Value.int IntKind.i64 0), (0, Value.slice a l.length c), (1, Value.int IntKind.i64 v)] [ro a (ints l)] [] (by kernel_rfl) (by kernel_rfl) trivial ?_
  refine wpr_nil ?_
  refine nx_then ?_
  refine wpc_seq ?_
  refine wpc_region [0] (by kernel_rfl) ?_
  refine wpr_run (l₂ := []) true [0] [] [(5, Value.int IntKind.i64 0), (4, Value.int IntKind.i64 0), (0, Value.slice a l.length c), (1, Value.int IntKind.i64 v)] [ro a (ints l)] [] (by kernel_rfl) (by kernel_rfl) trivial ?_
  refine wpr_nil ?_
  refine nx_then ?_
  refine wpc_seq ?_
  refine wpc_seq ?_
  refine wpc_region [0] (by kernel_rfl) ?_
  refine wpr_run (l₂ := []) true [0] [] [(6, Value.int IntKind.i64 0), (5, Value.int IntKind.i64 0), (4, Value.int IntKind.i64 0), (0, Value.slice a l.length c), (1, Value.int IntKind.i64 v)] [ro a (ints l)] [] (by kernel_rfl) (by kernel_rfl) trivial ?_
  refine wpr_nil ?_
  refine nx_then ?_
  refine wpc_block ?_
  refine wpc_loop (X := WX l) (fun x => St.mk [(6, .int .i64 (x.i : Int)), (5, .int .i64 ((l.take x.i).count v : Int)), (4, .int .i64 0), (0, .slice a l.length c), (1, .int .i64 v)] [ro a (ints l)]) (fun x => l.length - x.i) ⟨0, Nat.zero_le _⟩ (ent_fr (by kernel_rfl)) ?_
  rintro ⟨i, hi⟩
  dsimp only
  have hlei := hle i
  refine wpc_seq ?_
  refine wpc_seq ?_
  refine wpc_region [0, 1, 2, 3] (by kernel_rfl) ?_
  refine wpr_run (l₂ := []) true [0, 1, 2, 3] [] [(10, Value.bool (decide ((↑i : Int) < (↑l.length : Int)))), (6, Value.int IntKind.i64 (↑i : Int)), (5, Value.int IntKind.i64 (↑(List.count v (List.take i l)) : Int)), (4, Value.int IntKind.i64 0), (0, Value.slice a l.length c), (1, Value.int IntKind.i64 v)] [ro a (ints l)] [] (by kernel_rfl) (by kernel_rfl) trivial ?_
  refine wpr_nil ?_
  refine nx_then ?_
  refine wpc_if (((↑i : Int) < (↑l.length : Int))) (by kernel_rfl) (fun hlt => ?_) (fun hlt => ?_)
  · have hil : i < l.length := by omega
    refine wpc_fact (fun w h => ro_addr h 0 rfl (by rw [ints_len]; omega)) ?_
    rintro ⟨w1, o1, rfl⟩
    have hcnt : (l.take (i + 1)).count v = (l.take i).count v + if l[i] == v then 1 else 0 := by
      rw [← List.take_append_getElem hil, List.count_append, List.count_singleton]
    refine wpc_skip ?_
    refine nx_then ?_
    refine wpc_seq ?_
    refine wpc_block ?_
    refine wpc_seq ?_
    refine wpc_region [0, 1, 2, 3, 4, 5] (by kernel_rfl) ?_
    refine wpr_run (l₂ := [3, 4, 5]) true [0, 1, 2] [] ([(15, Value.pointer (some { block := w1, off := o1 + i * 1 })), (6, Value.int IntKind.i64 (↑i : Int)), (5, Value.int IntKind.i64 (↑(List.count v (List.take i l)) : Int)), (4, Value.int IntKind.i64 0), (0, Value.slice (some { block := w1, off := o1 }) l.length c), (1, Value.int IntKind.i64 v)]) [ro (some { block := w1, off := o1 }) (ints l)] [(0 : Int) ≤ (↑i : Int) ∧ (↑i : Int) < (↑l.length : Int)] (by kernel_rfl) (by kernel_rfl) ⟨by omega, trivial⟩ ?_
    refine wpr_eq (ld (t := 3) (a := ({ block := w1, off := o1 + i * 1 })) (dst := some 16) (by kernel_rfl) false 1 (by kernel_rfl) (by simp) [.int .i64 l[i]] rfl (fun w h => ld_ro h 0 rfl (i * 1) (ints_at hil))) ?_
    refine wpr_run (l₂ := []) true [4, 5] [] [(18, Value.bool (l[i] == v)), (6, Value.int IntKind.i64 (↑i : Int)), (5, Value.int IntKind.i64 (↑(List.count v (List.take i l)) : Int)), (4, Value.int IntKind.i64 0), (0, Value.slice (some { block := w1, off := o1 }) l.length c), (1, Value.int IntKind.i64 v)] [ro (some { block := w1, off := o1 }) (ints l)] [] (by kernel_rfl) (by kernel_rfl) trivial ?_
    refine wpr_nil ?_
    refine nx_then ?_
    refine wpc_cond ((l[i] == v)) (by kernel_rfl) (fun he => ?_) (fun he => ?_)
    · rw [if_pos he] at hcnt
      refine wpc_region [0, 1, 2] (by kernel_rfl) ?_
      refine wpr_run (l₂ := []) true [0, 1, 2] [] ([(5, Value.int IntKind.i64 ((↑(List.count v (List.take i l)) : Int) + 1)), (6, Value.int IntKind.i64 (↑i : Int)), (4, Value.int IntKind.i64 0), (0, Value.slice (some { block := w1, off := o1 }) l.length c), (1, Value.int IntKind.i64 v)]) [ro (some { block := w1, off := o1 }) (ints l)] ([inI64 ((↑(List.count v (List.take i l)) : Int) + (1 : Int))]) (by kernel_rfl) (by kernel_rfl) ⟨by unfold inI64; omega, trivial⟩ ?_
      refine wpr_nil ?_
      refine nx_block ?_
      refine nx_then ?_
      refine wpc_region [0, 1, 2] (by kernel_rfl) ?_
      refine wpr_run (l₂ := []) true [0, 1, 2] [] ([(6, Value.int IntKind.i64 ((↑i : Int) + 1)), (5, Value.int IntKind.i64 ((↑(List.count v (List.take i l)) : Int) + 1)), (4, Value.int IntKind.i64 0), (0, Value.slice (some { block := w1, off := o1 }) l.length c), (1, Value.int IntKind.i64 v)]) [ro (some { block := w1, off := o1 }) (ints l)] ([inI64 ((↑i : Int) + (1 : Int))]) (by kernel_rfl) (by kernel_rfl) ⟨by unfold inI64; omega, trivial⟩ ?_
      refine wpr_nil ?_
      refine nx_ent (ent_set 5 (Value.int IntKind.i64 ((↑(List.count v (List.take i l)) : Int) + 1)) (Value.int .i64 ((l.take (i + 1)).count v : Int)) (by kernel_rfl) (by rw [hcnt]; rfl)) ?_
      exact fun a' w' hS' => ⟨⟨i + 1, by omega⟩, by dsimp only; omega, ent_fr (by kernel_rfl) _ _ (ent_hp [0] rfl _ _ hS')⟩
    · rw [if_neg (by rw [he]; decide)] at hcnt
      refine wpc_skip ?_
      refine nx_block ?_
      refine nx_then ?_
      refine wpc_region [0, 1, 2] (by kernel_rfl) ?_
      refine wpr_run (l₂ := []) true [0, 1, 2] [] ([(6, Value.int IntKind.i64 ((↑i : Int) + 1)), (5, Value.int IntKind.i64 (↑(List.count v (List.take i l)) : Int)), (4, Value.int IntKind.i64 0), (0, Value.slice (some { block := w1, off := o1 }) l.length c), (1, Value.int IntKind.i64 v)]) [ro (some { block := w1, off := o1 }) (ints l)] ([inI64 ((↑i : Int) + (1 : Int))]) (by kernel_rfl) (by kernel_rfl) ⟨by unfold inI64; omega, trivial⟩ ?_
      refine wpr_nil ?_
      refine nx_ent (ent_set 5 (Value.int IntKind.i64 (↑(List.count v (List.take i l)) : Int)) (Value.int .i64 ((l.take (i + 1)).count v : Int)) (by kernel_rfl) (by rw [hcnt]; rfl)) ?_
      exact fun a' w' hS' => ⟨⟨i + 1, by omega⟩, by dsimp only; omega, ent_fr (by kernel_rfl) _ _ (ent_hp [0] rfl _ _ hS')⟩
  · refine wpc_exit ?_
    refine nx_then_exit ?_
    refine nx_then_exit ?_
    refine nx_block_here ?_
    refine nx_then ?_
    refine wpc_seq ?_
    refine wpc_region [0, 1] (by kernel_rfl) ?_
    refine wpr_run (l₂ := []) true [0, 1] [] [(4, Value.int IntKind.i64 (↑(List.count v (List.take i l)) : Int))] [ro a (ints l)] [] (by kernel_rfl) (by kernel_rfl) trivial ?_
    refine wpr_nil ?_
    refine nx_then ?_
    refine wpc_ret ?_
    refine nx_end (hp' := []) (rest := [ro a (ints l)]) [] ((Value.int IntKind.i64 (↑(List.count v (List.take i l)) : Int))) (by kernel_rfl) (by kernel_rfl) (give [] (by kernel_rfl)) (by first | ((repeat (first | exact trivial | refine ⟨trivial, ?_⟩)); done) | assumption) ?_ (.inr rfl)
    exact ⟨by rw [List.take_of_length_le (by omega)], rfl⟩

structure OX (l : List Int) where
  i : Nat
  a : Option Addr
  c : Nat
  hi : i ≤ l.length
theorem without_spec (a : Option Addr) (c : Nat) (l : List Int) (v : Int) (ha : a = none → l = []) (hl : l.length ≤ 1099511627776) :
    Does Try.prog 29 [.slice a l.length c, .int .i64 v] [ro a (ints l)] (fun r hp' => ∃ a' c', r = .slice a' (l.filter (· != v)).length c' ∧ hp' = [row 3 1 a' (l.filter (· != v)).length c' (ints (l.filter (· != v)))]) := by
  have hle : ∀ i, ((l.take i).filter (· != v)).length ≤ l.length := fun i => Nat.le_trans (List.length_filter_le _ _) (by rw [List.length_take]; omega)
  refine fn_enter Try.func29 rfl 27 rfl fun w0 h0 => ?_
  refine wpc_seq ?_
  refine wpc_region [0] (by kernel_rfl) ?_
  refine wpr_run (l₂ := []) true [0] [] [(4, Value.slice none 0 0), (0, Value.slice a l.length c), (1, Value.int IntKind.i64 v)] [ro a (ints l)] [] (by kernel_rfl) (by kernel_rfl) trivial ?_
  refine wpr_nil ?_
  refine nx_then ?_
  refine wpc_seq ?_
  refine wpc_region [0] (by kernel_rfl) ?_
  refine wpr_run (l₂ := []) true [0] [] [(5, Value.slice none 0 0), (4, Value.slice none 0 0), (0, Value.slice a l.length c), (1, Value.int IntKind.i64 v)] [ro a (ints l)] [] (by kernel_rfl) (by kernel_rfl) trivial ?_
  refine wpr_nil ?_
  refine nx_then ?_
  refine wpc_seq ?_
  refine wpc_seq ?_
  refine wpc_region [0] (by kernel_rfl) ?_
  refine wpr_run (l₂ := []) true [0] [] [(6, Value.int IntKind.i64 0), (5, Value.slice none 0 0), (4, Value.slice none 0 0), (0, Value.slice a l.length c), (1, Value.int IntKind.i64 v)] [ro a (ints l)] [] (by kernel_rfl) (by kernel_rfl) trivial ?_
  refine wpr_nil ?_
  refine nx_then ?_
  refine wpc_block ?_
  refine wpc_ent (ent_nil 3 1) ?_
  refine wpc_loop (X := OX l) (fun x => St.mk [(6, .int .i64 (x.i : Int)), (5, .slice x.a ((l.take x.i).filter (· != v)).length x.c), (4, .slice none 0 0), (0, .slice a l.length c), (1, .int .i64 v)] [ro a (ints l), row 3 1 x.a ((l.take x.i).filter (· != v)).length x.c (ints ((l.take x.i).filter (· != v)))]) (fun x => l.length - x.i) ⟨0, none, 0, Nat.zero_le _⟩ ?_ ?_
  · exact fun a w hS => ent_fr (by kernel_rfl) _ _ (ent_hp [1, 0] rfl _ _ hS)
  rintro ⟨i, a1, c1, hi⟩
  dsimp only
  have hlei := hle i
  refine wpc_seq ?_
  refine wpc_seq ?_
  refine wpc_region [0, 1, 2, 3] (by kernel_rfl) ?_
  refine wpr_run (l₂ := []) true [0, 1, 2, 3] [] [(10, Value.bool (decide ((↑i : Int) < (↑l.length : Int)))), (6, Value.int IntKind.i64 (↑i : Int)), (5, Value.slice a1 (List.filter (fun (x : Int) => x != v) (List.take i l)).length c1), (4, Value.slice none 0 0), (0, Value.slice a l.length c), (1, Value.int IntKind.i64 v)] [ro a (ints l), row 3 1 a1 (List.filter (fun (x : Int) => x != v) (List.take i l)).length c1 (ints (List.filter (fun (x : Int) => x != v) (List.take i l)))] [] (by kernel_rfl) (by kernel_rfl) trivial ?_
  refine wpr_nil ?_
  refine nx_then ?_
  refine wpc_if (((↑i : Int) < (↑l.length : Int))) (by kernel_rfl) (fun hlt => ?_) (fun hlt => ?_)
  · have hil : i < l.length := by omega
    refine wpc_fact (fun w h => ro_addr h 0 rfl (by rw [ints_len]; omega)) ?_
    rintro ⟨w1, o1, rfl⟩
    have hf : (l.take (i + 1)).filter (· != v) = (l.take i).filter (· != v) ++ [l[i]].filter (· != v) := by
      rw [← List.take_append_getElem hil, List.filter_append]
    refine wpc_skip ?_
    refine nx_then ?_
    refine wpc_seq ?_
    refine wpc_block ?_
    refine wpc_seq ?_
    refine wpc_region [0, 1, 2, 3, 4, 5] (by kernel_rfl) ?_
    refine wpr_run (l₂ := [3, 4, 5]) true [0, 1, 2] [] ([(15, Value.pointer (some { block := w1, off := o1 + i * 1 })), (6, Value.int IntKind.i64 (↑i : Int)), (5, Value.slice a1 (List.filter (fun (x : Int) => x != v) (List.take i l)).length c1), (4, Value.slice none 0 0), (0, Value.slice (some { block := w1, off := o1 }) l.length c), (1, Value.int IntKind.i64 v)]) [ro (some { block := w1, off := o1 }) (ints l), row 3 1 a1 (List.filter (fun (x : Int) => x != v) (List.take i l)).length c1 (ints (List.filter (fun (x : Int) => x != v) (List.take i l)))] [(0 : Int) ≤ (↑i : Int) ∧ (↑i : Int) < (↑l.length : Int)] (by kernel_rfl) (by kernel_rfl) ⟨by omega, trivial⟩ ?_
    refine wpr_eq (ld (t := 3) (a := ({ block := w1, off := o1 + i * 1 })) (dst := some 16) (by kernel_rfl) false 1 (by kernel_rfl) (by simp) [.int .i64 l[i]] rfl (fun w h => ld_ro h 0 rfl (i * 1) (ints_at hil))) ?_
    refine wpr_run (l₂ := []) true [4, 5] [] [(18, Value.bool (l[i] != v)), (6, Value.int IntKind.i64 (↑i : Int)), (5, Value.slice a1 (List.filter (fun (x : Int) => x != v) (List.take i l)).length c1), (4, Value.slice none 0 0), (0, Value.slice (some { block := w1, off := o1 }) l.length c), (1, Value.int IntKind.i64 v)] [ro (some { block := w1, off := o1 }) (ints l), row 3 1 a1 (List.filter (fun (x : Int) => x != v) (List.take i l)).length c1 (ints (List.filter (fun (x : Int) => x != v) (List.take i l)))] [] (by kernel_rfl) (by kernel_rfl) trivial ?_
    refine wpr_nil ?_
    refine nx_then ?_
    refine wpc_cond ((l[i] != v)) (by kernel_rfl) (fun he => ?_) (fun he => ?_)
    · rw [show [l[i]].filter (· != v) = [l[i]] from by simp only [List.filter_cons, he]; rfl] at hf
      refine wpc_region [0, 1, 2, 3, 4, 5, 6, 7] (by kernel_rfl) ?_
      refine wpr_run (l₂ := [4, 5, 6, 7]) true [0, 1, 2, 3] [] ([(22, Value.pointer (some { block := w1, off := o1 + i * 1 })), (19, Value.slice a1 (List.filter (fun (x : Int) => x != v) (List.take i l)).length c1), (6, Value.int IntKind.i64 (↑i : Int)), (5, Value.slice a1 (List.filter (fun (x : Int) => x != v) (List.take i l)).length c1), (4, Value.slice none 0 0), (0, Value.slice (some { block := w1, off := o1 }) l.length c), (1, Value.int IntKind.i64 v)]) [ro (some { block := w1, off := o1 }) (ints l), row 3 1 a1 (List.filter (fun (x : Int) => x != v) (List.take i l)).length c1 (ints (List.filter (fun (x : Int) => x != v) (List.take i l)))] [(0 : Int) ≤ (↑i : Int) ∧ (↑i : Int) < (↑l.length : Int)] (by kernel_rfl) (by kernel_rfl) ⟨by omega, trivial⟩ ?_
      refine wpr_eq (ld (t := 3) (a := ({ block := w1, off := o1 + i * 1 })) (dst := some 23) (by kernel_rfl) false 1 (by kernel_rfl) (by simp) [.int .i64 l[i]] rfl (fun w h => ld_ro h 0 rfl (i * 1) (ints_at hil))) ?_
      refine wpr_new (l₂ := [6, 7]) true [5] [] (fun g1 => [(24, Value.slice (some { block := g1, off := 0 }) 1 1), (19, Value.slice a1 (List.filter (fun (x : Int) => x != v) (List.take i l)).length c1), (6, Value.int IntKind.i64 (↑i : Int)), (5, Value.slice a1 (List.filter (fun (x : Int) => x != v) (List.take i l)).length c1), (4, Value.slice none 0 0), (0, Value.slice (some { block := w1, off := o1 }) l.length c), (1, Value.int IntKind.i64 v)]) (fun g1 => [ro (some { block := w1, off := o1 }) (ints l), row 3 1 a1 (List.filter (fun (x : Int) => x != v) (List.take i l)).length c1 (ints (List.filter (fun (x : Int) => x != v) (List.take i l))), Ch.blk g1 3 [Value.int IntKind.i64 l[i]]]) (fun g1 => []) (fun g1 => by kernel_rfl) (fun g1 => by kernel_rfl) (fun g1 => trivial) fun g1 => ?_
      refine wpr_ent (ent_turn 2 (ro (some ⟨g1, 0, none⟩) (ints [l[i]])) rfl (turn_rints [l[i]] rfl) rfl) ?_
      refine wpr_app (a := a1) (n := ((List.filter (fun (x : Int) => x != v) (List.take i l)).length)) (cap := c1) (x := (Value.slice (some { block := g1, off := 0 }) 1 1)) (t := 22) (xt := 22) (dst := some 25) (by kernel_rfl) (e := 3) (sz := 1) (bytes := 8) (by kernel_rfl) 1 (xs := (ints (List.filter (fun (x : Int) => x != v) (List.take i l)))) (by kernel_rfl) (m := 1) (news := (ints [l[i]])) (fun w h => src_ro h 2 rfl rfl (fun e => by cases e)) (by unfold maxLen; omega) (by omega) ?_
      intro a2 c2 hn
      rw [ints_append, ← hf, show ((l.take i).filter (· != v)).length + 1 = ((l.take (i + 1)).filter (· != v)).length from by rw [hf]; simp]
      refine wpr_run (l₂ := []) true [7] [] ([(5, Value.slice a2 (List.filter (fun (x : Int) => x != v) (List.take (i + 1) l)).length c2), (6, Value.int IntKind.i64 (↑i : Int)), (4, Value.slice none 0 0), (0, Value.slice (some { block := w1, off := o1 }) l.length c), (1, Value.int IntKind.i64 v)]) ([ro (some { block := w1, off := o1 }) (ints l), row 3 1 a2 (List.filter (fun (x : Int) => x != v) (List.take (i + 1) l)).length c2 (ints (List.filter (fun (x : Int) => x != v) (List.take (i + 1) l))), ro (some { block := g1, off := 0 }) (ints [l[i]])]) [] (by kernel_rfl) (by kernel_rfl) trivial ?_
      refine wpr_nil ?_
      refine nx_block ?_
      refine nx_then ?_
      refine wpc_region [0, 1, 2] (by kernel_rfl) ?_
      refine wpr_run (l₂ := []) true [0, 1, 2] [] ([(6, Value.int IntKind.i64 ((↑i : Int) + 1)), (5, Value.slice a2 (List.filter (fun (x : Int) => x != v) (List.take (i + 1) l)).length c2), (4, Value.slice none 0 0), (0, Value.slice (some { block := w1, off := o1 }) l.length c), (1, Value.int IntKind.i64 v)]) ([ro (some { block := w1, off := o1 }) (ints l), row 3 1 a2 (List.filter (fun (x : Int) => x != v) (List.take (i + 1) l)).length c2 (ints (List.filter (fun (x : Int) => x != v) (List.take (i + 1) l))), ro (some { block := g1, off := 0 }) (ints [l[i]])]) ([inI64 ((↑i : Int) + (1 : Int))]) (by kernel_rfl) (by kernel_rfl) ⟨by unfold inI64; omega, trivial⟩ ?_
      refine wpr_nil ?_
      exact fun a' w' hS' => ⟨⟨i + 1, a2, c2, by omega⟩, by dsimp only; omega, ent_fr (by kernel_rfl) _ _ (ent_hp [0, 0] rfl _ _ hS')⟩
    · rw [show [l[i]].filter (· != v) = [] from by simp only [List.filter_cons, he]; rfl, List.append_nil] at hf
      refine wpc_skip ?_
      refine nx_block ?_
      refine nx_then ?_
      refine wpc_region [0, 1, 2] (by kernel_rfl) ?_
      refine wpr_run (l₂ := []) true [0, 1, 2] [] ([(6, Value.int IntKind.i64 ((↑i : Int) + 1)), (5, Value.slice a1 (List.filter (fun (x : Int) => x != v) (List.take i l)).length c1), (4, Value.slice none 0 0), (0, Value.slice (some { block := w1, off := o1 }) l.length c), (1, Value.int IntKind.i64 v)]) [ro (some { block := w1, off := o1 }) (ints l), row 3 1 a1 (List.filter (fun (x : Int) => x != v) (List.take i l)).length c1 (ints (List.filter (fun (x : Int) => x != v) (List.take i l)))] ([inI64 ((↑i : Int) + (1 : Int))]) (by kernel_rfl) (by kernel_rfl) ⟨by unfold inI64; omega, trivial⟩ ?_
      refine wpr_nil ?_
      rw [← hf]
      exact fun a' w' hS' => ⟨⟨i + 1, a1, c1, by omega⟩, by dsimp only; omega, ent_fr (by kernel_rfl) _ _ (ent_hp [0, 0] rfl _ _ hS')⟩
  · refine wpc_exit ?_
    refine nx_then_exit ?_
    refine nx_then_exit ?_
    refine nx_block_here ?_
    refine nx_then ?_
    refine wpc_seq ?_
    refine wpc_region [0, 1] (by kernel_rfl) ?_
    refine wpr_run (l₂ := []) true [0, 1] [] [(4, Value.slice a1 (List.filter (fun (x : Int) => x != v) (List.take i l)).length c1)] [ro a (ints l), row 3 1 a1 (List.filter (fun (x : Int) => x != v) (List.take i l)).length c1 (ints (List.filter (fun (x : Int) => x != v) (List.take i l)))] [] (by kernel_rfl) (by kernel_rfl) trivial ?_
    refine wpr_nil ?_
    refine nx_then ?_
    refine wpc_ret ?_
    rw [List.take_of_length_le (by omega)]
    refine nx_end (hp' := [row 3 1 a1 (List.filter (fun (x : Int) => x != v) l).length c1 (ints (List.filter (fun (x : Int) => x != v) l))]) (rest := [ro a (ints l)]) [] ((Value.slice a1 (List.filter (fun (x : Int) => x != v) l).length c1)) (by kernel_rfl) (by kernel_rfl) (give [1] (by kernel_rfl)) (by first | ((repeat (first | exact trivial | refine ⟨trivial, ?_⟩)); done) | assumption) ?_ (.inr rfl)
    exact ⟨a1, c1, rfl, rfl⟩

def rightB (H : Int) (l : List Int) : Bool := decide (Ok H l)
structure CR (H : Int) (l : List Int) where
  i : Nat
  hi : i ≤ l.length
  h : ∀ j (hj : j < i), cl (l[j]'(by omega)) = true ∧ l[j]'(by omega) ≠ H ∧ l.count (l[j]'(by omega)) = 1
theorem Right_spec (H : Int) (a : Option Addr) (c : Nat) (l : List Int) (ha : a = none → l = []) (hl : l.length ≤ 1099511627776) :
    Does Try.prog 23 [fl H a l.length c] [ro a (ints l)] (fun r hp' => r = .bool (rightB H l) ∧ hp' = []) := by
  unfold fl
  have hno : ¬ Ok H l → rightB H l = false := fun h => decide_eq_false h
  by_cases hH : H = 0 ∨ cl H = true
  · refine fn_enter Try.func23 rfl 54 rfl fun w0 h0 => ?_
    refine wpc_seq ?_
    refine wpc_region [0, 1] (by kernel_rfl) ?_
    refine wpr_new (l₂ := [1]) true [0] [] (fun g1 => [(1, Value.pointer (some { block := g1, off := 0 }))]) (fun g1 => [ro a (ints l), Ch.blk g1 24 [Value.int IntKind.i64 H, Value.slice a l.length c]]) (fun g1 => []) (fun g1 => by kernel_rfl) (fun g1 => by kernel_rfl) (fun g1 => trivial) fun g1 => ?_
    refine wpr_run (l₂ := []) true [1] [] [(2, Value.bool false), (1, Value.pointer (some { block := g1, off := 0 }))] [ro a (ints l), Ch.blk g1 24 [Value.int IntKind.i64 H, Value.slice a l.length c]] [] (by kernel_rfl) (by kernel_rfl) trivial ?_
    refine wpr_nil ?_
    refine nx_then ?_
    refine wpc_seq ?_
    refine wpc_seq ?_
    refine wpc_region [0, 1, 2, 3, 4, 5, 6, 7, 8, 9, 10, 11, 12, 13, 14] (by kernel_rfl) ?_
    refine wpr_run (l₂ := [4, 5, 6, 7, 8, 9, 10, 11, 12, 13, 14]) true [0, 1, 2, 3] [1] [(7, Value.bool (H != 0)), (2, Value.bool false), (1, Value.pointer (some { block := g1, off := 0 }))] [ro a (ints l), Ch.blk g1 24 [Value.int IntKind.i64 H, Value.slice a l.length c]] [] (by kernel_rfl) (by kernel_rfl) trivial ?_
    refine wpr_join ⟨[(18, Value.bool (decide ((l.length : Int) > 4))), (2, (Value.bool false)), (1, (Value.pointer (some { block := g1, off := 0 })))], [ro a (ints l), Ch.blk g1 24 [Value.int IntKind.i64 H, Value.slice a l.length c]]⟩ (fun Q1 hQ1 hk => ?_) ?_
    · by_cases hz : H = 0
      · subst hz
        refine wpr_run (l₂ := []) true [4, 5, 6, 7, 8, 9, 10, 11, 12, 13, 14] [1] [(18, Value.bool (decide ((↑l.length : Int) > 4))), (2, Value.bool false), (1, Value.pointer (some { block := g1, off := 0 }))] [ro a (ints l), Ch.blk g1 24 [Value.int IntKind.i64 0, Value.slice a l.length c]] [] (by kernel_rfl) (by kernel_rfl) trivial ?_
        refine wpr_nil ?_
        exact nx_ent (ent_fr (by kernel_rfl)) hk
      · refine wpr_ent (ent_set 7 (Value.bool (H != 0)) (Value.bool true) (by kernel_rfl) (congrArg _ (by simpa using hz))) ?_
        refine wpr_run (l₂ := [6, 7, 8, 9, 10, 11, 12, 13, 14]) true [4, 5] [1] [(9, Value.int IntKind.i64 H), (7, Value.bool true), (2, Value.bool false), (1, Value.pointer (some { block := g1, off := 0 }))] [ro a (ints l), Ch.blk g1 24 [Value.int IntKind.i64 H, Value.slice a l.length c]] [] (by kernel_rfl) (by kernel_rfl) trivial ?_
        refine wpr_call (dst := some 10) (rest := [ro a (ints l), Ch.blk g1 24 [Value.int IntKind.i64 H, Value.slice a l.length c]]) (by kernel_rfl) (rClient_spec H) (give [] (by kernel_rfl)) ?_
        rintro v hp' ⟨rfl, rfl⟩
        rw [hH.resolve_left hz]
        refine wpr_run (l₂ := []) true [7, 8, 9, 10, 11, 12, 13, 14] [1] [(18, Value.bool (decide ((↑l.length : Int) > 4))), (2, Value.bool false), (1, Value.pointer (some { block := g1, off := 0 }))] [ro a (ints l), Ch.blk g1 24 [Value.int IntKind.i64 H, Value.slice a l.length c]] [] (by kernel_rfl) (by kernel_rfl) trivial ?_
        refine wpr_nil ?_
        exact nx_ent (ent_fr (by kernel_rfl)) hk
    refine nx_then ?_
    refine wpc_if (((↑l.length : Int) > 4)) (by kernel_rfl) (fun h4 => ?_) (fun h4 => ?_)
    · refine wpc_seq ?_
      refine wpc_region [0] (by kernel_rfl) ?_
      refine wpr_run (l₂ := []) true [0] [] [(2, Value.bool false), (1, Value.pointer (some { block := g1, off := 0 }))] [ro a (ints l), Ch.blk g1 24 [Value.int IntKind.i64 H, Value.slice a l.length c]] [] (by kernel_rfl) (by kernel_rfl) trivial ?_
      refine wpr_nil ?_
      refine nx_then ?_
      refine wpc_ret ?_
      refine nx_then_ret ?_
      refine nx_end (hp' := []) (rest := [ro a (ints l), Ch.blk g1 24 [Value.int IntKind.i64 H, Value.slice a l.length c]]) [] ((Value.bool false)) (by kernel_rfl) (by kernel_rfl) (give [] (by kernel_rfl)) (by first | ((repeat (first | exact trivial | refine ⟨trivial, ?_⟩)); done) | assumption) ?_ (.inr rfl)
      exact ⟨by rw [hno (fun h => absurd h.2.1 (by omega))], rfl⟩
    refine wpc_skip ?_
    refine nx_then ?_
    refine wpc_seq ?_
    refine wpc_seq ?_
    refine wpc_region [0] (by kernel_rfl) ?_
    refine wpr_run (l₂ := []) true [0] [] [(3, Value.int IntKind.i64 0), (2, Value.bool false), (1, Value.pointer (some { block := g1, off := 0 }))] [ro a (ints l), Ch.blk g1 24 [Value.int IntKind.i64 H, Value.slice a l.length c]] [] (by kernel_rfl) (by kernel_rfl) trivial ?_
    refine wpr_nil ?_
    refine nx_then ?_
    refine wpc_block ?_
    refine wpc_loop (X := CR H l) (fun x => St.mk [(3, .int .i64 (x.i : Int)), (2, .bool false), (1, .pointer (some ⟨g1, 0, none⟩))] [ro a (ints l), .blk g1 24 [.int .i64 H, .slice a l.length c]]) (fun x => l.length - x.i) ⟨0, Nat.zero_le _, fun j hj => absurd hj (by omega)⟩ (ent_fr (by kernel_rfl)) ?_
    rintro ⟨i, hi, h⟩
    dsimp only
    refine wpc_seq ?_
    refine wpc_seq ?_
    refine wpc_region [0, 1, 2, 3, 4] (by kernel_rfl) ?_
    refine wpr_run (l₂ := []) true [0, 1, 2, 3, 4] [1] [(23, Value.bool (decide ((↑i : Int) < (↑l.length : Int)))), (3, Value.int IntKind.i64 (↑i : Int)), (2, Value.bool false), (1, Value.pointer (some { block := g1, off := 0 }))] [ro a (ints l), Ch.blk g1 24 [Value.int IntKind.i64 H, Value.slice a l.length c]] [] (by kernel_rfl) (by kernel_rfl) trivial ?_
    refine wpr_nil ?_
    refine nx_then ?_
    refine wpc_if (((↑i : Int) < (↑l.length : Int))) (by kernel_rfl) (fun hlt => ?_) (fun hlt => ?_)
    · have hil : i < l.length := by omega
      have hbad : (cl l[i] = true → l[i] ≠ H → l.count l[i] = 1 → False) → ¬ Ok H l := fun hf hok => hf (hok.2.2.1 _ (List.getElem_mem hil)).1 (hok.2.2.1 _ (List.getElem_mem hil)).2 ((nodup_count l).1 hok.2.2.2 i hil)
      refine wpc_fact (fun w h => ro_addr h 0 rfl (by rw [ints_len]; omega)) ?_
      rintro ⟨w1, o1, rfl⟩
      refine wpc_skip ?_
      refine nx_then ?_
      refine wpc_seq ?_
      refine wpc_block ?_
      refine wpc_seq ?_
      have hld : ∀ w, HL [ro (some ⟨w1, o1, none⟩) (ints l), Ch.blk g1 24 [Value.int IntKind.i64 H, Value.slice (some ⟨w1, o1, none⟩) l.length c]] w → cellsAt w ⟨w1, o1 + i * 1, none⟩ [Value.int IntKind.i64 l[i]] := fun w h => ld_roL h 0 rfl (i * 1) (ints_at hil)
      refine wpc_draw (by kernel_rfl) [ro (some { block := w1, off := o1 }) (ints l), Ch.blk g1 24 [Value.int IntKind.i64 H, Value.slice (some { block := w1, off := o1 }) l.length c]] (sub_of [0, 1] (by kernel_rfl)) 28 (by kernel_rfl) ?_
      refine wpa_take true [(0, []), (1, [1]), (2, []), (3, [])] ([(29, Value.pointer (some { block := w1, off := o1 + i * 1 })), (3, Value.int IntKind.i64 (↑i : Int)), (2, Value.bool false), (1, Value.pointer (some { block := g1, off := 0 }))]) (#[true, true, true, true, false, false, false, false, false, false, false, false, false, false, false, false, false, false, false, false, false, false, false, false, false, false, false, false]) [(0 : Int) ≤ (↑i : Int) ∧ (↑i : Int) < (↑l.length : Int)] (n := 24) (by kernel_rfl) (by kernel_rfl) (by kernel_rfl) ⟨by omega, trivial⟩ ?_
      refine wpa_qld (i := 4) (n := 23) (by kernel_rfl) (by kernel_rfl) (by kernel_rfl) (t := 3) (a := ({ block := w1, off := o1 + i * 1 })) (dst := some 30) (by kernel_rfl) false 1 (by kernel_rfl) (by simp) [.int .i64 l[i]] rfl hld ?_
      refine wpa_call (i := 5) (n := 22) (dst := some 31) (rest := [ro (some { block := w1, off := o1 }) (ints l), Ch.blk g1 24 [Value.int IntKind.i64 H, Value.slice (some { block := w1, off := o1 }) l.length c]]) (by kernel_rfl) (by kernel_rfl) (rClient_spec l[i]) (give [] (by kernel_rfl)) (sub_of [0, 1] (by kernel_rfl)) ?_
      rintro v hp' ⟨rfl, rfl⟩
      cases hcl : cl l[i]
      · refine wpa_take true [(6, []), (7, []), (8, []), (9, []), (10, []), (11, []), (12, []), (13, []), (14, []), (15, []), (16, []), (17, []), (18, []), (19, []), (20, []), (21, []), (22, []), (23, []), (24, []), (25, []), (26, []), (27, [])] [(53, Value.bool true), (3, Value.int IntKind.i64 (↑i : Int)), (2, Value.bool false), (1, Value.pointer (some { block := g1, off := 0 }))] (#[true, true, true, true, true, true, true, true, true, true, true, true, true, true, true, true, true, true, true, true, true, true, true, true, true, true, true, true]) [] (n := 0) (by kernel_rfl) (by kernel_rfl) (by kernel_rfl) trivial ?_
        refine wpa_done 0 (by kernel_rfl) ?_
        refine nx_then ?_
        refine wpc_true (by kernel_rfl) ?_
        refine wpc_seq ?_
        refine wpc_region [0] (by kernel_rfl) ?_
        refine wpr_run (l₂ := []) true [0] [] [(2, Value.bool false), (3, Value.int IntKind.i64 (↑i : Int)), (1, Value.pointer (some { block := g1, off := 0 }))] [ro (some { block := w1, off := o1 }) (ints l), Ch.blk g1 24 [Value.int IntKind.i64 H, Value.slice (some { block := w1, off := o1 }) l.length c]] [] (by kernel_rfl) (by kernel_rfl) trivial ?_
        refine wpr_nil ?_
        refine nx_then ?_
        refine wpc_ret ?_
        refine nx_block_ret ?_
        refine nx_then_ret ?_
        refine nx_then_ret ?_
        refine nx_block_ret ?_
        refine nx_then_ret ?_
        refine nx_end (hp' := []) (rest := [ro (some { block := w1, off := o1 }) (ints l), Ch.blk g1 24 [Value.int IntKind.i64 H, Value.slice (some { block := w1, off := o1 }) l.length c]]) [] ((Value.bool false)) (by kernel_rfl) (by kernel_rfl) (give [] (by kernel_rfl)) (by first | ((repeat (first | exact trivial | refine ⟨trivial, ?_⟩)); done) | assumption) ?_ (.inr rfl)
        exact ⟨by rw [hno (hbad fun h => by rw [hcl] at h; cases h)], rfl⟩
      refine wpa_take true [(6, []), (7, []), (8, []), (9, [1]), (10, []), (11, []), (13, []), (14, [1])] ([(40, Value.int IntKind.i64 H), (37, Value.pointer (some { block := w1, off := o1 + i * 1 })), (33, Value.bool false), (3, Value.int IntKind.i64 (↑i : Int)), (2, Value.bool false), (1, Value.pointer (some { block := g1, off := 0 }))]) (#[true, true, true, true, true, true, true, true, true, true, true, true, false, true, true, false, false, false, false, false, false, false, false, false, false, false, false, false]) [(0 : Int) ≤ (↑i : Int) ∧ (↑i : Int) < (↑l.length : Int)] (n := 14) (by kernel_rfl) (by kernel_rfl) (by kernel_rfl) ⟨by omega, trivial⟩ ?_
      refine wpa_qld (i := 12) (n := 13) (by kernel_rfl) (by kernel_rfl) (by kernel_rfl) (t := 3) (a := ({ block := w1, off := o1 + i * 1 })) (dst := some 38) (by kernel_rfl) false 1 (by kernel_rfl) (by simp) [.int .i64 l[i]] rfl hld ?_
      refine wpa_take true [(15, []), (16, []), (17, [])] [(43, Value.bool (l[i] == H)), (3, Value.int IntKind.i64 (↑i : Int)), (2, Value.bool false), (1, Value.pointer (some { block := g1, off := 0 }))] (#[true, true, true, true, true, true, true, true, true, true, true, true, true, true, true, true, true, true, false, false, false, false, false, false, false, false, false, false]) [] (n := 10) (by kernel_rfl) (by kernel_rfl) (by kernel_rfl) trivial ?_
      by_cases heq : l[i] = H
      · refine wpa_ent (ent_set 43 (Value.bool (l[i] == H)) (Value.bool true) (by kernel_rfl) (congrArg _ (by simpa using heq))) ?_
        refine wpa_take true [(18, []), (19, []), (20, []), (21, []), (22, []), (23, []), (24, []), (25, []), (26, []), (27, [])] [(53, Value.bool true), (3, Value.int IntKind.i64 (↑i : Int)), (2, Value.bool false), (1, Value.pointer (some { block := g1, off := 0 }))] (#[true, true, true, true, true, true, true, true, true, true, true, true, true, true, true, true, true, true, true, true, true, true, true, true, true, true, true, true]) [] (n := 0) (by kernel_rfl) (by kernel_rfl) (by kernel_rfl) trivial ?_
        refine wpa_done 0 (by kernel_rfl) ?_
        refine nx_then ?_
        refine wpc_true (by kernel_rfl) ?_
        refine wpc_seq ?_
        refine wpc_region [0] (by kernel_rfl) ?_
        refine wpr_run (l₂ := []) true [0] [] [(2, Value.bool false), (3, Value.int IntKind.i64 (↑i : Int)), (1, Value.pointer (some { block := g1, off := 0 }))] [ro (some { block := w1, off := o1 }) (ints l), Ch.blk g1 24 [Value.int IntKind.i64 H, Value.slice (some { block := w1, off := o1 }) l.length c]] [] (by kernel_rfl) (by kernel_rfl) trivial ?_
        refine wpr_nil ?_
        refine nx_then ?_
        refine wpc_ret ?_
        refine nx_block_ret ?_
        refine nx_then_ret ?_
        refine nx_then_ret ?_
        refine nx_block_ret ?_
        refine nx_then_ret ?_
        refine nx_end (hp' := []) (rest := [ro (some { block := w1, off := o1 }) (ints l), Ch.blk g1 24 [Value.int IntKind.i64 H, Value.slice (some { block := w1, off := o1 }) l.length c]]) [] ((Value.bool false)) (by kernel_rfl) (by kernel_rfl) (give [] (by kernel_rfl)) (by first | ((repeat (first | exact trivial | refine ⟨trivial, ?_⟩)); done) | assumption) ?_ (.inr rfl)
        exact ⟨by rw [hno (hbad fun _ h => absurd heq h)], rfl⟩
      refine wpa_ent (ent_set 43 (Value.bool (l[i] == H)) (Value.bool false) (by kernel_rfl) (congrArg _ (by simpa using heq))) ?_
      refine wpa_take true [(18, []), (19, [1]), (20, []), (21, [1]), (22, []), (23, [])] ([(49, Value.pointer (some { block := w1, off := o1 + i * 1 })), (45, Value.slice (some { block := w1, off := o1 }) l.length c), (43, Value.bool false), (3, Value.int IntKind.i64 (↑i : Int)), (2, Value.bool false), (1, Value.pointer (some { block := g1, off := 0 }))]) (#[true, true, true, true, true, true, true, true, true, true, true, true, true, true, true, true, true, true, true, true, true, true, true, true, false, false, false, false]) [(0 : Int) ≤ (↑i : Int) ∧ (↑i : Int) < (↑l.length : Int)] (n := 4) (by kernel_rfl) (by kernel_rfl) (by kernel_rfl) ⟨by omega, trivial⟩ ?_
      refine wpa_qld (i := 24) (n := 3) (by kernel_rfl) (by kernel_rfl) (by kernel_rfl) (t := 3) (a := ({ block := w1, off := o1 + i * 1 })) (dst := some 50) (by kernel_rfl) false 1 (by kernel_rfl) (by simp) [.int .i64 l[i]] rfl hld ?_
      refine wpa_call (i := 25) (n := 2) (dst := some 51) (rest := [ro (some { block := w1, off := o1 }) (ints l), Ch.blk g1 24 [Value.int IntKind.i64 H, Value.slice (some { block := w1, off := o1 }) l.length c]]) (by kernel_rfl) (by kernel_rfl) (waits_spec (some ⟨w1, o1, none⟩) c l l[i] (fun e => nomatch e) hl) (Give.view (c := (ro (some { block := w1, off := o1 }) (ints l))) (give (pre := []) (rest := [ro (some { block := w1, off := o1 }) (ints l), Ch.blk g1 24 [Value.int IntKind.i64 H, Value.slice (some { block := w1, off := o1 }) l.length c]]) [] (by kernel_rfl)) 0 (by kernel_rfl) view_ro) (sub_of [0, 1] (by kernel_rfl)) ?_
      rintro v hp' ⟨rfl, rfl⟩
      by_cases hc1 : l.count l[i] = 1
      · rw [hc1]
        refine wpa_take true [(26, []), (27, [])] [(53, Value.bool false), (3, Value.int IntKind.i64 (↑i : Int)), (2, Value.bool false), (1, Value.pointer (some { block := g1, off := 0 }))] (#[true, true, true, true, true, true, true, true, true, true, true, true, true, true, true, true, true, true, true, true, true, true, true, true, true, true, true, true]) [] (n := 0) (by kernel_rfl) (by kernel_rfl) (by kernel_rfl) trivial ?_
        refine wpa_done 0 (by kernel_rfl) ?_
        refine nx_then ?_
        refine wpc_false (by kernel_rfl) ?_
        refine wpc_skip ?_
        refine nx_block ?_
        refine nx_then ?_
        refine wpc_region [0, 1, 2] (by kernel_rfl) ?_
        refine wpr_run (l₂ := []) true [0, 1, 2] [] ([(3, Value.int IntKind.i64 ((↑i : Int) + 1)), (2, Value.bool false), (1, Value.pointer (some { block := g1, off := 0 }))]) [ro (some { block := w1, off := o1 }) (ints l), Ch.blk g1 24 [Value.int IntKind.i64 H, Value.slice (some { block := w1, off := o1 }) l.length c]] ([inI64 ((↑i : Int) + (1 : Int))]) (by kernel_rfl) (by kernel_rfl) ⟨by unfold inI64; omega, trivial⟩ ?_
        refine wpr_nil ?_
        exact fun a' w' hS' => ⟨⟨i + 1, by omega, fun j hj => by
                  rcases Nat.lt_or_ge j i with h1 | h1
                  · exact h j h1
                  · have : j = i := by omega
                    subst this; exact ⟨hcl, heq, hc1⟩⟩, by dsimp only; omega, ent_fr (by kernel_rfl) _ _ (ent_hp [0, 0] rfl _ _ hS')⟩
      refine wpa_take true [(26, []), (27, [])] [(53, Value.bool ((↑(List.count l[i] l) : Int) != 1)), (3, Value.int IntKind.i64 (↑i : Int)), (2, Value.bool false), (1, Value.pointer (some { block := g1, off := 0 }))] (#[true, true, true, true, true, true, true, true, true, true, true, true, true, true, true, true, true, true, true, true, true, true, true, true, true, true, true, true]) [] (n := 0) (by kernel_rfl) (by kernel_rfl) (by kernel_rfl) trivial ?_
      refine wpa_done 0 (by kernel_rfl) ?_
      refine nx_then ?_
      refine wpc_ent (ent_set 53 (Value.bool ((↑(List.count l[i] l) : Int) != 1)) (Value.bool true) (by kernel_rfl) (congrArg _ (by simp only [bne_iff_ne, ne_eq]; omega))) ?_
      refine wpc_true (by kernel_rfl) ?_
      refine wpc_seq ?_
      refine wpc_region [0] (by kernel_rfl) ?_
      refine wpr_run (l₂ := []) true [0] [] [(2, Value.bool false), (3, Value.int IntKind.i64 (↑i : Int)), (1, Value.pointer (some { block := g1, off := 0 }))] [ro (some { block := w1, off := o1 }) (ints l), Ch.blk g1 24 [Value.int IntKind.i64 H, Value.slice (some { block := w1, off := o1 }) l.length c]] [] (by kernel_rfl) (by kernel_rfl) trivial ?_
      refine wpr_nil ?_
      refine nx_then ?_
      refine wpc_ret ?_
      refine nx_block_ret ?_
      refine nx_then_ret ?_
      refine nx_then_ret ?_
      refine nx_block_ret ?_
      refine nx_then_ret ?_
      refine nx_end (hp' := []) (rest := [ro (some { block := w1, off := o1 }) (ints l), Ch.blk g1 24 [Value.int IntKind.i64 H, Value.slice (some { block := w1, off := o1 }) l.length c]]) [] ((Value.bool false)) (by kernel_rfl) (by kernel_rfl) (give [] (by kernel_rfl)) (by first | ((repeat (first | exact trivial | refine ⟨trivial, ?_⟩)); done) | assumption) ?_ (.inr rfl)
      exact ⟨by rw [hno (hbad fun _ _ h => absurd h hc1)], rfl⟩
    · refine wpc_exit ?_
      refine nx_then_exit ?_
      refine nx_then_exit ?_
      refine nx_block_here ?_
      refine nx_then ?_
      refine wpc_seq ?_
      refine wpc_region [0] (by kernel_rfl) ?_
      refine wpr_run (l₂ := []) true [0] [] [(2, Value.bool true)] [ro a (ints l), Ch.blk g1 24 [Value.int IntKind.i64 H, Value.slice a l.length c]] [] (by kernel_rfl) (by kernel_rfl) trivial ?_
      refine wpr_nil ?_
      refine nx_then ?_
      refine wpc_ret ?_
      refine nx_end (hp' := []) (rest := [ro a (ints l), Ch.blk g1 24 [Value.int IntKind.i64 H, Value.slice a l.length c]]) [] ((Value.bool true)) (by kernel_rfl) (by kernel_rfl) (give [] (by kernel_rfl)) (by first | ((repeat (first | exact trivial | refine ⟨trivial, ?_⟩)); done) | assumption) ?_ (.inr rfl)
      exact ⟨by unfold rightB; rw [decide_eq_true (ok_count H l hH (by omega) fun j hj => h j (by omega))], rfl⟩
  · have hz : H ≠ 0 := fun h => hH (.inl h)
    have h1 : cl H = false := by
      cases hc : cl H
      · rfl
      · exact absurd (.inr hc) hH
    refine fn_enter Try.func23 rfl 54 rfl fun w0 h0 => ?_
    refine wpc_seq ?_
    refine wpc_region [0, 1] (by kernel_rfl) ?_
    refine wpr_new (l₂ := [1]) true [0] [] (fun g1 => [(1, Value.pointer (some { block := g1, off := 0 }))]) (fun g1 => [ro a (ints l), Ch.blk g1 24 [Value.int IntKind.i64 H, Value.slice a l.length c]]) (fun g1 => []) (fun g1 => by kernel_rfl) (fun g1 => by kernel_rfl) (fun g1 => trivial) fun g1 => ?_
    refine wpr_run (l₂ := []) true [1] [] [(2, Value.bool false), (1, Value.pointer (some { block := g1, off := 0 }))] [ro a (ints l), Ch.blk g1 24 [Value.int IntKind.i64 H, Value.slice a l.length c]] [] (by kernel_rfl) (by kernel_rfl) trivial ?_
    refine wpr_nil ?_
    refine nx_then ?_
    refine wpc_seq ?_
    refine wpc_seq ?_
    refine wpc_region [0, 1, 2, 3, 4, 5, 6, 7, 8, 9, 10, 11, 12, 13, 14] (by kernel_rfl) ?_
    refine wpr_run (l₂ := [4, 5, 6, 7, 8, 9, 10, 11, 12, 13, 14]) true [0, 1, 2, 3] [1] [(7, Value.bool (H != 0)), (2, Value.bool false), (1, Value.pointer (some { block := g1, off := 0 }))] [ro a (ints l), Ch.blk g1 24 [Value.int IntKind.i64 H, Value.slice a l.length c]] [] (by kernel_rfl) (by kernel_rfl) trivial ?_
    refine wpr_ent (ent_set 7 (Value.bool (H != 0)) (Value.bool true) (by kernel_rfl) (congrArg _ (by simpa using hz))) ?_
    refine wpr_run (l₂ := [6, 7, 8, 9, 10, 11, 12, 13, 14]) true [4, 5] [1] [(9, Value.int IntKind.i64 H), (7, Value.bool true), (2, Value.bool false), (1, Value.pointer (some { block := g1, off := 0 }))] [ro a (ints l), Ch.blk g1 24 [Value.int IntKind.i64 H, Value.slice a l.length c]] [] (by kernel_rfl) (by kernel_rfl) trivial ?_
    refine wpr_call (dst := some 10) (rest := [ro a (ints l), Ch.blk g1 24 [Value.int IntKind.i64 H, Value.slice a l.length c]]) (by kernel_rfl) (rClient_spec H) (give [] (by kernel_rfl)) ?_
    rintro v hp' ⟨rfl, rfl⟩
    rw [h1]
    refine wpr_run (l₂ := []) true [7, 8, 9, 10, 11, 12, 13, 14] [] [(18, Value.bool true), (2, Value.bool false), (1, Value.pointer (some { block := g1, off := 0 }))] [ro a (ints l), Ch.blk g1 24 [Value.int IntKind.i64 H, Value.slice a l.length c]] [] (by kernel_rfl) (by kernel_rfl) trivial ?_
    refine wpr_nil ?_
    refine nx_then ?_
    refine wpc_true (by kernel_rfl) ?_
    refine wpc_seq ?_
    refine wpc_region [0] (by kernel_rfl) ?_
    refine wpr_run (l₂ := []) true [0] [] [(2, Value.bool false), (1, Value.pointer (some { block := g1, off := 0 }))] [ro a (ints l), Ch.blk g1 24 [Value.int IntKind.i64 H, Value.slice a l.length c]] [] (by kernel_rfl) (by kernel_rfl) trivial ?_
    refine wpr_nil ?_
    refine nx_then ?_
    refine wpc_ret ?_
    refine nx_then_ret ?_
    refine nx_end (hp' := []) (rest := [ro a (ints l), Ch.blk g1 24 [Value.int IntKind.i64 H, Value.slice a l.length c]]) [] ((Value.bool false)) (by kernel_rfl) (by kernel_rfl) (give [] (by kernel_rfl)) (by first | ((repeat (first | exact trivial | refine ⟨trivial, ?_⟩)); done) | assumption) ?_ (.inr rfl)
    exact ⟨by rw [hno (fun h => hH h.1)], rfl⟩

theorem rCheck_spec (H : Int) (a : Option Addr) (c : Nat) (l : List Int) (ha : a = none → l = []) (hl : l.length ≤ 1099511627776) :
    Does Try.prog 17 [fl H a l.length c] [ro a (ints l)] (fun r hp' => r = .int .i64 (chk H l) ∧ hp' = []) := by
  refine fn_enter Try.func17 rfl 6 rfl fun w0 h0 => ?_
  refine wpc_seq ?_
  refine wpc_region [0, 1] (by kernel_rfl) ?_
  refine wpr_new (l₂ := [1]) true [0] [] (fun g1 => [(1, Value.pointer (some { block := g1, off := 0 }))]) (fun g1 => [ro a (ints l), Ch.blk g1 24 [Value.int IntKind.i64 H, Value.slice a l.length c]]) (fun g1 => []) (fun g1 => by kernel_rfl) (fun g1 => by kernel_rfl) (fun g1 => trivial) fun g1 => ?_
  refine wpr_run (l₂ := []) true [1] [] [(2, Value.int IntKind.i64 0), (1, Value.pointer (some { block := g1, off := 0 }))] [ro a (ints l), Ch.blk g1 24 [Value.int IntKind.i64 H, Value.slice a l.length c]] [] (by kernel_rfl) (by kernel_rfl) trivial ?_
  refine wpr_nil ?_
  refine nx_then ?_
  refine wpc_seq ?_
  refine wpc_seq ?_
  refine wpc_region [0, 1, 2] (by kernel_rfl) ?_
  refine wpr_run (l₂ := [1, 2]) true [0] [1, 1] [(3, Value.agg #[Value.int IntKind.i64 H, Value.slice a l.length c]), (2, Value.int IntKind.i64 0)] [ro a (ints l), Ch.blk g1 24 [Value.int IntKind.i64 H, Value.slice a l.length c]] [] (by kernel_rfl) (by kernel_rfl) trivial ?_
  refine wpr_call (dst := some 4) (rest := [ro a (ints l), Ch.blk g1 24 [Value.int IntKind.i64 H, Value.slice a l.length c]]) (by kernel_rfl) (Right_spec H a c l ha hl) (Give.view (c := (ro a (ints l))) (give (pre := []) (rest := [ro a (ints l), Ch.blk g1 24 [Value.int IntKind.i64 H, Value.slice a l.length c]]) [] (by kernel_rfl)) 0 (by kernel_rfl) view_ro) ?_
  rintro v hp' ⟨rfl, rfl⟩
  unfold rightB
  by_cases hok : Ok H l
  · rw [decide_eq_true hok]
    refine wpr_run (l₂ := []) true [2] [] [(5, Value.bool false), (2, Value.int IntKind.i64 0)] [ro a (ints l), Ch.blk g1 24 [Value.int IntKind.i64 H, Value.slice a l.length c]] [] (by kernel_rfl) (by kernel_rfl) trivial ?_
    refine wpr_nil ?_
    refine nx_then ?_
    refine wpc_false (by kernel_rfl) ?_
    refine wpc_skip ?_
    refine nx_then ?_
    refine wpc_seq ?_
    refine wpc_region [0] (by kernel_rfl) ?_
    refine wpr_run (l₂ := []) true [0] [] [(2, Value.int IntKind.i64 0)] [ro a (ints l), Ch.blk g1 24 [Value.int IntKind.i64 H, Value.slice a l.length c]] [] (by kernel_rfl) (by kernel_rfl) trivial ?_
    refine wpr_nil ?_
    refine nx_then ?_
    refine wpc_ret ?_
    refine nx_end (hp' := []) (rest := [ro a (ints l), Ch.blk g1 24 [Value.int IntKind.i64 H, Value.slice a l.length c]]) [] ((Value.int IntKind.i64 0)) (by kernel_rfl) (by kernel_rfl) (give [] (by kernel_rfl)) (by first | ((repeat (first | exact trivial | refine ⟨trivial, ?_⟩)); done) | assumption) ?_ (.inr rfl)
    exact ⟨by rw [chk, if_pos hok], rfl⟩
  · rw [decide_eq_false hok]
    refine wpr_run (l₂ := []) true [2] [] [(5, Value.bool true), (2, Value.int IntKind.i64 0)] [ro a (ints l), Ch.blk g1 24 [Value.int IntKind.i64 H, Value.slice a l.length c]] [] (by kernel_rfl) (by kernel_rfl) trivial ?_
    refine wpr_nil ?_
    refine nx_then ?_
    refine wpc_true (by kernel_rfl) ?_
    refine wpc_seq ?_
    refine wpc_region [0] (by kernel_rfl) ?_
    refine wpr_run (l₂ := []) true [0] [] [(2, Value.int IntKind.i64 4)] [ro a (ints l), Ch.blk g1 24 [Value.int IntKind.i64 H, Value.slice a l.length c]] [] (by kernel_rfl) (by kernel_rfl) trivial ?_
    refine wpr_nil ?_
    refine nx_then ?_
    refine wpc_ret ?_
    refine nx_then_ret ?_
    refine nx_end (hp' := []) (rest := [ro a (ints l), Ch.blk g1 24 [Value.int IntKind.i64 H, Value.slice a l.length c]]) [] ((Value.int IntKind.i64 4)) (by kernel_rfl) (by kernel_rfl) (give [] (by kernel_rfl)) (by first | ((repeat (first | exact trivial | refine ⟨trivial, ?_⟩)); done) | assumption) ?_ (.inr rfl)
    exact ⟨by rw [chk, if_neg hok], rfl⟩
theorem rbad_spec (H : Int) (a : Option Addr) (c : Nat) (l : List Int) (x : Int) (ha : a = none → l = []) (hl : l.length ≤ 1099511627776) :
    Does Try.prog 27 [fl H a l.length c, .int .i64 x] [ro a (ints l)] (fun r hp' => r = .int .i64 (bad H l x) ∧ hp' = []) := by
  refine fn_enter Try.func27 rfl 11 rfl fun w0 h0 => ?_
  refine wpc_seq ?_
  refine wpc_region [0, 1] (by kernel_rfl) ?_
  refine wpr_new (l₂ := [1]) true [0] [] (fun g1 => [(2, Value.pointer (some { block := g1, off := 0 })), (1, Value.int IntKind.i64 x)]) (fun g1 => [ro a (ints l), Ch.blk g1 24 [Value.int IntKind.i64 H, Value.slice a l.length c]]) (fun g1 => []) (fun g1 => by kernel_rfl) (fun g1 => by kernel_rfl) (fun g1 => trivial) fun g1 => ?_
  refine wpr_run (l₂ := []) true [1] [] [(4, Value.int IntKind.i64 0), (2, Value.pointer (some { block := g1, off := 0 })), (1, Value.int IntKind.i64 x)] [ro a (ints l), Ch.blk g1 24 [Value.int IntKind.i64 H, Value.slice a l.length c]] [] (by kernel_rfl) (by kernel_rfl) trivial ?_
  refine wpr_nil ?_
  refine nx_then ?_
  refine wpc_seq ?_
  refine wpc_seq ?_
  refine wpc_region [0, 1, 2] (by kernel_rfl) ?_
  refine wpr_run (l₂ := [1, 2]) true [0] [1, 1] [(5, Value.agg #[Value.int IntKind.i64 H, Value.slice a l.length c]), (4, Value.int IntKind.i64 0), (1, Value.int IntKind.i64 x)] [ro a (ints l), Ch.blk g1 24 [Value.int IntKind.i64 H, Value.slice a l.length c]] [] (by kernel_rfl) (by kernel_rfl) trivial ?_
  refine wpr_call (dst := some 6) (rest := [ro a (ints l), Ch.blk g1 24 [Value.int IntKind.i64 H, Value.slice a l.length c]]) (by kernel_rfl) (Right_spec H a c l ha hl) (Give.view (c := (ro a (ints l))) (give (pre := []) (rest := [ro a (ints l), Ch.blk g1 24 [Value.int IntKind.i64 H, Value.slice a l.length c]]) [] (by kernel_rfl)) 0 (by kernel_rfl) view_ro) ?_
  rintro v hp' ⟨rfl, rfl⟩
  unfold rightB bad
  by_cases hok : Ok H l
  · rw [decide_eq_true hok]
    refine wpr_run (l₂ := []) true [2] [] [(7, Value.bool false), (4, Value.int IntKind.i64 0), (1, Value.int IntKind.i64 x)] [ro a (ints l), Ch.blk g1 24 [Value.int IntKind.i64 H, Value.slice a l.length c]] [] (by kernel_rfl) (by kernel_rfl) trivial ?_
    refine wpr_nil ?_
    refine nx_then ?_
    refine wpc_false (by kernel_rfl) ?_
    refine wpc_skip ?_
    refine nx_then ?_
    refine wpc_seq ?_
    refine wpc_seq ?_
    refine wpc_region [0, 1, 2] (by kernel_rfl) ?_
    refine wpr_run (l₂ := [1, 2]) true [0] [] [(8, Value.int IntKind.i64 x), (4, Value.int IntKind.i64 0)] [ro a (ints l), Ch.blk g1 24 [Value.int IntKind.i64 H, Value.slice a l.length c]] [] (by kernel_rfl) (by kernel_rfl) trivial ?_
    refine wpr_call (dst := some 9) (rest := [ro a (ints l), Ch.blk g1 24 [Value.int IntKind.i64 H, Value.slice a l.length c]]) (by kernel_rfl) (rClient_spec x) (give [] (by kernel_rfl)) ?_
    rintro v hp' ⟨rfl, rfl⟩
    cases hx : cl x
    · refine wpr_run (l₂ := []) true [2] [] [(10, Value.bool true), (4, Value.int IntKind.i64 0)] [ro a (ints l), Ch.blk g1 24 [Value.int IntKind.i64 H, Value.slice a l.length c]] [] (by kernel_rfl) (by kernel_rfl) trivial ?_
      refine wpr_nil ?_
      refine nx_then ?_
      refine wpc_true (by kernel_rfl) ?_
      refine wpc_seq ?_
      refine wpc_region [0] (by kernel_rfl) ?_
      refine wpr_run (l₂ := []) true [0] [] [(4, Value.int IntKind.i64 2)] [ro a (ints l), Ch.blk g1 24 [Value.int IntKind.i64 H, Value.slice a l.length c]] [] (by kernel_rfl) (by kernel_rfl) trivial ?_
      refine wpr_nil ?_
      refine nx_then ?_
      refine wpc_ret ?_
      refine nx_then_ret ?_
      refine nx_end (hp' := []) (rest := [ro a (ints l), Ch.blk g1 24 [Value.int IntKind.i64 H, Value.slice a l.length c]]) [] ((Value.int IntKind.i64 2)) (by kernel_rfl) (by kernel_rfl) (give [] (by kernel_rfl)) (by first | ((repeat (first | exact trivial | refine ⟨trivial, ?_⟩)); done) | assumption) ?_ (.inr rfl)
      exact ⟨by rw [if_pos hok, if_neg (by decide)], rfl⟩
    · refine wpr_run (l₂ := []) true [2] [] [(10, Value.bool false), (4, Value.int IntKind.i64 0)] [ro a (ints l), Ch.blk g1 24 [Value.int IntKind.i64 H, Value.slice a l.length c]] [] (by kernel_rfl) (by kernel_rfl) trivial ?_
      refine wpr_nil ?_
      refine nx_then ?_
      refine wpc_false (by kernel_rfl) ?_
      refine wpc_skip ?_
      refine nx_then ?_
      refine wpc_seq ?_
      refine wpc_region [0] (by kernel_rfl) ?_
      refine wpr_run (l₂ := []) true [0] [] [(4, Value.int IntKind.i64 0)] [ro a (ints l), Ch.blk g1 24 [Value.int IntKind.i64 H, Value.slice a l.length c]] [] (by kernel_rfl) (by kernel_rfl) trivial ?_
      refine wpr_nil ?_
      refine nx_then ?_
      refine wpc_ret ?_
      refine nx_end (hp' := []) (rest := [ro a (ints l), Ch.blk g1 24 [Value.int IntKind.i64 H, Value.slice a l.length c]]) [] ((Value.int IntKind.i64 0)) (by kernel_rfl) (by kernel_rfl) (give [] (by kernel_rfl)) (by first | ((repeat (first | exact trivial | refine ⟨trivial, ?_⟩)); done) | assumption) ?_ (.inr rfl)
      exact ⟨by rw [if_pos hok, if_pos rfl], rfl⟩
  · rw [decide_eq_false hok]
    refine wpr_run (l₂ := []) true [2] [] [(7, Value.bool true), (4, Value.int IntKind.i64 0), (1, Value.int IntKind.i64 x)] [ro a (ints l), Ch.blk g1 24 [Value.int IntKind.i64 H, Value.slice a l.length c]] [] (by kernel_rfl) (by kernel_rfl) trivial ?_
    refine wpr_nil ?_
    refine nx_then ?_
    refine wpc_true (by kernel_rfl) ?_
    refine wpc_seq ?_
    refine wpc_region [0] (by kernel_rfl) ?_
    refine wpr_run (l₂ := []) true [0] [] [(4, Value.int IntKind.i64 4), (1, Value.int IntKind.i64 x)] [ro a (ints l), Ch.blk g1 24 [Value.int IntKind.i64 H, Value.slice a l.length c]] [] (by kernel_rfl) (by kernel_rfl) trivial ?_
    refine wpr_nil ?_
    refine nx_then ?_
    refine wpc_ret ?_
    refine nx_then_ret ?_
    refine nx_end (hp' := []) (rest := [ro a (ints l), Ch.blk g1 24 [Value.int IntKind.i64 H, Value.slice a l.length c]]) [] ((Value.int IntKind.i64 4)) (by kernel_rfl) (by kernel_rfl) (give [] (by kernel_rfl)) (by first | ((repeat (first | exact trivial | refine ⟨trivial, ?_⟩)); done) | assumption) ?_ (.inr rfl)
    exact ⟨by rw [if_neg hok], rfl⟩
end Go.Proofs.Ytoagfnobfbfdfaa
