import Derived.Test.YtpfhleghgkeemaaGreatDoorH3
import Derived.Test.YtpfhleghgkeemaaGreatDoorX16
namespace Go.Proofs.YtpfhleghgkeemaaGreatDoor
open Go Go.Sx
set_option linter.unusedSimpArgs false

/-- May a byte stand in a text? -/
def plB (c : Int) : Bool := c == 10 || (decide (32 ≤ c) && decide (c ≤ 126))
theorem bad_spec (c : Int) : Does Tryz.prog 137 [.int .i32 c] [] (fun v hp' => v = .bool (!plB c) ∧ hp' = []) := by
  unfold plB
  rcases (by omega : (c = 10) ∨ (¬ c = 10 ∧ c < 32) ∨ (¬ c = 10 ∧ 32 ≤ c ∧ c ≤ 126) ∨ (¬ c = 10 ∧ 32 ≤ c ∧ ¬ c ≤ 126)) with h1 | ⟨h1, h2⟩ | ⟨h1, h2, h3⟩ | ⟨h1, h2, h3⟩
  · refine fn_enter Tryz.func137 rfl 13 rfl fun w0 h0 => ?_
    refine wpc_seq ?_
    refine wpc_region [0] (by kernel_rfl) ?_
    refine wpr_run (l₂ := []) true [0] [] [(2, .bool false), (0, .int .i32 c)] [] [] (by kernel_rfl) (by kernel_rfl) trivial ?_
    refine wpr_nil (nx_then (wpc_seq ?_))
    refine wpc_region [0, 1, 2, 3, 4, 5, 6, 7, 8, 9, 10] (by kernel_rfl) ?_
    refine wpr_run (l₂ := [3, 4, 5, 6, 7, 8, 9, 10]) true [0, 1, 2] [] [(5, .bool (c != 10)), (2, .bool false), (0, .int .i32 c)] [] [] (by kernel_rfl) (by kernel_rfl) trivial ?_
    refine wpr_ent (ent_set 5 (.bool (c != 10)) (.bool false) (by kernel_rfl) (congrArg _ (by simp only [bne_eq_false_iff_eq, beq_eq_false_iff_ne, ne_eq]; omega))) ?_
    refine wpr_run (l₂ := []) true [3, 4, 5, 6, 7, 8, 9, 10] [] [(2, .bool false)] [] [] (by kernel_rfl) (by kernel_rfl) trivial ?_
    refine wpr_nil (nx_then ?_)
    refine wpc_ret ?_
    refine nx_end (hp' := []) (rest := []) [] ((.bool false)) (by kernel_rfl) (by kernel_rfl) give_all (by first | ((repeat (first | exact trivial | refine ⟨trivial, ?_⟩)); done) | assumption) ?_ (.inr rfl)
    exact ⟨by simp [h1], rfl⟩
  · refine fn_enter Tryz.func137 rfl 13 rfl fun w0 h0 => ?_
    refine wpc_seq ?_
    refine wpc_region [0] (by kernel_rfl) ?_
    refine wpr_run (l₂ := []) true [0] [] [(2, .bool false), (0, .int .i32 c)] [] [] (by kernel_rfl) (by kernel_rfl) trivial ?_
    refine wpr_nil (nx_then (wpc_seq ?_))
    refine wpc_region [0, 1, 2, 3, 4, 5, 6, 7, 8, 9, 10] (by kernel_rfl) ?_
    refine wpr_run (l₂ := [3, 4, 5, 6, 7, 8, 9, 10]) true [0, 1, 2] [] [(5, .bool (c != 10)), (2, .bool false), (0, .int .i32 c)] [] [] (by kernel_rfl) (by kernel_rfl) trivial ?_
    refine wpr_ent (ent_set 5 (.bool (c != 10)) (.bool true) (by kernel_rfl) (congrArg _ (by simp only [bne_iff_ne, beq_iff_eq, ne_eq]; omega))) ?_
    refine wpr_run (l₂ := [6, 7, 8, 9, 10]) true [3, 4, 5] [] [(8, .bool (decide (c < 32))), (5, .bool true), (2, .bool false), (0, .int .i32 c)] [] [] (by kernel_rfl) (by kernel_rfl) trivial ?_
    refine wpr_ent (ent_set 8 (.bool (decide (c < 32))) (.bool true) (by kernel_rfl) (congrArg _ (decide_eq_true (by omega)))) ?_
    refine wpr_run (l₂ := []) true [6, 7, 8, 9, 10] [] [(2, .bool true)] [] [] (by kernel_rfl) (by kernel_rfl) trivial ?_
    refine wpr_nil (nx_then ?_)
    refine wpc_ret ?_
    refine nx_end (hp' := []) (rest := []) [] ((.bool true)) (by kernel_rfl) (by kernel_rfl) give_all (by first | ((repeat (first | exact trivial | refine ⟨trivial, ?_⟩)); done) | assumption) ?_ (.inr rfl)
    exact ⟨by rw [Value.bool.injEq, Bool.eq_iff_iff]; simp; omega, rfl⟩
  · refine fn_enter Tryz.func137 rfl 13 rfl fun w0 h0 => ?_
    refine wpc_seq ?_
    refine wpc_region [0] (by kernel_rfl) ?_
    refine wpr_run (l₂ := []) true [0] [] [(2, .bool false), (0, .int .i32 c)] [] [] (by kernel_rfl) (by kernel_rfl) trivial ?_
    refine wpr_nil (nx_then (wpc_seq ?_))
    refine wpc_region [0, 1, 2, 3, 4, 5, 6, 7, 8, 9, 10] (by kernel_rfl) ?_
    refine wpr_run (l₂ := [3, 4, 5, 6, 7, 8, 9, 10]) true [0, 1, 2] [] [(5, .bool (c != 10)), (2, .bool false), (0, .int .i32 c)] [] [] (by kernel_rfl) (by kernel_rfl) trivial ?_
    refine wpr_ent (ent_set 5 (.bool (c != 10)) (.bool true) (by kernel_rfl) (congrArg _ (by simp only [bne_iff_ne, beq_iff_eq, ne_eq]; omega))) ?_
    refine wpr_run (l₂ := [6, 7, 8, 9, 10]) true [3, 4, 5] [] [(8, .bool (decide (c < 32))), (5, .bool true), (2, .bool false), (0, .int .i32 c)] [] [] (by kernel_rfl) (by kernel_rfl) trivial ?_
    refine wpr_ent (ent_set 8 (.bool (decide (c < 32))) (.bool false) (by kernel_rfl) (congrArg _ (decide_eq_false (by omega)))) ?_
    refine wpr_run (l₂ := []) true [6, 7, 8, 9, 10] [] [(2, .bool (decide (c > 126)))] [] [] (by kernel_rfl) (by kernel_rfl) trivial ?_
    refine wpr_nil (nx_then ?_)
    refine wpc_ret ?_
    refine nx_end (hp' := []) (rest := []) [] ((.bool (decide (c > 126)))) (by kernel_rfl) (by kernel_rfl) give_all (by first | ((repeat (first | exact trivial | refine ⟨trivial, ?_⟩)); done) | assumption) ?_ (.inr rfl)
    exact ⟨by rw [Value.bool.injEq, Bool.eq_iff_iff]; simp; omega, rfl⟩
  · refine fn_enter Tryz.func137 rfl 13 rfl fun w0 h0 => ?_
    refine wpc_seq ?_
    refine wpc_region [0] (by kernel_rfl) ?_
    refine wpr_run (l₂ := []) true [0] [] [(2, .bool false), (0, .int .i32 c)] [] [] (by kernel_rfl) (by kernel_rfl) trivial ?_
    refine wpr_nil (nx_then (wpc_seq ?_))
    refine wpc_region [0, 1, 2, 3, 4, 5, 6, 7, 8, 9, 10] (by kernel_rfl) ?_
    refine wpr_run (l₂ := [3, 4, 5, 6, 7, 8, 9, 10]) true [0, 1, 2] [] [(5, .bool (c != 10)), (2, .bool false), (0, .int .i32 c)] [] [] (by kernel_rfl) (by kernel_rfl) trivial ?_
    refine wpr_ent (ent_set 5 (.bool (c != 10)) (.bool true) (by kernel_rfl) (congrArg _ (by simp only [bne_iff_ne, beq_iff_eq, ne_eq]; omega))) ?_
    refine wpr_run (l₂ := [6, 7, 8, 9, 10]) true [3, 4, 5] [] [(8, .bool (decide (c < 32))), (5, .bool true), (2, .bool false), (0, .int .i32 c)] [] [] (by kernel_rfl) (by kernel_rfl) trivial ?_
    refine wpr_ent (ent_set 8 (.bool (decide (c < 32))) (.bool false) (by kernel_rfl) (congrArg _ (decide_eq_false (by omega)))) ?_
    refine wpr_run (l₂ := []) true [6, 7, 8, 9, 10] [] [(2, .bool (decide (c > 126)))] [] [] (by kernel_rfl) (by kernel_rfl) trivial ?_
    refine wpr_nil (nx_then ?_)
    refine wpc_ret ?_
    refine nx_end (hp' := []) (rest := []) [] ((.bool (decide (c > 126)))) (by kernel_rfl) (by kernel_rfl) give_all (by first | ((repeat (first | exact trivial | refine ⟨trivial, ?_⟩)); done) | assumption) ?_ (.inr rfl)
    exact ⟨by rw [Value.bool.injEq, Bool.eq_iff_iff]; simp; omega, rfl⟩
def pairsL : List (List UInt8) := [[92], [92, 92], [34], [92, 34], [10], [92, 110]]
theorem NewReplacer_spec (g0 : Nat) : Does Tryz.prog 139 [.slice (some ⟨g0, 0, none⟩) 6 6] [ro (some ⟨g0, 0, none⟩) (pairsL.map strV)] (fun v hp' => ∃ g a c, v = .pointer (some ⟨g, 0, none⟩) ∧ hp' = [.blk g 220 [.int .u32 0, .int .i32 0, .int .u32 0, .nilIface, .slice a 6 c], row 9 1 a 6 c (pairsL.map strV)]) := by
  refine fn_enter Tryz.func139 rfl 12 rfl fun w0 h0 => ?_
  refine wpc_seq ?_
  refine wpc_region [0] (by kernel_rfl) ?_
  refine wpr_run (l₂ := []) true [0] [] [(2, .pointer none), (0, .slice (some ⟨g0, 0, none⟩) 6 6)] [ro (some ⟨g0, 0, none⟩) (List.map strV pairsL)] [] (by kernel_rfl) (by kernel_rfl) trivial ?_
  refine wpr_nil (nx_then (wpc_seq (wpc_seq ?_)))
  refine wpc_region [0, 1, 2, 3] (by kernel_rfl) ?_
  refine wpr_run (l₂ := []) true [0, 1, 2, 3] [] [(6, .bool false), (2, .pointer none), (0, .slice (some ⟨g0, 0, none⟩) 6 6)] [ro (some ⟨g0, 0, none⟩) (List.map strV pairsL)] [(2 : Int) ≠ (0 : Int)] (by kernel_rfl) (by kernel_rfl) ⟨by omega, trivial⟩ ?_
  refine wpr_nil (nx_then ?_)
  refine wpc_false (by kernel_rfl) ?_
  refine wpc_skip ?_
  refine nx_then (wpc_seq ?_)
  refine wpc_region [0, 1, 2, 3, 4] (by kernel_rfl) ?_
  refine wpr_run (l₂ := [1, 2, 3, 4]) true [0] [] [(8, .slice (some ⟨g0, 0, none⟩) 6 6), (2, .pointer none)] [ro (some ⟨g0, 0, none⟩) (List.map strV pairsL)] [] (by kernel_rfl) (by kernel_rfl) trivial ?_
  refine wpr_ent (ent_nil 9 1) ?_
  refine wpr_app (a := none) (n := 0) (cap := 0) (x := (.slice (some ⟨g0, 0, none⟩) 6 6)) (t := 183) (xt := 183) (dst := some 9) (by kernel_rfl) (e := 9) (sz := 1) (bytes := 16) (by kernel_rfl) 0 (xs := []) (by kernel_rfl) (m := 6) (news := (pairsL.map strV)) (fun w h => src_ro h 1 rfl rfl (fun e => by cases e)) (by unfold maxLen; omega) (by omega) ?_
  intro a c hac
  refine wpr_new (l₂ := [4]) true [2, 3] [] (fun g1 => [(11, .pointer (some ⟨g1, 0, none⟩)), (2, .pointer none)]) (fun g1 => ([row 9 1 a 6 c ([] ++ List.map strV pairsL), ro (some ⟨g0, 0, none⟩) (List.map strV pairsL), .blk g1 220 [.int .u32 0, .int .i32 0, .int .u32 0, Value.nilIface, .slice a 6 c]])) (fun g1 => []) (fun g1 => by kernel_rfl) (fun g1 => by kernel_rfl) (fun g1 => trivial) fun g1 => ?_
  refine wpr_run (l₂ := []) true [4] [] [(2, .pointer (some ⟨g1, 0, none⟩))] ([row 9 1 a 6 c ([] ++ List.map strV pairsL), ro (some ⟨g0, 0, none⟩) (List.map strV pairsL), .blk g1 220 [.int .u32 0, .int .i32 0, .int .u32 0, Value.nilIface, .slice a 6 c]]) [] (by kernel_rfl) (by kernel_rfl) trivial ?_
  refine wpr_nil (nx_then ?_)
  refine wpc_ret ?_
  refine nx_end (hp' := ([.blk g1 220 [.int .u32 0, .int .i32 0, .int .u32 0, Value.nilIface, .slice a 6 c], row 9 1 a 6 c ([] ++ List.map strV pairsL)])) (rest := [ro (some ⟨g0, 0, none⟩) (List.map strV pairsL)]) [] ((.pointer (some ⟨g1, 0, none⟩))) (by kernel_rfl) (by kernel_rfl) (give [2, 0] (by kernel_rfl)) (by first | ((repeat (first | exact trivial | refine ⟨trivial, ?_⟩)); done) | assumption) ?_ (.inr rfl)
  exact ⟨g1, a, c, rfl, rfl⟩
theorem bLoad_spec (g : Nat) (v o1 o2 : Int) (r o : Value) : Does Tryz.prog 163 [.pointer (some ⟨g, 0, none⟩)] [.blk g 220 [.int .u32 v, .int .i32 o1, .int .u32 o2, r, o]] (fun x hp' => x = .bool (v != 0) ∧ hp' = [.blk g 220 [.int .u32 v, .int .i32 o1, .int .u32 o2, r, o]]) := by
  refine fn_enter Tryz.func163 rfl 8 rfl fun w0 h0 => ?_
  refine wpc_seq ?_
  refine wpc_region [0] (by kernel_rfl) ?_
  refine wpr_run (l₂ := []) true [0] [] [(2, .bool false), (0, .pointer (some ⟨g, 0, none⟩))] [.blk g 220 [.int .u32 v, .int .i32 o1, .int .u32 o2, r, o]] [] (by kernel_rfl) (by kernel_rfl) trivial ?_
  refine wpr_nil (nx_then (wpc_seq ?_))
  refine wpc_region [0, 1, 2, 3, 4, 5] (by kernel_rfl) ?_
  refine wpr_run (l₂ := []) true [0, 1, 2, 3, 4, 5] [0] [(2, .bool (v != 0))] [.blk g 220 [.int .u32 v, .int .i32 o1, .int .u32 o2, r, o]] [] (by kernel_rfl) (by kernel_rfl) trivial ?_
  refine wpr_nil (nx_then ?_)
  refine wpc_ret ?_
  refine nx_end (hp' := [.blk g 220 [.int .u32 v, .int .i32 o1, .int .u32 o2, r, o]]) (rest := []) [] ((.bool (v != 0))) (by kernel_rfl) (by kernel_rfl) give_all (by first | ((repeat (first | exact trivial | refine ⟨trivial, ?_⟩)); done) | assumption) ?_ (.inr rfl)
  exact ⟨rfl, rfl⟩
theorem b32_spec : Does Tryz.prog 182 [.bool true] [] (fun x hp' => x = .int .u32 1 ∧ hp' = []) := by
  refine fn_enter Tryz.func182 rfl 4 rfl fun w0 h0 => ?_
  refine wpc_seq ?_
  refine wpc_region [0] (by kernel_rfl) ?_
  refine wpr_run (l₂ := []) true [0] [] [(2, .int .u32 0), (0, .bool true)] [] [] (by kernel_rfl) (by kernel_rfl) trivial ?_
  refine wpr_nil (nx_then (wpc_seq (wpc_seq ?_)))
  refine wpc_region [0] (by kernel_rfl) ?_
  refine wpr_run (l₂ := []) true [0] [] [(3, .bool true), (2, .int .u32 0)] [] [] (by kernel_rfl) (by kernel_rfl) trivial ?_
  refine wpr_nil (nx_then ?_)
  refine wpc_true (by kernel_rfl) ?_
  refine wpc_seq ?_
  refine wpc_region [0] (by kernel_rfl) ?_
  refine wpr_run (l₂ := []) true [0] [] [(2, .int .u32 1)] [] [] (by kernel_rfl) (by kernel_rfl) trivial ?_
  refine wpr_nil (nx_then ?_)
  refine wpc_ret ?_
  refine nx_then_ret ?_
  refine nx_end (hp' := []) (rest := []) [] ((.int .u32 1)) (by kernel_rfl) (by kernel_rfl) give_all (by first | ((repeat (first | exact trivial | refine ⟨trivial, ?_⟩)); done) | assumption) ?_ (.inr rfl)
  exact ⟨rfl, rfl⟩
theorem bStore_spec (g : Nat) (v o1 o2 : Int) (r o : Value) : Does Tryz.prog 174 [.pointer (some ⟨g, 0, none⟩), .bool true] [.blk g 220 [.int .u32 v, .int .i32 o1, .int .u32 o2, r, o]] (fun x hp' => x = .tuple #[] ∧ hp' = [.blk g 220 [.int .u32 1, .int .i32 o1, .int .u32 o2, r, o]]) := by
  refine fn_enter Tryz.func174 rfl 10 rfl fun w0 h0 => ?_
  refine wpc_draw (by kernel_rfl) [] (sub_of [] (by kernel_rfl)) 6 (by kernel_rfl) ?_
  refine wpa_take true [(0, []), (1, []), (2, []), (3, [])] [(7, .bool true), (6, .pointer (some ⟨g, 0, none⟩))] (#[true, true, true, true, false, false]) [] (n := 2) (by kernel_rfl) (by kernel_rfl) (by kernel_rfl) trivial ?_
  refine wpa_call (i := 4) (n := 1) (dst := some 8) (rest := [.blk g 220 [.int .u32 v, .int .i32 o1, .int .u32 o2, r, o]]) (by kernel_rfl) (by kernel_rfl) (b32_spec) (give [] (by kernel_rfl)) (sub_of [] (by kernel_rfl)) ?_
  rintro v _ ⟨rfl, rfl⟩
  refine wpa_one (n := 0) true 5 [0] [] [.blk g 220 [.int .u32 1, .int .i32 o1, .int .u32 o2, r, o]] [] (by kernel_rfl) (by kernel_rfl) (by kernel_rfl) trivial (sub_of [] (by kernel_rfl)) ?_
  refine wpa_done 0 (by kernel_rfl) ?_
  refine nx_end (hp' := [.blk g 220 [.int .u32 1, .int .i32 o1, .int .u32 o2, r, o]]) (rest := []) [] ((Value.tuple #[])) (by kernel_rfl) (by kernel_rfl) give_all (by first | ((repeat (first | exact trivial | refine ⟨trivial, ?_⟩)); done) | assumption) ?_ (.inl rfl)
  exact ⟨rfl, rfl⟩
theorem iLock_spec (g : Nat) (v o2 : Int) (r o : Value) : Does Tryz.prog 179 [.pointer (some ⟨g, 1, none⟩)] [.blk g 220 [.int .u32 v, .int .i32 0, .int .u32 o2, r, o]] (fun x hp' => x = .tuple #[] ∧ hp' = [.blk g 220 [.int .u32 v, .int .i32 1, .int .u32 o2, r, o]]) := by
  refine fn_enter Tryz.func179 rfl 13 rfl fun w0 h0 => ?_
  refine wpc_seq ?_
  refine wpc_region [0] (by kernel_rfl) ?_
  refine wpr_run (l₂ := []) true [0] [] [(0, .pointer (some ⟨g, 1, none⟩))] [.blk g 220 [.int .u32 v, .int .i32 0, .int .u32 o2, r, o]] [] (by kernel_rfl) (by kernel_rfl) trivial ?_
  refine wpr_nil (nx_then (wpc_seq (wpc_seq ?_)))
  refine wpc_region [0, 1, 2, 3] (by kernel_rfl) ?_
  refine wpr_run (l₂ := []) true [0, 1, 2, 3] [0, 0, 0, 0] [(6, .bool true), (0, .pointer (some ⟨g, 1, none⟩))] [.blk g 220 [.int .u32 v, .int .i32 1, .int .u32 o2, r, o]] [] (by kernel_rfl) (by kernel_rfl) trivial ?_
  refine wpr_nil (nx_then ?_)
  refine wpc_true (by kernel_rfl) ?_
  refine wpc_seq ?_
  refine wpc_true (by kernel_rfl) ?_
  refine wpc_seq ?_
  refine wpc_region [0] (by kernel_rfl) ?_
  refine wpr_run (l₂ := []) true [0] [] [(0, .pointer (some ⟨g, 1, none⟩))] [.blk g 220 [.int .u32 v, .int .i32 1, .int .u32 o2, r, o]] [] (by kernel_rfl) (by kernel_rfl) trivial ?_
  refine wpr_nil (nx_then ?_)
  refine wpc_region [0, 1, 2] (by kernel_rfl) ?_
  refine wpr_run (l₂ := []) true [0, 1, 2] [0, 0] [(0, .pointer (some ⟨g, 1, none⟩))] [.blk g 220 [.int .u32 v, .int .i32 1, .int .u32 o2, r, o]] [] (by kernel_rfl) (by kernel_rfl) trivial ?_
  refine wpr_nil (nx_then ?_)
  refine wpc_ret ?_
  refine nx_then_ret ?_
  refine nx_end (hp' := [.blk g 220 [.int .u32 v, .int .i32 1, .int .u32 o2, r, o]]) (rest := []) [] ((Value.tuple #[])) (by kernel_rfl) (by kernel_rfl) give_all (by first | ((repeat (first | exact trivial | refine ⟨trivial, ?_⟩)); done) | assumption) ?_ (.inr rfl)
  exact ⟨rfl, rfl⟩
theorem Lock_spec (g : Nat) (v o2 : Int) (r o : Value) : Does Tryz.prog 172 [.pointer (some ⟨g, 1, none⟩)] [.blk g 220 [.int .u32 v, .int .i32 0, .int .u32 o2, r, o]] (fun x hp' => x = .tuple #[] ∧ hp' = [.blk g 220 [.int .u32 v, .int .i32 1, .int .u32 o2, r, o]]) := by
  refine fn_enter Tryz.func172 rfl 6 rfl fun w0 h0 => ?_
  refine wpc_region [0, 1, 2, 3] (by kernel_rfl) ?_
  refine wpr_run (l₂ := [3]) true [0, 1, 2] [] [(4, .pointer (some ⟨g, 1, none⟩))] [.blk g 220 [.int .u32 v, .int .i32 0, .int .u32 o2, r, o]] [] (by kernel_rfl) (by kernel_rfl) trivial ?_
  refine wpr_call_all (dst := some 5) (by kernel_rfl) (iLock_spec g v o2 r o) give_all ?_
  rintro v _ ⟨rfl, rfl⟩
  refine wpr_nil ?_
  refine nx_end (hp' := [.blk g 220 [.int .u32 v, .int .i32 1, .int .u32 o2, r, o]]) (rest := []) [] ((Value.tuple #[])) (by kernel_rfl) (by kernel_rfl) give_all (by first | ((repeat (first | exact trivial | refine ⟨trivial, ?_⟩)); done) | assumption) ?_ (.inl rfl)
  exact ⟨rfl, rfl⟩
theorem iUnlock_spec (g : Nat) (v o2 : Int) (r o : Value) : Does Tryz.prog 180 [.pointer (some ⟨g, 1, none⟩)] [.blk g 220 [.int .u32 v, .int .i32 1, .int .u32 o2, r, o]] (fun x hp' => x = .tuple #[] ∧ hp' = [.blk g 220 [.int .u32 v, .int .i32 0, .int .u32 o2, r, o]]) := by
  refine fn_enter Tryz.func180 rfl 21 rfl fun w0 h0 => ?_
  refine wpc_seq ?_
  refine wpc_true (by kernel_rfl) ?_
  refine wpc_seq ?_
  refine wpc_region [0, 1, 2, 3] (by kernel_rfl) ?_
  refine wpr_run (l₂ := []) true [0, 1, 2, 3] [0] [(0, .pointer (some ⟨g, 1, none⟩))] [.blk g 220 [.int .u32 v, .int .i32 1, .int .u32 o2, r, o]] [] (by kernel_rfl) (by kernel_rfl) trivial ?_
  refine wpr_nil (nx_then (wpc_seq ?_))
  refine wpc_region [0, 1, 2] (by kernel_rfl) ?_
  refine wpr_run (l₂ := []) true [0, 1, 2] [0, 0] [(0, .pointer (some ⟨g, 1, none⟩))] [.blk g 220 [.int .u32 v, .int .i32 1, .int .u32 o2, r, o]] [] (by kernel_rfl) (by kernel_rfl) trivial ?_
  refine wpr_nil (nx_then ?_)
  refine wpc_region [0] (by kernel_rfl) ?_
  refine wpr_run (l₂ := []) true [0] [] [(0, .pointer (some ⟨g, 1, none⟩))] [.blk g 220 [.int .u32 v, .int .i32 1, .int .u32 o2, r, o]] [] (by kernel_rfl) (by kernel_rfl) trivial ?_
  refine wpr_nil (nx_then (wpc_seq ?_))
  refine wpc_region [0, 1, 2, 3, 4] (by kernel_rfl) ?_
  refine wpr_run (l₂ := []) true [0, 1, 2, 3, 4] [0, 0] [(2, .int .i32 0), (0, .pointer (some ⟨g, 1, none⟩))] [.blk g 220 [.int .u32 v, .int .i32 0, .int .u32 o2, r, o]] [] (by kernel_rfl) (by kernel_rfl) trivial ?_
  refine wpr_nil (nx_then (wpc_seq (wpc_seq ?_)))
  refine wpc_region [0, 1] (by kernel_rfl) ?_
  refine wpr_run (l₂ := []) true [0, 1] [] [(16, .bool false), (2, .int .i32 0), (0, .pointer (some ⟨g, 1, none⟩))] [.blk g 220 [.int .u32 v, .int .i32 0, .int .u32 o2, r, o]] [] (by kernel_rfl) (by kernel_rfl) trivial ?_
  refine wpr_nil (nx_then ?_)
  refine wpc_false (by kernel_rfl) ?_
  refine wpc_skip ?_
  refine nx_then ?_
  refine wpc_region [0] (by kernel_rfl) ?_
  refine wpr_run (l₂ := []) true [0] [] [] [.blk g 220 [.int .u32 v, .int .i32 0, .int .u32 o2, r, o]] [] (by kernel_rfl) (by kernel_rfl) trivial ?_
  refine wpr_nil ?_
  refine nx_end (hp' := [.blk g 220 [.int .u32 v, .int .i32 0, .int .u32 o2, r, o]]) (rest := []) [] ((Value.tuple #[])) (by kernel_rfl) (by kernel_rfl) give_all (by first | ((repeat (first | exact trivial | refine ⟨trivial, ?_⟩)); done) | assumption) ?_ (.inl rfl)
  exact ⟨rfl, rfl⟩
theorem Unlock_spec (g : Nat) (v o2 : Int) (r o : Value) : Does Tryz.prog 173 [.pointer (some ⟨g, 1, none⟩)] [.blk g 220 [.int .u32 v, .int .i32 1, .int .u32 o2, r, o]] (fun x hp' => x = .tuple #[] ∧ hp' = [.blk g 220 [.int .u32 v, .int .i32 0, .int .u32 o2, r, o]]) := by
  refine fn_enter Tryz.func173 rfl 6 rfl fun w0 h0 => ?_
  refine wpc_region [0, 1, 2, 3] (by kernel_rfl) ?_
  refine wpr_run (l₂ := [3]) true [0, 1, 2] [] [(4, .pointer (some ⟨g, 1, none⟩))] [.blk g 220 [.int .u32 v, .int .i32 1, .int .u32 o2, r, o]] [] (by kernel_rfl) (by kernel_rfl) trivial ?_
  refine wpr_call_all (dst := some 5) (by kernel_rfl) (iUnlock_spec g v o2 r o) give_all ?_
  rintro v _ ⟨rfl, rfl⟩
  refine wpr_nil ?_
  refine nx_end (hp' := [.blk g 220 [.int .u32 v, .int .i32 0, .int .u32 o2, r, o]]) (rest := []) [] ((Value.tuple #[])) (by kernel_rfl) (by kernel_rfl) give_all (by first | ((repeat (first | exact trivial | refine ⟨trivial, ?_⟩)); done) | assumption) ?_ (.inl rfl)
  exact ⟨rfl, rfl⟩
end Go.Proofs.YtpfhleghgkeemaaGreatDoor
