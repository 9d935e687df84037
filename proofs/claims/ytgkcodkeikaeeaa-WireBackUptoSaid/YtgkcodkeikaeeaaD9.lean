import Derived.Test.YtgkcodkeikaeeaaD8
import Derived.Test.YtgkcodkeikaeeaaX12
namespace Go.Proofs.Ytgkcodkeikaeeaa
open Go Go.Sx
set_option linter.unusedVariables false
set_option linter.unusedSimpArgs false

set_option maxHeartbeats 4000000 in
theorem WireBack_spec (n : Int) (b : Bool) (t : List UInt8) (am : Option Addr) (cm : Nat) (more : List UInt8) (h1 : -9223372036854775808 ≤ n) (h2 : n ≤ 9223372036854775807) (ht : t.length ≤ 1048576) (hm : am = none → more = []) (hml : more.length ≤ 1048576) :
    Does Try.prog 7 [.int .i64 n, .bool b, .string (mkS t), .slice am more.length cm] [ro am (u8s more)] (fun v hp' => v = .bool true ∧ hp' = []) := by
  refine fn_enter Try.func7 rfl 71 rfl fun w0 h0 => ?_
  have hEn := encI_len h1 h2
  have hEt := encI_len (n := t.length) (by omega) (by omega)
  obtain ⟨L, hL⟩ : ∃ L, L = encI n ++ encB b ++ encT t := ⟨_, rfl⟩
  have hLl : L.length = (encI n).length + 1 + (encT t).length := by rw [hL]; simp [encB]; omega
  have hTl : (encT t).length = (encI t.length).length + t.length := by simp [encT]
  have hLm : (L ++ more).length = L.length + more.length := List.length_append
  have r1 : rd (0 : Int) 0 0 (num ((L ++ more).drop 0)) = (n, (encI n).length, 0) := by
    rw [List.drop_zero, hL, List.append_assoc, List.append_assoc, num_encI h1 h2]
    unfold rd; simp
  have d1 : (L ++ more).drop (encI n).length = encB b ++ (encT t ++ more) := by
    rw [hL, List.append_assoc, List.append_assoc, List.drop_left]
  have r2 : rd false (encI n).length 0 (bol ((L ++ more).drop (encI n).length)) = (b, (encI n).length + 1, 0) := by
    rw [d1, bol_encB]; unfold rd; simp
  have d2 : (L ++ more).drop ((encI n).length + 1) = encT t ++ more := by
    rw [← List.drop_drop, d1]; rfl
  have r3 : rd ([] : List UInt8) ((encI n).length + 1) 0 (txt ((L ++ more).drop ((encI n).length + 1)) t.length) = (t, L.length, 0) := by
    rw [d2, txt_encT t (by omega) _ (by omega)]; unfold rd; simp; omega
  refine wpc_seq ?_
  refine wpc_region [0] (by kernel_rfl) ?_
  refine wpr_run (l₂ := []) true [0] [] [(8, Value.bool false), (0, Value.int IntKind.i64 n), (1, Value.bool b), (2, Value.string (mkS t)), (3, Value.slice am more.length cm)] [ro am (u8s more)] [] (by kernel_rfl) (by kernel_rfl) trivial ?_
  refine wpr_nil ?_
  refine nx_then ?_
  refine wpc_seq ?_
  refine wpc_region [0, 1, 2, 3, 4, 5, 6] (by kernel_rfl) ?_
  refine wpr_run (l₂ := [1, 2, 3, 4, 5, 6]) true [0] [] [(14, Value.int IntKind.i64 n), (8, Value.bool false), (0, Value.int IntKind.i64 n), (1, Value.bool b), (2, Value.string (mkS t)), (3, Value.slice am more.length cm)] [ro am (u8s more)] [] (by kernel_rfl) (by kernel_rfl) trivial ?_
  refine wpr_ent (ent_nil 5 1) ?_
  refine wpr_call (dst := some 15) (rest := [ro am (u8s more)]) (by kernel_rfl) (PutInt_spec none 0 [] n h1 h2 (by decide)) (give [0] (by kernel_rfl)) ?_
  rintro v hp' ⟨a1, c1, rfl, rfl⟩
  rw [List.nil_append]
  refine wpr_run (l₂ := [3, 4, 5, 6]) true [2] [] [(16, Value.bool b), (15, Value.slice a1 (encI n).length c1), (8, Value.bool false), (0, Value.int IntKind.i64 n), (1, Value.bool b), (2, Value.string (mkS t)), (3, Value.slice am more.length cm)] [row 5 1 a1 (encI n).length c1 (u8s (encI n)), ro am (u8s more)] [] (by kernel_rfl) (by kernel_rfl) trivial ?_
  refine wpr_call (dst := some 17) (rest := [ro am (u8s more)]) (by kernel_rfl) (PutBool_spec a1 c1 (encI n) b (by omega)) (give [0] (by kernel_rfl)) ?_
  rintro v hp' ⟨a2, c2, rfl, rfl⟩
  refine wpr_run (l₂ := [5, 6]) true [4] [] ([(18, Value.string (mkS t)), (17, Value.slice a2 (encI n ++ encB b).length c2), (8, Value.bool false), (0, Value.int IntKind.i64 n), (1, Value.bool b), (2, Value.string (mkS t)), (3, Value.slice am more.length cm)]) ([row 5 1 a2 (encI n ++ encB b).length c2 (u8s (encI n ++ encB b)), ro am (u8s more)]) [] (by kernel_rfl) (by kernel_rfl) trivial ?_
  refine wpr_call (dst := some 19) (rest := [ro am (u8s more)]) (by kernel_rfl) (PutText_spec a2 c2 (encI n ++ encB b) t (by simp [encB]; omega) (by omega)) (give [0] (by kernel_rfl)) ?_
  rintro v hp' ⟨a3, c3, rfl, rfl⟩
  rw [← hL]
  refine wpr_run (l₂ := []) true [6] [] [(9, Value.slice a3 L.length c3), (8, Value.bool false), (0, Value.int IntKind.i64 n), (1, Value.bool b), (2, Value.string (mkS t)), (3, Value.slice am more.length cm)] [row 5 1 a3 L.length c3 (u8s L), ro am (u8s more)] [] (by kernel_rfl) (by kernel_rfl) trivial ?_
  refine wpr_nil ?_
  refine nx_then ?_
  refine wpc_seq ?_
  refine wpc_region [0, 1, 2, 3, 4] (by kernel_rfl) ?_
  refine wpr_run (l₂ := [2, 3, 4]) true [0, 1] [] [(21, Value.slice am more.length cm), (20, Value.slice a3 L.length c3), (9, Value.slice a3 L.length c3), (8, Value.bool false), (0, Value.int IntKind.i64 n), (1, Value.bool b), (2, Value.string (mkS t)), (3, Value.slice am more.length cm)] [row 5 1 a3 L.length c3 (u8s L), ro am (u8s more)] [] (by kernel_rfl) (by kernel_rfl) trivial ?_
  refine wpr_app (a := a3) (n := L.length) (cap := c3) (x := (Value.slice am more.length cm)) (t := 22) (xt := 22) (dst := some 22) (by kernel_rfl) (e := 5) (sz := 1) (bytes := 1) (by kernel_rfl) 0 (xs := (u8s L)) (by kernel_rfl) (m := (more.length)) (news := (u8s more)) (fun w h => src_ro h 1 rfl (by simp [u8s_len]) (fun e => by rw [hm e]; rfl)) (by unfold maxLen; omega) (by omega) ?_
  intro a4 c4 hn4
  rw [show u8s L ++ u8s more = u8s (L ++ more) from by simp [u8s], ← hLm]
  refine wpr_fact (fun w h => row_none h 0 rfl) fun hnn => ?_
  refine wpr_call (dst := some 23) (rest := ([row 5 1 a4 (L ++ more).length c4 (u8s (L ++ more)), ro am (u8s more)])) (by kernel_rfl) (NewReader_spec a4 c4 (L ++ more) (fun e => by simpa [u8s] using hnn e)) (Give.view (c := (row 5 1 a4 (L ++ more).length c4 (u8s (L ++ more)))) (give (pre := []) (rest := ([row 5 1 a4 (L ++ more).length c4 (u8s (L ++ more)), ro am (u8s more)])) [] (by kernel_rfl)) 0 (by kernel_rfl) view_row) ?_
  rintro v hp' ⟨r, rfl, rfl⟩
  refine wpr_run (l₂ := []) true [4] [] [(10, Value.pointer (some { block := r, off := 0 })), (9, Value.slice a3 L.length c3), (8, Value.bool false), (0, Value.int IntKind.i64 n), (1, Value.bool b), (2, Value.string (mkS t)), (3, Value.slice am more.length cm)] ([Ch.blk r 52 [Value.bool true, Value.string (mkS (L ++ more)), Value.int IntKind.i64 0, Value.int IntKind.i64 0], row 5 1 a4 (L ++ more).length c4 (u8s (L ++ more)), ro am (u8s more)]) [] (by kernel_rfl) (by kernel_rfl) trivial ?_
  refine wpr_nil ?_
  refine nx_then ?_
  refine wpc_seq ?_
  refine wpc_seq ?_
  refine wpc_region [0, 1] (by kernel_rfl) ?_
  refine wpr_run (l₂ := []) true [0, 1] [] [(25, Value.bool false), (10, Value.pointer (some { block := r, off := 0 })), (9, Value.slice a3 L.length c3), (8, Value.bool false), (0, Value.int IntKind.i64 n), (1, Value.bool b), (2, Value.string (mkS t)), (3, Value.slice am more.length cm)] ([Ch.blk r 52 [Value.bool true, Value.string (mkS (L ++ more)), Value.int IntKind.i64 0, Value.int IntKind.i64 0], row 5 1 a4 (L ++ more).length c4 (u8s (L ++ more)), ro am (u8s more)]) [] (by kernel_rfl) (by kernel_rfl) trivial ?_
  refine wpr_nil ?_
  refine nx_then ?_
  refine wpc_false (by kernel_rfl) ?_
  refine wpc_skip ?_
  refine nx_then ?_
  refine wpc_seq ?_
  refine wpc_region [0, 1, 2, 3, 4, 5, 6, 7, 8, 9, 10] (by kernel_rfl) ?_
  refine wpr_run (l₂ := [1, 2, 3, 4, 5, 6, 7, 8, 9, 10]) true [0] [] [(26, Value.pointer (some { block := r, off := 0 })), (10, Value.pointer (some { block := r, off := 0 })), (9, Value.slice a3 L.length c3), (8, Value.bool false), (0, Value.int IntKind.i64 n), (1, Value.bool b), (2, Value.string (mkS t)), (3, Value.slice am more.length cm)] ([Ch.blk r 52 [Value.bool true, Value.string (mkS (L ++ more)), Value.int IntKind.i64 0, Value.int IntKind.i64 0], row 5 1 a4 (L ++ more).length c4 (u8s (L ++ more)), ro am (u8s more)]) [] (by kernel_rfl) (by kernel_rfl) trivial ?_
  refine wpr_call (dst := some 27) (rest := ([row 5 1 a4 (L ++ more).length c4 (u8s (L ++ more)), ro am (u8s more)])) (by kernel_rfl) (Int_spec r 0 (L ++ more) 0 (by omega) (by omega)) (give [0] (by kernel_rfl)) ?_
  rintro v hp' ⟨rfl, rfl⟩
  rw [r1]
  refine wpr_run (l₂ := [3, 4, 5, 6, 7, 8, 9, 10]) true [2] [] [(28, Value.pointer (some { block := r, off := 0 })), (27, Value.int IntKind.i64 n), (10, Value.pointer (some { block := r, off := 0 })), (9, Value.slice a3 L.length c3), (8, Value.bool false), (0, Value.int IntKind.i64 n), (1, Value.bool b), (2, Value.string (mkS t)), (3, Value.slice am more.length cm)] ([Ch.blk r 52 [Value.bool true, Value.string (mkS (L ++ more)), Value.int IntKind.i64 (↑(encI n).length : Int), Value.int IntKind.i64 0], row 5 1 a4 (L ++ more).length c4 (u8s (L ++ more)), ro am (u8s more)]) [] (by kernel_rfl) (by kernel_rfl) trivial ?_
  refine wpr_call (dst := some 29) (rest := ([row 5 1 a4 (L ++ more).length c4 (u8s (L ++ more)), ro am (u8s more)])) (by kernel_rfl) (Bool_spec r (encI n).length (L ++ more) 0 (by omega) (by omega)) (give [0] (by kernel_rfl)) ?_
  rintro v hp' ⟨rfl, rfl⟩
  rw [r2]
  refine wpr_run (l₂ := [7, 8, 9, 10]) true [4, 5, 6] [] [(32, Value.int IntKind.i64 (↑t.length : Int)), (30, Value.pointer (some { block := r, off := 0 })), (29, Value.bool b), (27, Value.int IntKind.i64 n), (10, Value.pointer (some { block := r, off := 0 })), (9, Value.slice a3 L.length c3), (8, Value.bool false), (0, Value.int IntKind.i64 n), (1, Value.bool b), (2, Value.string (mkS t)), (3, Value.slice am more.length cm)] ([Ch.blk r 52 [Value.bool true, Value.string (mkS (L ++ more)), Value.int IntKind.i64 (↑((encI n).length + 1) : Int), Value.int IntKind.i64 0], row 5 1 a4 (L ++ more).length c4 (u8s (L ++ more)), ro am (u8s more)]) [] (by kernel_rfl) (by kernel_rfl) trivial ?_
  refine wpr_call (dst := some 33) (rest := ([row 5 1 a4 (L ++ more).length c4 (u8s (L ++ more)), ro am (u8s more)])) (by kernel_rfl) (Text_spec r ((encI n).length + 1) (L ++ more) 0 t.length (by omega) (by omega)) (give [0] (by kernel_rfl)) ?_
  rintro v hp' ⟨rfl, rfl⟩
  rw [r3]
  refine wpr_run (l₂ := []) true [8, 9, 10] [] [(13, Value.string (mkS t)), (12, Value.bool b), (11, Value.int IntKind.i64 n), (10, Value.pointer (some { block := r, off := 0 })), (9, Value.slice a3 L.length c3), (8, Value.bool false), (0, Value.int IntKind.i64 n), (1, Value.bool b), (2, Value.string (mkS t)), (3, Value.slice am more.length cm)] ([Ch.blk r 52 [Value.bool true, Value.string (mkS (L ++ more)), Value.int IntKind.i64 (↑L.length : Int), Value.int IntKind.i64 0], row 5 1 a4 (L ++ more).length c4 (u8s (L ++ more)), ro am (u8s more)]) [] (by kernel_rfl) (by kernel_rfl) trivial ?_
  refine wpr_nil ?_
  refine nx_then ?_
  refine wpc_seq ?_
  refine wpc_region [0, 1, 2, 3, 4, 5, 6, 7, 8, 9, 10, 11, 12, 13, 14, 15, 16, 17, 18, 19, 20, 21, 22, 23, 24, 25, 26, 27, 28, 29, 30, 31, 32, 33, 34, 35, 36, 37] (by kernel_rfl) ?_
  refine wpr_run (l₂ := [4, 5, 6, 7, 8, 9, 10, 11, 12, 13, 14, 15, 16, 17, 18, 19, 20, 21, 22, 23, 24, 25, 26, 27, 28, 29, 30, 31, 32, 33, 34, 35, 36, 37]) true [0, 1, 2, 3] [] [(37, Value.bool (n == n)), (13, Value.string (mkS t)), (12, Value.bool b), (10, Value.pointer (some { block := r, off := 0 })), (9, Value.slice a3 L.length c3), (8, Value.bool false), (1, Value.bool b), (2, Value.string (mkS t)), (3, Value.slice am more.length cm)] ([Ch.blk r 52 [Value.bool true, Value.string (mkS (L ++ more)), Value.int IntKind.i64 (↑L.length : Int), Value.int IntKind.i64 0], row 5 1 a4 (L ++ more).length c4 (u8s (L ++ more)), ro am (u8s more)]) [] (by kernel_rfl) (by kernel_rfl) trivial ?_
  refine wpr_ent (ent_set 37 (Value.bool (n == n)) (Value.bool true) (by kernel_rfl) (congrArg _ (by simp))) ?_
  refine wpr_run (l₂ := [9, 10, 11, 12, 13, 14, 15, 16, 17, 18, 19, 20, 21, 22, 23, 24, 25, 26, 27, 28, 29, 30, 31, 32, 33, 34, 35, 36, 37]) true [4, 5, 6, 7, 8] [] [(42, Value.bool (b == b)), (13, Value.string (mkS t)), (10, Value.pointer (some { block := r, off := 0 })), (9, Value.slice a3 L.length c3), (8, Value.bool false), (2, Value.string (mkS t)), (3, Value.slice am more.length cm)] ([Ch.blk r 52 [Value.bool true, Value.string (mkS (L ++ more)), Value.int IntKind.i64 (↑L.length : Int), Value.int IntKind.i64 0], row 5 1 a4 (L ++ more).length c4 (u8s (L ++ more)), ro am (u8s more)]) [] (by kernel_rfl) (by kernel_rfl) trivial ?_
  refine wpr_ent (ent_set 42 (Value.bool (b == b)) (Value.bool true) (by kernel_rfl) (congrArg _ (by simp))) ?_
  refine wpr_run (l₂ := [14, 15, 16, 17, 18, 19, 20, 21, 22, 23, 24, 25, 26, 27, 28, 29, 30, 31, 32, 33, 34, 35, 36, 37]) true [9, 10, 11, 12, 13] [] [(47, Value.bool (decide (t = t))), (10, Value.pointer (some { block := r, off := 0 })), (9, Value.slice a3 L.length c3), (8, Value.bool false), (3, Value.slice am more.length cm)] ([Ch.blk r 52 [Value.bool true, Value.string (mkS (L ++ more)), Value.int IntKind.i64 (↑L.length : Int), Value.int IntKind.i64 0], row 5 1 a4 (L ++ more).length c4 (u8s (L ++ more)), ro am (u8s more)]) [] (by kernel_rfl) (by kernel_rfl) trivial ?_
  refine wpr_ent (ent_set 47 (Value.bool (decide (t = t))) (Value.bool true) (by kernel_rfl) (congrArg _ (by simp))) ?_
  refine wpr_run (l₂ := [15, 16, 17, 18, 19, 20, 21, 22, 23, 24, 25, 26, 27, 28, 29, 30, 31, 32, 33, 34, 35, 36, 37]) true [14] [] [(48, Value.pointer (some { block := r, off := 0 })), (47, Value.bool true), (10, Value.pointer (some { block := r, off := 0 })), (9, Value.slice a3 L.length c3), (8, Value.bool false), (3, Value.slice am more.length cm)] ([Ch.blk r 52 [Value.bool true, Value.string (mkS (L ++ more)), Value.int IntKind.i64 (↑L.length : Int), Value.int IntKind.i64 0], row 5 1 a4 (L ++ more).length c4 (u8s (L ++ more)), ro am (u8s more)]) [] (by kernel_rfl) (by kernel_rfl) trivial ?_
  refine wpr_call (dst := some 49) (rest := ([row 5 1 a4 (L ++ more).length c4 (u8s (L ++ more)), ro am (u8s more)])) (by kernel_rfl) (Err_spec r (L ++ more) L.length 0) (give [0] (by kernel_rfl)) ?_
  rintro v hp' ⟨rfl, rfl⟩
  refine wpr_run (l₂ := [20, 21, 22, 23, 24, 25, 26, 27, 28, 29, 30, 31, 32, 33, 34, 35, 36, 37]) true [16, 17, 18, 19] [] [(53, Value.pointer (some { block := r, off := 0 })), (52, Value.bool true), (10, Value.pointer (some { block := r, off := 0 })), (9, Value.slice a3 L.length c3), (8, Value.bool false), (3, Value.slice am more.length cm)] ([Ch.blk r 52 [Value.bool true, Value.string (mkS (L ++ more)), Value.int IntKind.i64 (↑L.length : Int), Value.int IntKind.i64 0], row 5 1 a4 (L ++ more).length c4 (u8s (L ++ more)), ro am (u8s more)]) [] (by kernel_rfl) (by kernel_rfl) trivial ?_
  refine wpr_call (dst := some 54) (rest := ([row 5 1 a4 (L ++ more).length c4 (u8s (L ++ more)), ro am (u8s more)])) (by kernel_rfl) (At_spec r (L ++ more) L.length 0) (give [0] (by kernel_rfl)) ?_
  rintro v hp' ⟨rfl, rfl⟩
  refine wpr_run (l₂ := [26, 27, 28, 29, 30, 31, 32, 33, 34, 35, 36, 37]) true [21, 22, 23, 24, 25] [] [(59, Value.bool ((↑L.length : Int) == (↑L.length : Int))), (10, Value.pointer (some { block := r, off := 0 })), (8, Value.bool false), (3, Value.slice am more.length cm)] ([Ch.blk r 52 [Value.bool true, Value.string (mkS (L ++ more)), Value.int IntKind.i64 (↑L.length : Int), Value.int IntKind.i64 0], row 5 1 a4 (L ++ more).length c4 (u8s (L ++ more)), ro am (u8s more)]) [] (by kernel_rfl) (by kernel_rfl) trivial ?_
  refine wpr_ent (ent_set 59 (Value.bool ((↑L.length : Int) == (↑L.length : Int))) (Value.bool true) (by kernel_rfl) (congrArg _ (by simp))) ?_
  refine wpr_run (l₂ := [27, 28, 29, 30, 31, 32, 33, 34, 35, 36, 37]) true [26] [] [(60, Value.pointer (some { block := r, off := 0 })), (59, Value.bool true), (8, Value.bool false), (3, Value.slice am more.length cm)] ([Ch.blk r 52 [Value.bool true, Value.string (mkS (L ++ more)), Value.int IntKind.i64 (↑L.length : Int), Value.int IntKind.i64 0], row 5 1 a4 (L ++ more).length c4 (u8s (L ++ more)), ro am (u8s more)]) [] (by kernel_rfl) (by kernel_rfl) trivial ?_
  refine wpr_call (dst := some 61) (rest := ([row 5 1 a4 (L ++ more).length c4 (u8s (L ++ more)), ro am (u8s more)])) (by kernel_rfl) (End_spec r (L ++ more) L.length 0) (give [0] (by kernel_rfl)) ?_
  rintro v hp' ⟨rfl, rfl⟩
  refine wpr_run (l₂ := [35, 36, 37]) true [28, 29, 30, 31, 32, 33, 34] [] ([(68, Value.bool ((endE (L ++ more) (↑L.length : Int) 0 == 0) == ((↑more.length : Int) == 0))), (8, Value.bool false)]) ([Ch.blk r 52 [Value.bool true, Value.string (mkS (L ++ more)), Value.int IntKind.i64 (↑L.length : Int), Value.int IntKind.i64 0], row 5 1 a4 (L ++ more).length c4 (u8s (L ++ more)), ro am (u8s more)]) [] (by kernel_rfl) (by kernel_rfl) trivial ?_
  have hq : ((endE (L ++ more) L.length 0 == 0) == ((more.length : Int) == 0)) = true := by
    unfold endE
    rw [if_neg (by simp)]
    by_cases hz : more = []
    · subst hz; simp
    · have hz2 : 0 < more.length := List.length_pos_iff.2 hz
      rw [if_pos (by omega)]
      have : ((more.length : Int) == 0) = false := beq_eq_false_iff_ne.2 (by omega)
      rw [this]; rfl
  refine wpr_ent (ent_set 68 (Value.bool ((endE (L ++ more) (↑L.length : Int) 0 == 0) == ((↑more.length : Int) == 0))) (Value.bool true) (by kernel_rfl) (congrArg _ hq)) ?_
  refine wpr_call (dst := some 69) (rest := ([Ch.blk r 52 [Value.bool true, Value.string (mkS (L ++ more)), Value.int IntKind.i64 (↑L.length : Int), Value.int IntKind.i64 0], row 5 1 a4 (L ++ more).length c4 (u8s (L ++ more)), ro am (u8s more)])) (by kernel_rfl) (lives_spec) (give [] (by kernel_rfl)) ?_
  rintro v hp' ⟨rfl, rfl⟩
  refine wpr_run (l₂ := []) true [36, 37] [] [(8, Value.bool true)] ([Ch.blk r 52 [Value.bool true, Value.string (mkS (L ++ more)), Value.int IntKind.i64 (↑L.length : Int), Value.int IntKind.i64 0], row 5 1 a4 (L ++ more).length c4 (u8s (L ++ more)), ro am (u8s more)]) [] (by kernel_rfl) (by kernel_rfl) trivial ?_
  refine wpr_nil ?_
  refine nx_then ?_
  refine wpc_ret ?_
  refine nx_end (hp' := []) (rest := ([Ch.blk r 52 [Value.bool true, Value.string (mkS (L ++ more)), Value.int IntKind.i64 (↑L.length : Int), Value.int IntKind.i64 0], row 5 1 a4 (L ++ more).length c4 (u8s (L ++ more)), ro am (u8s more)])) [] ((Value.bool true)) (by kernel_rfl) (by kernel_rfl) (give [] (by kernel_rfl)) (by first | ((repeat (first | exact trivial | refine ⟨trivial, ?_⟩)); done) | assumption) ?_ (.inr rfl)
  exact ⟨rfl, rfl⟩
end Go.Proofs.Ytgkcodkeikaeeaa
