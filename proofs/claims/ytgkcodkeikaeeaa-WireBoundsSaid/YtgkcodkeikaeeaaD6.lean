import Derived.Test.YtgkcodkeikaeeaaD5
import Derived.Test.YtgkcodkeikaeeaaX12
namespace Go.Proofs.Ytgkcodkeikaeeaa
open Go Go.Sx
set_option linter.unusedVariables false
set_option linter.unusedSimpArgs false

/-- A piece of reading done by a reader: value, place, what went wrong. -/
def rd {α : Type} (z : α) (A : Nat) (e : Int) (x : α × Int × Int) : α × Nat × Int := if e ≠ 0 then (z, A, e) else if x.2.2 ≠ 0 then (z, A, x.2.2) else (x.1, A + x.2.1.toNat, 0)

theorem read_number (r A : Nat) (s : List UInt8) (e : Int) (hA : A ≤ s.length) (hl : s.length ≤ 140737488352000) :
    Does Try.prog 29 [.pointer (some ⟨r, 0, none⟩), .func (.func 30) #[] #[]] [rdr r s A e] (fun v hp' => v = .int .i64 (rd 0 A e (num (s.drop A))).1 ∧ hp' = [rdr r s (rd 0 A e (num (s.drop A))).2.1 (rd 0 A e (num (s.drop A))).2.2]) := by
  refine fn_enter Try.func29 rfl 44 rfl fun w0 h0 => ?_
  have hok := num_ok (s.drop A)
  rw [List.length_drop] at hok
  unfold rd
  refine wpc_seq ?_
  refine wpc_region [0] (by kernel_rfl) ?_
  refine wpr_run (l₂ := []) true [0] [] [(4, Value.int IntKind.i64 0), (0, Value.pointer (some { block := r, off := 0 })), (1, Value.func (Fn.func 30) #[] #[])] [Ch.blk r 52 [Value.bool true, Value.string (mkS s), Value.int IntKind.i64 (↑A : Int), Value.int IntKind.i64 e]] [] (by kernel_rfl) (by kernel_rfl) trivial ?_
  refine wpr_nil ?_
  refine nx_then ?_
  refine wpc_seq ?_
  refine wpc_region [0] (by kernel_rfl) ?_
  refine wpr_run (l₂ := []) true [0] [] [(5, Value.int IntKind.i64 0), (4, Value.int IntKind.i64 0), (0, Value.pointer (some { block := r, off := 0 })), (1, Value.func (Fn.func 30) #[] #[])] [Ch.blk r 52 [Value.bool true, Value.string (mkS s), Value.int IntKind.i64 (↑A : Int), Value.int IntKind.i64 e]] [] (by kernel_rfl) (by kernel_rfl) trivial ?_
  refine wpr_nil ?_
  refine nx_then ?_
  refine wpc_seq ?_
  refine wpc_seq ?_
  refine wpc_region [0, 1, 2] (by kernel_rfl) ?_
  refine wpr_run (l₂ := [1, 2]) true [0] [] [(9, Value.pointer (some { block := r, off := 0 })), (5, Value.int IntKind.i64 0), (4, Value.int IntKind.i64 0), (0, Value.pointer (some { block := r, off := 0 })), (1, Value.func (Fn.func 30) #[] #[])] [Ch.blk r 52 [Value.bool true, Value.string (mkS s), Value.int IntKind.i64 (↑A : Int), Value.int IntKind.i64 e]] [] (by kernel_rfl) (by kernel_rfl) trivial ?_
  refine wpr_call_all (dst := some 10) (by kernel_rfl) (Err_spec r s A e) give_all ?_
  rintro v hp' ⟨rfl, rfl⟩
  refine wpr_run (l₂ := []) true [2] [] [(11, Value.bool (e != 0)), (5, Value.int IntKind.i64 0), (4, Value.int IntKind.i64 0), (0, Value.pointer (some { block := r, off := 0 })), (1, Value.func (Fn.func 30) #[] #[])] [Ch.blk r 52 [Value.bool true, Value.string (mkS s), Value.int IntKind.i64 (↑A : Int), Value.int IntKind.i64 e]] [] (by kernel_rfl) (by kernel_rfl) trivial ?_
  refine wpr_nil ?_
  refine nx_then ?_
  refine wpc_cond ((e != 0)) (by kernel_rfl) (fun he => ?_) (fun he => ?_)
  · have he' : e ≠ 0 := by simpa using he
    rw [if_pos he']
    refine wpc_seq ?_
    refine wpc_region [0, 1] (by kernel_rfl) ?_
    refine wpr_run (l₂ := []) true [0, 1] [] [(4, Value.int IntKind.i64 0), (5, Value.int IntKind.i64 0), (0, Value.pointer (some { block := r, off := 0 })), (1, Value.func (Fn.func 30) #[] #[])] [Ch.blk r 52 [Value.bool true, Value.string (mkS s), Value.int IntKind.i64 (↑A : Int), Value.int IntKind.i64 e]] [] (by kernel_rfl) (by kernel_rfl) trivial ?_
    refine wpr_nil ?_
    refine nx_then ?_
    refine wpc_ret ?_
    refine nx_then_ret ?_
    refine nx_end (hp' := [Ch.blk r 52 [Value.bool true, Value.string (mkS s), Value.int IntKind.i64 (↑A : Int), Value.int IntKind.i64 e]]) (rest := []) [] ((Value.int IntKind.i64 0)) (by kernel_rfl) (by kernel_rfl) give_all (by first | ((repeat (first | exact trivial | refine ⟨trivial, ?_⟩)); done) | assumption) ?_ (.inr rfl)
    exact ⟨rfl, rfl⟩
  · have he' : ¬ e ≠ 0 := by simpa using he
    obtain rfl : e = 0 := Classical.not_not.1 he'
    rw [if_neg he']
    unfold rdr
    have hT : List.take ((s.length : Int) - (A : Int)).toNat (List.drop A s) = s.drop A := List.take_of_length_le (by rw [List.length_drop]; omega)
    refine wpc_skip ?_
    refine nx_then ?_
    refine wpc_seq ?_
    refine wpc_draw (by kernel_rfl) [Ch.blk r 52 [Value.bool true, Value.string (mkS s), Value.int IntKind.i64 (↑A : Int), Value.int IntKind.i64 0]] (sub_of [0] (by kernel_rfl)) 18 (by kernel_rfl) ?_
    refine wpa_take true [(0, []), (1, []), (2, []), (3, []), (4, [0]), (5, []), (6, []), (7, []), (8, [0]), (9, [])] [(23, Value.string (mkS (List.take ((↑s.length : Int) - (↑A : Int)).toNat (List.drop A s)))), (14, Value.func (Fn.func 30) #[] #[]), (5, Value.int IntKind.i64 0), (4, Value.int IntKind.i64 0), (0, Value.pointer (some { block := r, off := 0 }))] (#[true, true, true, true, true, true, true, true, true, true, false, false, false, false, false, false, false, false]) [(0 : Int) ≤ (↑A : Int) ∧ (↑A : Int) ≤ (↑s.length : Int)] (n := 8) (by kernel_rfl) (by kernel_rfl) (by kernel_rfl) ⟨by omega, trivial⟩ ?_
    rw [hT]
    refine wpa_call (i := 10) (n := 7) (dst := some 24) (rest := [Ch.blk r 52 [Value.bool true, Value.string (mkS s), Value.int IntKind.i64 (↑A : Int), Value.int IntKind.i64 0]]) (by kernel_rfl) (by kernel_rfl) (number_spec (s.drop A) (by rw [List.length_drop]; omega)) (give [] (by kernel_rfl)) (sub_of [0] (by kernel_rfl)) ?_
    rintro v hp' ⟨rfl, rfl⟩
    obtain ⟨x, u, y, hx⟩ : ∃ x u y, (num (s.drop A)) = (x, u, y) := ⟨_, _, _, rfl⟩
    rw [hx] at hok ⊢
    dsimp only at hok ⊢
    refine wpa_take true [(11, []), (12, []), (13, []), (14, []), (15, []), (16, []), (17, [])] [(8, Value.int IntKind.i64 y), (7, Value.int IntKind.i64 u), (6, Value.int IntKind.i64 x), (5, Value.int IntKind.i64 0), (4, Value.int IntKind.i64 0), (0, Value.pointer (some { block := r, off := 0 }))] (#[true, true, true, true, true, true, true, true, true, true, true, true, true, true, true, true, true, true]) [] (n := 0) (by kernel_rfl) (by kernel_rfl) (by kernel_rfl) trivial ?_
    refine wpa_done 0 (by kernel_rfl) ?_
    refine nx_then ?_
    refine wpc_seq ?_
    refine wpc_seq ?_
    refine wpc_region [0, 1] (by kernel_rfl) ?_
    refine wpr_run (l₂ := []) true [0, 1] [] [(29, Value.bool (y != 0)), (8, Value.int IntKind.i64 y), (7, Value.int IntKind.i64 u), (6, Value.int IntKind.i64 x), (5, Value.int IntKind.i64 0), (4, Value.int IntKind.i64 0), (0, Value.pointer (some { block := r, off := 0 }))] [Ch.blk r 52 [Value.bool true, Value.string (mkS s), Value.int IntKind.i64 (↑A : Int), Value.int IntKind.i64 0]] [] (by kernel_rfl) (by kernel_rfl) trivial ?_
    refine wpr_nil ?_
    refine nx_then ?_
    refine wpc_cond ((y != 0)) (by kernel_rfl) (fun hy => ?_) (fun hy => ?_)
    · have hy' : y ≠ 0 := by simpa using hy
      rw [if_pos hy']
      refine wpc_seq ?_
      refine wpc_region [0, 1, 2, 3, 4] (by kernel_rfl) ?_
      refine wpr_run (l₂ := []) true [0, 1, 2, 3, 4] [0] [(7, Value.int IntKind.i64 u), (6, Value.int IntKind.i64 x), (5, Value.int IntKind.i64 0), (4, Value.int IntKind.i64 0), (0, Value.pointer (some { block := r, off := 0 }))] [Ch.blk r 52 [Value.bool true, Value.string (mkS s), Value.int IntKind.i64 (↑A : Int), Value.int IntKind.i64 y]] [] (by kernel_rfl) (by kernel_rfl) trivial ?_
      refine wpr_nil ?_
      refine nx_then ?_
      refine wpc_seq ?_
      refine wpc_region [0, 1] (by kernel_rfl) ?_
      refine wpr_run (l₂ := []) true [0, 1] [] [(4, Value.int IntKind.i64 0), (7, Value.int IntKind.i64 u), (6, Value.int IntKind.i64 x), (0, Value.pointer (some { block := r, off := 0 }))] [Ch.blk r 52 [Value.bool true, Value.string (mkS s), Value.int IntKind.i64 (↑A : Int), Value.int IntKind.i64 y]] [] (by kernel_rfl) (by kernel_rfl) trivial ?_
      refine wpr_nil ?_
      refine nx_then ?_
      refine wpc_ret ?_
      refine nx_then_ret ?_
      refine nx_end (hp' := [Ch.blk r 52 [Value.bool true, Value.string (mkS s), Value.int IntKind.i64 (↑A : Int), Value.int IntKind.i64 y]]) (rest := []) [] ((Value.int IntKind.i64 0)) (by kernel_rfl) (by kernel_rfl) give_all (by first | ((repeat (first | exact trivial | refine ⟨trivial, ?_⟩)); done) | assumption) ?_ (.inr rfl)
      exact ⟨rfl, rfl⟩
    · have hy' : ¬ y ≠ 0 := by simpa using hy
      rw [if_neg hy']
      have hu : 0 < u ∧ u ≤ ((s.length - A : Nat) : Int) := by omega
      have hAu : ((A + u.toNat : Nat) : Int) = A + u := by omega
      dsimp only
      rw [hAu]
      refine wpc_skip ?_
      refine nx_then ?_
      refine wpc_seq ?_
      refine wpc_region [0, 1, 2, 3, 4, 5, 6, 7, 8] (by kernel_rfl) ?_
      refine wpr_run (l₂ := []) true [0, 1, 2, 3, 4, 5, 6, 7, 8] [0, 0] [(6, Value.int IntKind.i64 x), (4, Value.int IntKind.i64 0)] ([Ch.blk r 52 [Value.bool true, Value.string (mkS s), Value.int IntKind.i64 ((↑A : Int) + u), Value.int IntKind.i64 0]]) ([inI64 ((↑A : Int) + u)]) (by kernel_rfl) (by kernel_rfl) ⟨by unfold inI64; omega, trivial⟩ ?_
      refine wpr_nil ?_
      refine nx_then ?_
      refine wpc_seq ?_
      refine wpc_region [0, 1] (by kernel_rfl) ?_
      refine wpr_run (l₂ := []) true [0, 1] [] [(4, Value.int IntKind.i64 x)] ([Ch.blk r 52 [Value.bool true, Value.string (mkS s), Value.int IntKind.i64 ((↑A : Int) + u), Value.int IntKind.i64 0]]) [] (by kernel_rfl) (by kernel_rfl) trivial ?_
      refine wpr_nil ?_
      refine nx_then ?_
      refine wpc_ret ?_
      refine nx_end (hp' := ([Ch.blk r 52 [Value.bool true, Value.string (mkS s), Value.int IntKind.i64 ((↑A : Int) + u), Value.int IntKind.i64 0]])) (rest := []) [] ((Value.int IntKind.i64 x)) (by kernel_rfl) (by kernel_rfl) give_all (by first | ((repeat (first | exact trivial | refine ⟨trivial, ?_⟩)); done) | assumption) ?_ (.inr rfl)
      exact ⟨rfl, rfl⟩

theorem read_bol1 (r A : Nat) (s : List UInt8) (e : Int) (hA : A ≤ s.length) (hl : s.length ≤ 140737488352000) :
    Does Try.prog 36 [.pointer (some ⟨r, 0, none⟩), .func (.func 37) #[] #[]] [rdr r s A e] (fun v hp' => v = .bool (rd false A e (bol (s.drop A))).1 ∧ hp' = [rdr r s (rd false A e (bol (s.drop A))).2.1 (rd false A e (bol (s.drop A))).2.2]) := by
  refine fn_enter Try.func36 rfl 44 rfl fun w0 h0 => ?_
  have hok := bol_ok (s.drop A)
  rw [List.length_drop] at hok
  unfold rd
  refine wpc_seq ?_
  refine wpc_region [0] (by kernel_rfl) ?_
  refine wpr_run (l₂ := []) true [0] [] [(4, Value.bool false), (0, Value.pointer (some { block := r, off := 0 })), (1, Value.func (Fn.func 37) #[] #[])] [Ch.blk r 52 [Value.bool true, Value.string (mkS s), Value.int IntKind.i64 (↑A : Int), Value.int IntKind.i64 e]] [] (by kernel_rfl) (by kernel_rfl) trivial ?_
  refine wpr_nil ?_
  refine nx_then ?_
  refine wpc_seq ?_
  refine wpc_region [0] (by kernel_rfl) ?_
  refine wpr_run (l₂ := []) true [0] [] [(5, Value.bool false), (4, Value.bool false), (0, Value.pointer (some { block := r, off := 0 })), (1, Value.func (Fn.func 37) #[] #[])] [Ch.blk r 52 [Value.bool true, Value.string (mkS s), Value.int IntKind.i64 (↑A : Int), Value.int IntKind.i64 e]] [] (by kernel_rfl) (by kernel_rfl) trivial ?_
  refine wpr_nil ?_
  refine nx_then ?_
  refine wpc_seq ?_
  refine wpc_seq ?_
  refine wpc_region [0, 1, 2] (by kernel_rfl) ?_
  refine wpr_run (l₂ := [1, 2]) true [0] [] [(9, Value.pointer (some { block := r, off := 0 })), (5, Value.bool false), (4, Value.bool false), (0, Value.pointer (some { block := r, off := 0 })), (1, Value.func (Fn.func 37) #[] #[])] [Ch.blk r 52 [Value.bool true, Value.string (mkS s), Value.int IntKind.i64 (↑A : Int), Value.int IntKind.i64 e]] [] (by kernel_rfl) (by kernel_rfl) trivial ?_
  refine wpr_call_all (dst := some 10) (by kernel_rfl) (Err_spec r s A e) give_all ?_
  rintro v hp' ⟨rfl, rfl⟩
  refine wpr_run (l₂ := []) true [2] [] [(11, Value.bool (e != 0)), (5, Value.bool false), (4, Value.bool false), (0, Value.pointer (some { block := r, off := 0 })), (1, Value.func (Fn.func 37) #[] #[])] [Ch.blk r 52 [Value.bool true, Value.string (mkS s), Value.int IntKind.i64 (↑A : Int), Value.int IntKind.i64 e]] [] (by kernel_rfl) (by kernel_rfl) trivial ?_
  refine wpr_nil ?_
  refine nx_then ?_
  refine wpc_cond ((e != 0)) (by kernel_rfl) (fun he => ?_) (fun he => ?_)
  · have he' : e ≠ 0 := by simpa using he
    rw [if_pos he']
    refine wpc_seq ?_
    refine wpc_region [0, 1] (by kernel_rfl) ?_
    refine wpr_run (l₂ := []) true [0, 1] [] [(4, Value.bool false), (5, Value.bool false), (0, Value.pointer (some { block := r, off := 0 })), (1, Value.func (Fn.func 37) #[] #[])] [Ch.blk r 52 [Value.bool true, Value.string (mkS s), Value.int IntKind.i64 (↑A : Int), Value.int IntKind.i64 e]] [] (by kernel_rfl) (by kernel_rfl) trivial ?_
    refine wpr_nil ?_
    refine nx_then ?_
    refine wpc_ret ?_
    refine nx_then_ret ?_
    refine nx_end (hp' := [Ch.blk r 52 [Value.bool true, Value.string (mkS s), Value.int IntKind.i64 (↑A : Int), Value.int IntKind.i64 e]]) (rest := []) [] ((Value.bool false)) (by kernel_rfl) (by kernel_rfl) give_all (by first | ((repeat (first | exact trivial | refine ⟨trivial, ?_⟩)); done) | assumption) ?_ (.inr rfl)
    exact ⟨rfl, rfl⟩
  · have he' : ¬ e ≠ 0 := by simpa using he
    obtain rfl : e = 0 := Classical.not_not.1 he'
    rw [if_neg he']
    unfold rdr
    have hT : List.take ((s.length : Int) - (A : Int)).toNat (List.drop A s) = s.drop A := List.take_of_length_le (by rw [List.length_drop]; omega)
    refine wpc_skip ?_
    refine nx_then ?_
    refine wpc_seq ?_
    refine wpc_draw (by kernel_rfl) [Ch.blk r 52 [Value.bool true, Value.string (mkS s), Value.int IntKind.i64 (↑A : Int), Value.int IntKind.i64 0]] (sub_of [0] (by kernel_rfl)) 18 (by kernel_rfl) ?_
    refine wpa_take true [(0, []), (1, []), (2, []), (3, []), (4, [0]), (5, []), (6, []), (7, []), (8, [0]), (9, [])] [(23, Value.string (mkS (List.take ((↑s.length : Int) - (↑A : Int)).toNat (List.drop A s)))), (14, Value.func (Fn.func 37) #[] #[]), (5, Value.bool false), (4, Value.bool false), (0, Value.pointer (some { block := r, off := 0 }))] (#[true, true, true, true, true, true, true, true, true, true, false, false, false, false, false, false, false, false]) [(0 : Int) ≤ (↑A : Int) ∧ (↑A : Int) ≤ (↑s.length : Int)] (n := 8) (by kernel_rfl) (by kernel_rfl) (by kernel_rfl) ⟨by omega, trivial⟩ ?_
    rw [hT]
    refine wpa_call (i := 10) (n := 7) (dst := some 24) (rest := [Ch.blk r 52 [Value.bool true, Value.string (mkS s), Value.int IntKind.i64 (↑A : Int), Value.int IntKind.i64 0]]) (by kernel_rfl) (by kernel_rfl) (Bool1_spec (s.drop A) (by rw [List.length_drop]; omega)) (give [] (by kernel_rfl)) (sub_of [0] (by kernel_rfl)) ?_
    rintro v hp' ⟨rfl, rfl⟩
    obtain ⟨x, u, y, hx⟩ : ∃ x u y, (bol (s.drop A)) = (x, u, y) := ⟨_, _, _, rfl⟩
    rw [hx] at hok ⊢
    dsimp only at hok ⊢
    refine wpa_take true [(11, []), (12, []), (13, []), (14, []), (15, []), (16, []), (17, [])] [(8, Value.int IntKind.i64 y), (7, Value.int IntKind.i64 u), (6, Value.bool x), (5, Value.bool false), (4, Value.bool false), (0, Value.pointer (some { block := r, off := 0 }))] (#[true, true, true, true, true, true, true, true, true, true, true, true, true, true, true, true, true, true]) [] (n := 0) (by kernel_rfl) (by kernel_rfl) (by kernel_rfl) trivial ?_
    refine wpa_done 0 (by kernel_rfl) ?_
    refine nx_then ?_
    refine wpc_seq ?_
    refine wpc_seq ?_
    refine wpc_region [0, 1] (by kernel_rfl) ?_
    refine wpr_run (l₂ := []) true [0, 1] [] [(29, Value.bool (y != 0)), (8, Value.int IntKind.i64 y), (7, Value.int IntKind.i64 u), (6, Value.bool x), (5, Value.bool false), (4, Value.bool false), (0, Value.pointer (some { block := r, off := 0 }))] [Ch.blk r 52 [Value.bool true, Value.string (mkS s), Value.int IntKind.i64 (↑A : Int), Value.int IntKind.i64 0]] [] (by kernel_rfl) (by kernel_rfl) trivial ?_
    refine wpr_nil ?_
    refine nx_then ?_
    refine wpc_cond ((y != 0)) (by kernel_rfl) (fun hy => ?_) (fun hy => ?_)
    · have hy' : y ≠ 0 := by simpa using hy
      rw [if_pos hy']
      refine wpc_seq ?_
      refine wpc_region [0, 1, 2, 3, 4] (by kernel_rfl) ?_
      refine wpr_run (l₂ := []) true [0, 1, 2, 3, 4] [0] [(7, Value.int IntKind.i64 u), (6, Value.bool x), (5, Value.bool false), (4, Value.bool false), (0, Value.pointer (some { block := r, off := 0 }))] [Ch.blk r 52 [Value.bool true, Value.string (mkS s), Value.int IntKind.i64 (↑A : Int), Value.int IntKind.i64 y]] [] (by kernel_rfl) (by kernel_rfl) trivial ?_
      refine wpr_nil ?_
      refine nx_then ?_
      refine wpc_seq ?_
      refine wpc_region [0, 1] (by kernel_rfl) ?_
      refine wpr_run (l₂ := []) true [0, 1] [] [(4, Value.bool false), (7, Value.int IntKind.i64 u), (6, Value.bool x), (0, Value.pointer (some { block := r, off := 0 }))] [Ch.blk r 52 [Value.bool true, Value.string (mkS s), Value.int IntKind.i64 (↑A : Int), Value.int IntKind.i64 y]] [] (by kernel_rfl) (by kernel_rfl) trivial ?_
      refine wpr_nil ?_
      refine nx_then ?_
      refine wpc_ret ?_
      refine nx_then_ret ?_
      refine nx_end (hp' := [Ch.blk r 52 [Value.bool true, Value.string (mkS s), Value.int IntKind.i64 (↑A : Int), Value.int IntKind.i64 y]]) (rest := []) [] ((Value.bool false)) (by kernel_rfl) (by kernel_rfl) give_all (by first | ((repeat (first | exact trivial | refine ⟨trivial, ?_⟩)); done) | assumption) ?_ (.inr rfl)
      exact ⟨rfl, rfl⟩
    · have hy' : ¬ y ≠ 0 := by simpa using hy
      rw [if_neg hy']
      have hu : 0 < u ∧ u ≤ ((s.length - A : Nat) : Int) := by omega
      have hAu : ((A + u.toNat : Nat) : Int) = A + u := by omega
      dsimp only
      rw [hAu]
      refine wpc_skip ?_
      refine nx_then ?_
      refine wpc_seq ?_
      refine wpc_region [0, 1, 2, 3, 4, 5, 6, 7, 8] (by kernel_rfl) ?_
      refine wpr_run (l₂ := []) true [0, 1, 2, 3, 4, 5, 6, 7, 8] [0, 0] [(6, Value.bool x), (4, Value.bool false)] ([Ch.blk r 52 [Value.bool true, Value.string (mkS s), Value.int IntKind.i64 ((↑A : Int) + u), Value.int IntKind.i64 0]]) ([inI64 ((↑A : Int) + u)]) (by kernel_rfl) (by kernel_rfl) ⟨by unfold inI64; omega, trivial⟩ ?_
      refine wpr_nil ?_
      refine nx_then ?_
      refine wpc_seq ?_
      refine wpc_region [0, 1] (by kernel_rfl) ?_
      refine wpr_run (l₂ := []) true [0, 1] [] [(4, Value.bool x)] ([Ch.blk r 52 [Value.bool true, Value.string (mkS s), Value.int IntKind.i64 ((↑A : Int) + u), Value.int IntKind.i64 0]]) [] (by kernel_rfl) (by kernel_rfl) trivial ?_
      refine wpr_nil ?_
      refine nx_then ?_
      refine wpc_ret ?_
      refine nx_end (hp' := ([Ch.blk r 52 [Value.bool true, Value.string (mkS s), Value.int IntKind.i64 ((↑A : Int) + u), Value.int IntKind.i64 0]])) (rest := []) [] ((Value.bool x)) (by kernel_rfl) (by kernel_rfl) give_all (by first | ((repeat (first | exact trivial | refine ⟨trivial, ?_⟩)); done) | assumption) ?_ (.inr rfl)
      exact ⟨rfl, rfl⟩

theorem read_count (r A : Nat) (s : List UInt8) (e : Int) (t : Nat) (most : Int) (hA : A ≤ s.length) (hl : s.length ≤ 140737488352000) :
    Does Try.prog 29 [.pointer (some ⟨r, 0, none⟩), .func (.func 35) #[] #[.pointer (some ⟨t, 0, none⟩)]] [rdr r s A e, .blk t 3 [.int .i64 most]] (fun v hp' => v = .int .i64 (rd 0 A e (cnt (s.drop A) most)).1 ∧ hp' = [rdr r s (rd 0 A e (cnt (s.drop A) most)).2.1 (rd 0 A e (cnt (s.drop A) most)).2.2, .blk t 3 [.int .i64 most]]) := by
  refine fn_enter Try.func29 rfl 44 rfl fun w0 h0 => ?_
  have hok := cnt_ok (s.drop A) most
  rw [List.length_drop] at hok
  unfold rd
  refine wpc_seq ?_
  refine wpc_region [0] (by kernel_rfl) ?_
  refine wpr_run (l₂ := []) true [0] [] [(4, Value.int IntKind.i64 0), (0, Value.pointer (some { block := r, off := 0 })), (1, Value.func (Fn.func 35) #[] #[Value.pointer (some { block := t, off := 0 })])] [Ch.blk r 52 [Value.bool true, Value.string (mkS s), Value.int IntKind.i64 (↑A : Int), Value.int IntKind.i64 e], Ch.blk t 3 [Value.int IntKind.i64 most]] [] (by kernel_rfl) (by kernel_rfl) trivial ?_
  refine wpr_nil ?_
  refine nx_then ?_
  refine wpc_seq ?_
  refine wpc_region [0] (by kernel_rfl) ?_
  refine wpr_run (l₂ := []) true [0] [] [(5, Value.int IntKind.i64 0), (4, Value.int IntKind.i64 0), (0, Value.pointer (some { block := r, off := 0 })), (1, Value.func (Fn.func 35) #[] #[Value.pointer (some { block := t, off := 0 })])] [Ch.blk r 52 [Value.bool true, Value.string (mkS s), Value.int IntKind.i64 (↑A : Int), Value.int IntKind.i64 e], Ch.blk t 3 [Value.int IntKind.i64 most]] [] (by kernel_rfl) (by kernel_rfl) trivial ?_
  refine wpr_nil ?_
  refine nx_then ?_
  refine wpc_seq ?_
  refine wpc_seq ?_
  refine wpc_region [0, 1, 2] (by kernel_rfl) ?_
  refine wpr_run (l₂ := [1, 2]) true [0] [] [(9, Value.pointer (some { block := r, off := 0 })), (5, Value.int IntKind.i64 0), (4, Value.int IntKind.i64 0), (0, Value.pointer (some { block := r, off := 0 })), (1, Value.func (Fn.func 35) #[] #[Value.pointer (some { block := t, off := 0 })])] [Ch.blk r 52 [Value.bool true, Value.string (mkS s), Value.int IntKind.i64 (↑A : Int), Value.int IntKind.i64 e], Ch.blk t 3 [Value.int IntKind.i64 most]] [] (by kernel_rfl) (by kernel_rfl) trivial ?_
  refine wpr_call (dst := some 10) (rest := [Ch.blk t 3 [Value.int IntKind.i64 most]]) (by kernel_rfl) (Err_spec r s A e) (give [0] (by kernel_rfl)) ?_
  rintro v hp' ⟨rfl, rfl⟩
  refine wpr_run (l₂ := []) true [2] [] [(11, Value.bool (e != 0)), (5, Value.int IntKind.i64 0), (4, Value.int IntKind.i64 0), (0, Value.pointer (some { block := r, off := 0 })), (1, Value.func (Fn.func 35) #[] #[Value.pointer (some { block := t, off := 0 })])] [Ch.blk r 52 [Value.bool true, Value.string (mkS s), Value.int IntKind.i64 (↑A : Int), Value.int IntKind.i64 e], Ch.blk t 3 [Value.int IntKind.i64 most]] [] (by kernel_rfl) (by kernel_rfl) trivial ?_
  refine wpr_nil ?_
  refine nx_then ?_
  refine wpc_cond ((e != 0)) (by kernel_rfl) (fun he => ?_) (fun he => ?_)
  · have he' : e ≠ 0 := by simpa using he
    rw [if_pos he']
    refine wpc_seq ?_
    refine wpc_region [0, 1] (by kernel_rfl) ?_
    refine wpr_run (l₂ := []) true [0, 1] [] [(4, Value.int IntKind.i64 0), (5, Value.int IntKind.i64 0), (0, Value.pointer (some { block := r, off := 0 })), (1, Value.func (Fn.func 35) #[] #[Value.pointer (some { block := t, off := 0 })])] [Ch.blk r 52 [Value.bool true, Value.string (mkS s), Value.int IntKind.i64 (↑A : Int), Value.int IntKind.i64 e], Ch.blk t 3 [Value.int IntKind.i64 most]] [] (by kernel_rfl) (by kernel_rfl) trivial ?_
    refine wpr_nil ?_
    refine nx_then ?_
    refine wpc_ret ?_
    refine nx_then_ret ?_
    refine nx_end (hp' := [Ch.blk r 52 [Value.bool true, Value.string (mkS s), Value.int IntKind.i64 (↑A : Int), Value.int IntKind.i64 e], Ch.blk t 3 [Value.int IntKind.i64 most]]) (rest := []) [] ((Value.int IntKind.i64 0)) (by kernel_rfl) (by kernel_rfl) give_all (by first | ((repeat (first | exact trivial | refine ⟨trivial, ?_⟩)); done) | assumption) ?_ (.inr rfl)
    exact ⟨rfl, rfl⟩
  · have he' : ¬ e ≠ 0 := by simpa using he
    obtain rfl : e = 0 := Classical.not_not.1 he'
    rw [if_neg he']
    unfold rdr
    have hT : List.take ((s.length : Int) - (A : Int)).toNat (List.drop A s) = s.drop A := List.take_of_length_le (by rw [List.length_drop]; omega)
    refine wpc_skip ?_
    refine nx_then ?_
    refine wpc_seq ?_
    refine wpc_draw (by kernel_rfl) [Ch.blk r 52 [Value.bool true, Value.string (mkS s), Value.int IntKind.i64 (↑A : Int), Value.int IntKind.i64 0]] (sub_of [0] (by kernel_rfl)) 18 (by kernel_rfl) ?_
    refine wpa_take true [(0, []), (1, []), (2, []), (3, []), (4, [0]), (5, []), (6, []), (7, []), (8, [0]), (9, [])] [(23, Value.string (mkS (List.take ((↑s.length : Int) - (↑A : Int)).toNat (List.drop A s)))), (14, Value.func (Fn.func 35) #[] #[Value.pointer (some { block := t, off := 0 })]), (5, Value.int IntKind.i64 0), (4, Value.int IntKind.i64 0), (0, Value.pointer (some { block := r, off := 0 }))] (#[true, true, true, true, true, true, true, true, true, true, false, false, false, false, false, false, false, false]) [(0 : Int) ≤ (↑A : Int) ∧ (↑A : Int) ≤ (↑s.length : Int)] (n := 8) (by kernel_rfl) (by kernel_rfl) (by kernel_rfl) ⟨by omega, trivial⟩ ?_
    rw [hT]
    refine wpa_call (i := 10) (n := 7) (dst := some 24) (rest := [Ch.blk r 52 [Value.bool true, Value.string (mkS s), Value.int IntKind.i64 (↑A : Int), Value.int IntKind.i64 0]]) (by kernel_rfl) (by kernel_rfl) (Count1_spec (s.drop A) t most (by rw [List.length_drop]; omega)) (give [1] (by kernel_rfl)) (sub_of [0] (by kernel_rfl)) ?_
    rintro v hp' ⟨rfl, rfl⟩
    obtain ⟨x, u, y, hx⟩ : ∃ x u y, (cnt (s.drop A) most) = (x, u, y) := ⟨_, _, _, rfl⟩
    rw [hx] at hok ⊢
    dsimp only at hok ⊢
    refine wpa_take true [(11, []), (12, []), (13, []), (14, []), (15, []), (16, []), (17, [])] [(8, Value.int IntKind.i64 y), (7, Value.int IntKind.i64 u), (6, Value.int IntKind.i64 x), (5, Value.int IntKind.i64 0), (4, Value.int IntKind.i64 0), (0, Value.pointer (some { block := r, off := 0 }))] (#[true, true, true, true, true, true, true, true, true, true, true, true, true, true, true, true, true, true]) [] (n := 0) (by kernel_rfl) (by kernel_rfl) (by kernel_rfl) trivial ?_
    refine wpa_done 0 (by kernel_rfl) ?_
    refine nx_then ?_
    refine wpc_seq ?_
    refine wpc_seq ?_
    refine wpc_region [0, 1] (by kernel_rfl) ?_
    refine wpr_run (l₂ := []) true [0, 1] [] [(29, Value.bool (y != 0)), (8, Value.int IntKind.i64 y), (7, Value.int IntKind.i64 u), (6, Value.int IntKind.i64 x), (5, Value.int IntKind.i64 0), (4, Value.int IntKind.i64 0), (0, Value.pointer (some { block := r, off := 0 }))] [Ch.blk t 3 [Value.int IntKind.i64 most], Ch.blk r 52 [Value.bool true, Value.string (mkS s), Value.int IntKind.i64 (↑A : Int), Value.int IntKind.i64 0]] [] (by kernel_rfl) (by kernel_rfl) trivial ?_
    refine wpr_nil ?_
    refine nx_then ?_
    refine wpc_cond ((y != 0)) (by kernel_rfl) (fun hy => ?_) (fun hy => ?_)
    · have hy' : y ≠ 0 := by simpa using hy
      rw [if_pos hy']
      refine wpc_seq ?_
      refine wpc_region [0, 1, 2, 3, 4] (by kernel_rfl) ?_
      refine wpr_run (l₂ := []) true [0, 1, 2, 3, 4] [1] [(7, Value.int IntKind.i64 u), (6, Value.int IntKind.i64 x), (5, Value.int IntKind.i64 0), (4, Value.int IntKind.i64 0), (0, Value.pointer (some { block := r, off := 0 }))] [Ch.blk t 3 [Value.int IntKind.i64 most], Ch.blk r 52 [Value.bool true, Value.string (mkS s), Value.int IntKind.i64 (↑A : Int), Value.int IntKind.i64 y]] [] (by kernel_rfl) (by kernel_rfl) trivial ?_
      refine wpr_nil ?_
      refine nx_then ?_
      refine wpc_seq ?_
      refine wpc_region [0, 1] (by kernel_rfl) ?_
      refine wpr_run (l₂ := []) true [0, 1] [] [(4, Value.int IntKind.i64 0), (7, Value.int IntKind.i64 u), (6, Value.int IntKind.i64 x), (0, Value.pointer (some { block := r, off := 0 }))] [Ch.blk t 3 [Value.int IntKind.i64 most], Ch.blk r 52 [Value.bool true, Value.string (mkS s), Value.int IntKind.i64 (↑A : Int), Value.int IntKind.i64 y]] [] (by kernel_rfl) (by kernel_rfl) trivial ?_
      refine wpr_nil ?_
      refine nx_then ?_
      refine wpc_ret ?_
      refine nx_then_ret ?_
      refine nx_end (hp' := [Ch.blk r 52 [Value.bool true, Value.string (mkS s), Value.int IntKind.i64 (↑A : Int), Value.int IntKind.i64 y], Ch.blk t 3 [Value.int IntKind.i64 most]]) (rest := []) [] ((Value.int IntKind.i64 0)) (by kernel_rfl) (by kernel_rfl) (give [1, 0] (by kernel_rfl)) (by first | ((repeat (first | exact trivial | refine ⟨trivial, ?_⟩)); done) | assumption) ?_ (.inr rfl)
      exact ⟨rfl, rfl⟩
    · have hy' : ¬ y ≠ 0 := by simpa using hy
      rw [if_neg hy']
      have hu : 0 < u ∧ u ≤ ((s.length - A : Nat) : Int) := by omega
      have hAu : ((A + u.toNat : Nat) : Int) = A + u := by omega
      dsimp only
      rw [hAu]
      refine wpc_skip ?_
      refine nx_then ?_
      refine wpc_seq ?_
      refine wpc_region [0, 1, 2, 3, 4, 5, 6, 7, 8] (by kernel_rfl) ?_
      refine wpr_run (l₂ := []) true [0, 1, 2, 3, 4, 5, 6, 7, 8] [1, 1] [(6, Value.int IntKind.i64 x), (4, Value.int IntKind.i64 0)] ([Ch.blk t 3 [Value.int IntKind.i64 most], Ch.blk r 52 [Value.bool true, Value.string (mkS s), Value.int IntKind.i64 ((↑A : Int) + u), Value.int IntKind.i64 0]]) ([inI64 ((↑A : Int) + u)]) (by kernel_rfl) (by kernel_rfl) ⟨by unfold inI64; omega, trivial⟩ ?_
      refine wpr_nil ?_
      refine nx_then ?_
      refine wpc_seq ?_
      refine wpc_region [0, 1] (by kernel_rfl) ?_
      refine wpr_run (l₂ := []) true [0, 1] [] [(4, Value.int IntKind.i64 x)] ([Ch.blk t 3 [Value.int IntKind.i64 most], Ch.blk r 52 [Value.bool true, Value.string (mkS s), Value.int IntKind.i64 ((↑A : Int) + u), Value.int IntKind.i64 0]]) [] (by kernel_rfl) (by kernel_rfl) trivial ?_
      refine wpr_nil ?_
      refine nx_then ?_
      refine wpc_ret ?_
      refine nx_end (hp' := ([Ch.blk r 52 [Value.bool true, Value.string (mkS s), Value.int IntKind.i64 ((↑A : Int) + u), Value.int IntKind.i64 0], Ch.blk t 3 [Value.int IntKind.i64 most]])) (rest := []) [] ((Value.int IntKind.i64 x)) (by kernel_rfl) (by kernel_rfl) (give [1, 0] (by kernel_rfl)) (by first | ((repeat (first | exact trivial | refine ⟨trivial, ?_⟩)); done) | assumption) ?_ (.inr rfl)
      exact ⟨rfl, rfl⟩

theorem read_text (r A : Nat) (s : List UInt8) (e : Int) (t : Nat) (most : Int) (hA : A ≤ s.length) (hl : s.length ≤ 140737488352000) :
    Does Try.prog 31 [.pointer (some ⟨r, 0, none⟩), .func (.func 32) #[] #[.pointer (some ⟨t, 0, none⟩)]] [rdr r s A e, .blk t 3 [.int .i64 most]] (fun v hp' => v = .string (mkS (rd [] A e (txt (s.drop A) most)).1) ∧ hp' = [rdr r s (rd [] A e (txt (s.drop A) most)).2.1 (rd [] A e (txt (s.drop A) most)).2.2, .blk t 3 [.int .i64 most]]) := by
  refine fn_enter Try.func31 rfl 44 rfl fun w0 h0 => ?_
  have hok := txt_ok (s.drop A) most
  rw [List.length_drop] at hok
  unfold rd
  refine wpc_seq ?_
  refine wpc_region [0] (by kernel_rfl) ?_
  refine wpr_run (l₂ := []) true [0] [] [(4, Value.string { data := #[] }), (0, Value.pointer (some { block := r, off := 0 })), (1, Value.func (Fn.func 32) #[] #[Value.pointer (some { block := t, off := 0 })])] [Ch.blk r 52 [Value.bool true, Value.string (mkS s), Value.int IntKind.i64 (↑A : Int), Value.int IntKind.i64 e], Ch.blk t 3 [Value.int IntKind.i64 most]] [] (by kernel_rfl) (by kernel_rfl) trivial ?_
  refine wpr_nil ?_
  refine nx_then ?_
  refine wpc_seq ?_
  refine wpc_region [0] (by kernel_rfl) ?_
  refine wpr_run (l₂ := []) true [0] [] [(5, Value.string { data := #[] }), (4, Value.string { data := #[] }), (0, Value.pointer (some { block := r, off := 0 })), (1, Value.func (Fn.func 32) #[] #[Value.pointer (some { block := t, off := 0 })])] [Ch.blk r 52 [Value.bool true, Value.string (mkS s), Value.int IntKind.i64 (↑A : Int), Value.int IntKind.i64 e], Ch.blk t 3 [Value.int IntKind.i64 most]] [] (by kernel_rfl) (by kernel_rfl) trivial ?_
  refine wpr_nil ?_
  refine nx_then ?_
  refine wpc_seq ?_
  refine wpc_seq ?_
  refine wpc_region [0, 1, 2] (by kernel_rfl) ?_
  refine wpr_run (l₂ := [1, 2]) true [0] [] [(9, Value.pointer (some { block := r, off := 0 })), (5, Value.string { data := #[] }), (4, Value.string { data := #[] }), (0, Value.pointer (some { block := r, off := 0 })), (1, Value.func (Fn.func 32) #[] #[Value.pointer (some { block := t, off := 0 })])] [Ch.blk r 52 [Value.bool true, Value.string (mkS s), Value.int IntKind.i64 (↑A : Int), Value.int IntKind.i64 e], Ch.blk t 3 [Value.int IntKind.i64 most]] [] (by kernel_rfl) (by kernel_rfl) trivial ?_
  refine wpr_call (dst := some 10) (rest := [Ch.blk t 3 [Value.int IntKind.i64 most]]) (by kernel_rfl) (Err_spec r s A e) (give [0] (by kernel_rfl)) ?_
  rintro v hp' ⟨rfl, rfl⟩
  refine wpr_run (l₂ := []) true [2] [] [(11, Value.bool (e != 0)), (5, Value.string { data := #[] }), (4, Value.string { data := #[] }), (0, Value.pointer (some { block := r, off := 0 })), (1, Value.func (Fn.func 32) #[] #[Value.pointer (some { block := t, off := 0 })])] [Ch.blk r 52 [Value.bool true, Value.string (mkS s), Value.int IntKind.i64 (↑A : Int), Value.int IntKind.i64 e], Ch.blk t 3 [Value.int IntKind.i64 most]] [] (by kernel_rfl) (by kernel_rfl) trivial ?_
  refine wpr_nil ?_
  refine nx_then ?_
  refine wpc_cond ((e != 0)) (by kernel_rfl) (fun he => ?_) (fun he => ?_)
  · have he' : e ≠ 0 := by simpa using he
    rw [if_pos he']
    refine wpc_seq ?_
    refine wpc_region [0, 1] (by kernel_rfl) ?_
    refine wpr_run (l₂ := []) true [0, 1] [] [(4, Value.string { data := #[] }), (5, Value.string { data := #[] }), (0, Value.pointer (some { block := r, off := 0 })), (1, Value.func (Fn.func 32) #[] #[Value.pointer (some { block := t, off := 0 })])] [Ch.blk r 52 [Value.bool true, Value.string (mkS s), Value.int IntKind.i64 (↑A : Int), Value.int IntKind.i64 e], Ch.blk t 3 [Value.int IntKind.i64 most]] [] (by kernel_rfl) (by kernel_rfl) trivial ?_
    refine wpr_nil ?_
    refine nx_then ?_
    refine wpc_ret ?_
    refine nx_then_ret ?_
    refine nx_end (hp' := [Ch.blk r 52 [Value.bool true, Value.string (mkS s), Value.int IntKind.i64 (↑A : Int), Value.int IntKind.i64 e], Ch.blk t 3 [Value.int IntKind.i64 most]]) (rest := []) [] ((Value.string { data := #[] })) (by kernel_rfl) (by kernel_rfl) give_all (by first | ((repeat (first | exact trivial | refine ⟨trivial, ?_⟩)); done) | assumption) ?_ (.inr rfl)
    exact ⟨rfl, rfl⟩
  · have he' : ¬ e ≠ 0 := by simpa using he
    obtain rfl : e = 0 := Classical.not_not.1 he'
    rw [if_neg he']
    unfold rdr
    have hT : List.take ((s.length : Int) - (A : Int)).toNat (List.drop A s) = s.drop A := List.take_of_length_le (by rw [List.length_drop]; omega)
    refine wpc_skip ?_
    refine nx_then ?_
    refine wpc_seq ?_
    refine wpc_draw (by kernel_rfl) [Ch.blk r 52 [Value.bool true, Value.string (mkS s), Value.int IntKind.i64 (↑A : Int), Value.int IntKind.i64 0]] (sub_of [0] (by kernel_rfl)) 18 (by kernel_rfl) ?_
    refine wpa_take true [(0, []), (1, []), (2, []), (3, []), (4, [0]), (5, []), (6, []), (7, []), (8, [0]), (9, [])] [(23, Value.string (mkS (List.take ((↑s.length : Int) - (↑A : Int)).toNat (List.drop A s)))), (14, Value.func (Fn.func 32) #[] #[Value.pointer (some { block := t, off := 0 })]), (5, Value.string { data := #[] }), (4, Value.string { data := #[] }), (0, Value.pointer (some { block := r, off := 0 }))] (#[true, true, true, true, true, true, true, true, true, true, false, false, false, false, false, false, false, false]) [(0 : Int) ≤ (↑A : Int) ∧ (↑A : Int) ≤ (↑s.length : Int)] (n := 8) (by kernel_rfl) (by kernel_rfl) (by kernel_rfl) ⟨by omega, trivial⟩ ?_
    rw [hT]
    refine wpa_call (i := 10) (n := 7) (dst := some 24) (rest := [Ch.blk r 52 [Value.bool true, Value.string (mkS s), Value.int IntKind.i64 (↑A : Int), Value.int IntKind.i64 0]]) (by kernel_rfl) (by kernel_rfl) (Text1_spec (s.drop A) t most (by rw [List.length_drop]; omega)) (give [1] (by kernel_rfl)) (sub_of [0] (by kernel_rfl)) ?_
    rintro v hp' ⟨rfl, rfl⟩
    obtain ⟨x, u, y, hx⟩ : ∃ x u y, (txt (s.drop A) most) = (x, u, y) := ⟨_, _, _, rfl⟩
    rw [hx] at hok ⊢
    dsimp only at hok ⊢
    refine wpa_take true [(11, []), (12, []), (13, []), (14, []), (15, []), (16, []), (17, [])] [(8, Value.int IntKind.i64 y), (7, Value.int IntKind.i64 u), (6, Value.string (mkS x)), (5, Value.string { data := #[] }), (4, Value.string { data := #[] }), (0, Value.pointer (some { block := r, off := 0 }))] (#[true, true, true, true, true, true, true, true, true, true, true, true, true, true, true, true, true, true]) [] (n := 0) (by kernel_rfl) (by kernel_rfl) (by kernel_rfl) trivial ?_
    refine wpa_done 0 (by kernel_rfl) ?_
    refine nx_then ?_
    refine wpc_seq ?_
    refine wpc_seq ?_
    refine wpc_region [0, 1] (by kernel_rfl) ?_
    refine wpr_run (l₂ := []) true [0, 1] [] [(29, Value.bool (y != 0)), (8, Value.int IntKind.i64 y), (7, Value.int IntKind.i64 u), (6, Value.string (mkS x)), (5, Value.string { data := #[] }), (4, Value.string { data := #[] }), (0, Value.pointer (some { block := r, off := 0 }))] [Ch.blk t 3 [Value.int IntKind.i64 most], Ch.blk r 52 [Value.bool true, Value.string (mkS s), Value.int IntKind.i64 (↑A : Int), Value.int IntKind.i64 0]] [] (by kernel_rfl) (by kernel_rfl) trivial ?_
    refine wpr_nil ?_
    refine nx_then ?_
    refine wpc_cond ((y != 0)) (by kernel_rfl) (fun hy => ?_) (fun hy => ?_)
    · have hy' : y ≠ 0 := by simpa using hy
      rw [if_pos hy']
      refine wpc_seq ?_
      refine wpc_region [0, 1, 2, 3, 4] (by kernel_rfl) ?_
      refine wpr_run (l₂ := []) true [0, 1, 2, 3, 4] [1] [(7, Value.int IntKind.i64 u), (6, Value.string (mkS x)), (5, Value.string { data := #[] }), (4, Value.string { data := #[] }), (0, Value.pointer (some { block := r, off := 0 }))] [Ch.blk t 3 [Value.int IntKind.i64 most], Ch.blk r 52 [Value.bool true, Value.string (mkS s), Value.int IntKind.i64 (↑A : Int), Value.int IntKind.i64 y]] [] (by kernel_rfl) (by kernel_rfl) trivial ?_
      refine wpr_nil ?_
      refine nx_then ?_
      refine wpc_seq ?_
      refine wpc_region [0, 1] (by kernel_rfl) ?_
      refine wpr_run (l₂ := []) true [0, 1] [] [(4, Value.string { data := #[] }), (7, Value.int IntKind.i64 u), (6, Value.string (mkS x)), (0, Value.pointer (some { block := r, off := 0 }))] [Ch.blk t 3 [Value.int IntKind.i64 most], Ch.blk r 52 [Value.bool true, Value.string (mkS s), Value.int IntKind.i64 (↑A : Int), Value.int IntKind.i64 y]] [] (by kernel_rfl) (by kernel_rfl) trivial ?_
      refine wpr_nil ?_
      refine nx_then ?_
      refine wpc_ret ?_
      refine nx_then_ret ?_
      refine nx_end (hp' := [Ch.blk r 52 [Value.bool true, Value.string (mkS s), Value.int IntKind.i64 (↑A : Int), Value.int IntKind.i64 y], Ch.blk t 3 [Value.int IntKind.i64 most]]) (rest := []) [] ((Value.string { data := #[] })) (by kernel_rfl) (by kernel_rfl) (give [1, 0] (by kernel_rfl)) (by first | ((repeat (first | exact trivial | refine ⟨trivial, ?_⟩)); done) | assumption) ?_ (.inr rfl)
      exact ⟨rfl, rfl⟩
    · have hy' : ¬ y ≠ 0 := by simpa using hy
      rw [if_neg hy']
      have hu : 0 < u ∧ u ≤ ((s.length - A : Nat) : Int) := by omega
      have hAu : ((A + u.toNat : Nat) : Int) = A + u := by omega
      dsimp only
      rw [hAu]
      refine wpc_skip ?_
      refine nx_then ?_
      refine wpc_seq ?_
      refine wpc_region [0, 1, 2, 3, 4, 5, 6, 7, 8] (by kernel_rfl) ?_
      refine wpr_run (l₂ := []) true [0, 1, 2, 3, 4, 5, 6, 7, 8] [1, 1] [(6, Value.string (mkS x)), (4, Value.string { data := #[] })] ([Ch.blk t 3 [Value.int IntKind.i64 most], Ch.blk r 52 [Value.bool true, Value.string (mkS s), Value.int IntKind.i64 ((↑A : Int) + u), Value.int IntKind.i64 0]]) ([inI64 ((↑A : Int) + u)]) (by kernel_rfl) (by kernel_rfl) ⟨by unfold inI64; omega, trivial⟩ ?_
      refine wpr_nil ?_
      refine nx_then ?_
      refine wpc_seq ?_
      refine wpc_region [0, 1] (by kernel_rfl) ?_
      refine wpr_run (l₂ := []) true [0, 1] [] [(4, Value.string (mkS x))] ([Ch.blk t 3 [Value.int IntKind.i64 most], Ch.blk r 52 [Value.bool true, Value.string (mkS s), Value.int IntKind.i64 ((↑A : Int) + u), Value.int IntKind.i64 0]]) [] (by kernel_rfl) (by kernel_rfl) trivial ?_
      refine wpr_nil ?_
      refine nx_then ?_
      refine wpc_ret ?_
      refine nx_end (hp' := ([Ch.blk r 52 [Value.bool true, Value.string (mkS s), Value.int IntKind.i64 ((↑A : Int) + u), Value.int IntKind.i64 0], Ch.blk t 3 [Value.int IntKind.i64 most]])) (rest := []) [] ((Value.string (mkS x))) (by kernel_rfl) (by kernel_rfl) (give [1, 0] (by kernel_rfl)) (by first | ((repeat (first | exact trivial | refine ⟨trivial, ?_⟩)); done) | assumption) ?_ (.inr rfl)
      exact ⟨rfl, rfl⟩

theorem Int_spec (r A : Nat) (s : List UInt8) (e : Int) (hA : A ≤ s.length) (hl : s.length ≤ 140737488352000) :
    Does Try.prog 18 [.pointer (some ⟨r, 0, none⟩)] [rdr r s A e] (fun v hp' => v = .int .i64 (rd 0 A e (num (s.drop A))).1 ∧ hp' = [rdr r s (rd 0 A e (num (s.drop A))).2.1 (rd 0 A e (num (s.drop A))).2.2]) := by
  refine fn_enter Try.func18 rfl 5 rfl fun w0 h0 => ?_
  refine wpc_seq ?_
  refine wpc_region [0] (by kernel_rfl) ?_
  refine wpr_run (l₂ := []) true [0] [] [(2, Value.int IntKind.i64 0), (0, Value.pointer (some { block := r, off := 0 }))] [Ch.blk r 52 [Value.bool true, Value.string (mkS s), Value.int IntKind.i64 (↑A : Int), Value.int IntKind.i64 e]] [] (by kernel_rfl) (by kernel_rfl) trivial ?_
  refine wpr_nil ?_
  refine nx_then ?_
  refine wpc_seq ?_
  refine wpc_region [0, 1, 2] (by kernel_rfl) ?_
  refine wpr_run (l₂ := [1, 2]) true [0] [] [(3, Value.pointer (some { block := r, off := 0 })), (2, Value.int IntKind.i64 0)] [Ch.blk r 52 [Value.bool true, Value.string (mkS s), Value.int IntKind.i64 (↑A : Int), Value.int IntKind.i64 e]] [] (by kernel_rfl) (by kernel_rfl) trivial ?_
  refine wpr_call_all (dst := some 4) (by kernel_rfl) (read_number r A s e hA hl) give_all ?_
  rintro v hp' ⟨rfl, rfl⟩
  unfold rdr
  refine wpr_run (l₂ := []) true [2] [] [(2, Value.int IntKind.i64 (rd 0 A e (num (List.drop A s))).fst)] [Ch.blk r 52 [Value.bool true, Value.string (mkS s), Value.int IntKind.i64 (↑(rd 0 A e (num (List.drop A s))).snd.fst : Int), Value.int IntKind.i64 (rd 0 A e (num (List.drop A s))).snd.snd]] [] (by kernel_rfl) (by kernel_rfl) trivial ?_
  refine wpr_nil ?_
  refine nx_then ?_
  refine wpc_ret ?_
  refine nx_end (hp' := [Ch.blk r 52 [Value.bool true, Value.string (mkS s), Value.int IntKind.i64 (↑(rd 0 A e (num (List.drop A s))).snd.fst : Int), Value.int IntKind.i64 (rd 0 A e (num (List.drop A s))).snd.snd]]) (rest := []) [] ((Value.int IntKind.i64 (rd 0 A e (num (List.drop A s))).fst)) (by kernel_rfl) (by kernel_rfl) give_all (by first | ((repeat (first | exact trivial | refine ⟨trivial, ?_⟩)); done) | assumption) ?_ (.inr rfl)
  exact ⟨rfl, rfl⟩

theorem Bool_spec (r A : Nat) (s : List UInt8) (e : Int) (hA : A ≤ s.length) (hl : s.length ≤ 140737488352000) :
    Does Try.prog 24 [.pointer (some ⟨r, 0, none⟩)] [rdr r s A e] (fun v hp' => v = .bool (rd false A e (bol (s.drop A))).1 ∧ hp' = [rdr r s (rd false A e (bol (s.drop A))).2.1 (rd false A e (bol (s.drop A))).2.2]) := by
  refine fn_enter Try.func24 rfl 5 rfl fun w0 h0 => ?_
  refine wpc_seq ?_
  refine wpc_region [0] (by kernel_rfl) ?_
  refine wpr_run (l₂ := []) true [0] [] [(2, Value.bool false), (0, Value.pointer (some { block := r, off := 0 }))] [Ch.blk r 52 [Value.bool true, Value.string (mkS s), Value.int IntKind.i64 (↑A : Int), Value.int IntKind.i64 e]] [] (by kernel_rfl) (by kernel_rfl) trivial ?_
  refine wpr_nil ?_
  refine nx_then ?_
  refine wpc_seq ?_
  refine wpc_region [0, 1, 2] (by kernel_rfl) ?_
  refine wpr_run (l₂ := [1, 2]) true [0] [] [(3, Value.pointer (some { block := r, off := 0 })), (2, Value.bool false)] [Ch.blk r 52 [Value.bool true, Value.string (mkS s), Value.int IntKind.i64 (↑A : Int), Value.int IntKind.i64 e]] [] (by kernel_rfl) (by kernel_rfl) trivial ?_
  refine wpr_call_all (dst := some 4) (by kernel_rfl) (read_bol1 r A s e hA hl) give_all ?_
  rintro v hp' ⟨rfl, rfl⟩
  unfold rdr
  refine wpr_run (l₂ := []) true [2] [] [(2, Value.bool (rd false A e (bol (List.drop A s))).fst)] [Ch.blk r 52 [Value.bool true, Value.string (mkS s), Value.int IntKind.i64 (↑(rd false A e (bol (List.drop A s))).snd.fst : Int), Value.int IntKind.i64 (rd false A e (bol (List.drop A s))).snd.snd]] [] (by kernel_rfl) (by kernel_rfl) trivial ?_
  refine wpr_nil ?_
  refine nx_then ?_
  refine wpc_ret ?_
  refine nx_end (hp' := [Ch.blk r 52 [Value.bool true, Value.string (mkS s), Value.int IntKind.i64 (↑(rd false A e (bol (List.drop A s))).snd.fst : Int), Value.int IntKind.i64 (rd false A e (bol (List.drop A s))).snd.snd]]) (rest := []) [] ((Value.bool (rd false A e (bol (List.drop A s))).fst)) (by kernel_rfl) (by kernel_rfl) give_all (by first | ((repeat (first | exact trivial | refine ⟨trivial, ?_⟩)); done) | assumption) ?_ (.inr rfl)
  exact ⟨rfl, rfl⟩

theorem Count_spec (r A : Nat) (s : List UInt8) (e : Int) (most : Int) (hA : A ≤ s.length) (hl : s.length ≤ 140737488352000) :
    Does Try.prog 23 [.pointer (some ⟨r, 0, none⟩), .int .i64 most] [rdr r s A e] (fun v hp' => v = .int .i64 (rd 0 A e (cnt (s.drop A) most)).1 ∧ hp' = [rdr r s (rd 0 A e (cnt (s.drop A) most)).2.1 (rd 0 A e (cnt (s.drop A) most)).2.2]) := by
  refine fn_enter Try.func23 rfl 8 rfl fun w0 h0 => ?_
  refine wpc_seq ?_
  refine wpc_region [0, 1] (by kernel_rfl) ?_
  refine wpr_new (l₂ := [1]) true [0] [] (fun g1 => [(3, Value.pointer (some { block := g1, off := 0 })), (0, Value.pointer (some { block := r, off := 0 }))]) (fun g1 => [Ch.blk r 52 [Value.bool true, Value.string (mkS s), Value.int IntKind.i64 (↑A : Int), Value.int IntKind.i64 e], Ch.blk g1 3 [Value.int IntKind.i64 most]]) (fun g1 => []) (fun g1 => by kernel_rfl) (fun g1 => by kernel_rfl) (fun g1 => trivial) fun g1 => ?_
  refine wpr_run (l₂ := []) true [1] [] [(4, Value.int IntKind.i64 0), (3, Value.pointer (some { block := g1, off := 0 })), (0, Value.pointer (some { block := r, off := 0 }))] [Ch.blk r 52 [Value.bool true, Value.string (mkS s), Value.int IntKind.i64 (↑A : Int), Value.int IntKind.i64 e], Ch.blk g1 3 [Value.int IntKind.i64 most]] [] (by kernel_rfl) (by kernel_rfl) trivial ?_
  refine wpr_nil ?_
  refine nx_then ?_
  refine wpc_seq ?_
  refine wpc_region [0, 1, 2, 3] (by kernel_rfl) ?_
  refine wpr_run (l₂ := [2, 3]) true [0, 1] [] [(6, Value.func (Fn.func 35) #[] #[Value.pointer (some { block := g1, off := 0 })]), (5, Value.pointer (some { block := r, off := 0 })), (4, Value.int IntKind.i64 0)] [Ch.blk r 52 [Value.bool true, Value.string (mkS s), Value.int IntKind.i64 (↑A : Int), Value.int IntKind.i64 e], Ch.blk g1 3 [Value.int IntKind.i64 most]] [] (by kernel_rfl) (by kernel_rfl) trivial ?_
  refine wpr_call_all (dst := some 7) (by kernel_rfl) (read_count r A s e g1 most hA hl) give_all ?_
  rintro v hp' ⟨rfl, rfl⟩
  unfold rdr
  refine wpr_run (l₂ := []) true [3] [] [(4, Value.int IntKind.i64 (rd 0 A e (cnt (List.drop A s) most)).fst)] [Ch.blk r 52 [Value.bool true, Value.string (mkS s), Value.int IntKind.i64 (↑(rd 0 A e (cnt (List.drop A s) most)).snd.fst : Int), Value.int IntKind.i64 (rd 0 A e (cnt (List.drop A s) most)).snd.snd], Ch.blk g1 3 [Value.int IntKind.i64 most]] [] (by kernel_rfl) (by kernel_rfl) trivial ?_
  refine wpr_nil ?_
  refine nx_then ?_
  refine wpc_ret ?_
  refine nx_end (hp' := [Ch.blk r 52 [Value.bool true, Value.string (mkS s), Value.int IntKind.i64 (↑(rd 0 A e (cnt (List.drop A s) most)).snd.fst : Int), Value.int IntKind.i64 (rd 0 A e (cnt (List.drop A s) most)).snd.snd]]) (rest := [Ch.blk g1 3 [Value.int IntKind.i64 most]]) [] ((Value.int IntKind.i64 (rd 0 A e (cnt (List.drop A s) most)).fst)) (by kernel_rfl) (by kernel_rfl) (give [0] (by kernel_rfl)) (by first | ((repeat (first | exact trivial | refine ⟨trivial, ?_⟩)); done) | assumption) ?_ (.inr rfl)
  exact ⟨rfl, rfl⟩

theorem Text_spec (r A : Nat) (s : List UInt8) (e : Int) (most : Int) (hA : A ≤ s.length) (hl : s.length ≤ 140737488352000) :
    Does Try.prog 21 [.pointer (some ⟨r, 0, none⟩), .int .i64 most] [rdr r s A e] (fun v hp' => v = .string (mkS (rd [] A e (txt (s.drop A) most)).1) ∧ hp' = [rdr r s (rd [] A e (txt (s.drop A) most)).2.1 (rd [] A e (txt (s.drop A) most)).2.2]) := by
  refine fn_enter Try.func21 rfl 8 rfl fun w0 h0 => ?_
  refine wpc_seq ?_
  refine wpc_region [0, 1] (by kernel_rfl) ?_
  refine wpr_new (l₂ := [1]) true [0] [] (fun g1 => [(3, Value.pointer (some { block := g1, off := 0 })), (0, Value.pointer (some { block := r, off := 0 }))]) (fun g1 => [Ch.blk r 52 [Value.bool true, Value.string (mkS s), Value.int IntKind.i64 (↑A : Int), Value.int IntKind.i64 e], Ch.blk g1 3 [Value.int IntKind.i64 most]]) (fun g1 => []) (fun g1 => by kernel_rfl) (fun g1 => by kernel_rfl) (fun g1 => trivial) fun g1 => ?_
  refine wpr_run (l₂ := []) true [1] [] [(4, Value.string { data := #[] }), (3, Value.pointer (some { block := g1, off := 0 })), (0, Value.pointer (some { block := r, off := 0 }))] [Ch.blk r 52 [Value.bool true, Value.string (mkS s), Value.int IntKind.i64 (↑A : Int), Value.int IntKind.i64 e], Ch.blk g1 3 [Value.int IntKind.i64 most]] [] (by kernel_rfl) (by kernel_rfl) trivial ?_
  refine wpr_nil ?_
  refine nx_then ?_
  refine wpc_seq ?_
  refine wpc_region [0, 1, 2, 3] (by kernel_rfl) ?_
  refine wpr_run (l₂ := [2, 3]) true [0, 1] [] [(6, Value.func (Fn.func 32) #[] #[Value.pointer (some { block := g1, off := 0 })]), (5, Value.pointer (some { block := r, off := 0 })), (4, Value.string { data := #[] })] [Ch.blk r 52 [Value.bool true, Value.string (mkS s), Value.int IntKind.i64 (↑A : Int), Value.int IntKind.i64 e], Ch.blk g1 3 [Value.int IntKind.i64 most]] [] (by kernel_rfl) (by kernel_rfl) trivial ?_
  refine wpr_call_all (dst := some 7) (by kernel_rfl) (read_text r A s e g1 most hA hl) give_all ?_
  rintro v hp' ⟨rfl, rfl⟩
  unfold rdr
  refine wpr_run (l₂ := []) true [3] [] [(4, Value.string (mkS (rd [] A e (txt (List.drop A s) most)).fst))] [Ch.blk r 52 [Value.bool true, Value.string (mkS s), Value.int IntKind.i64 (↑(rd [] A e (txt (List.drop A s) most)).snd.fst : Int), Value.int IntKind.i64 (rd [] A e (txt (List.drop A s) most)).snd.snd], Ch.blk g1 3 [Value.int IntKind.i64 most]] [] (by kernel_rfl) (by kernel_rfl) trivial ?_
  refine wpr_nil ?_
  refine nx_then ?_
  refine wpc_ret ?_
  refine nx_end (hp' := [Ch.blk r 52 [Value.bool true, Value.string (mkS s), Value.int IntKind.i64 (↑(rd [] A e (txt (List.drop A s) most)).snd.fst : Int), Value.int IntKind.i64 (rd [] A e (txt (List.drop A s) most)).snd.snd]]) (rest := [Ch.blk g1 3 [Value.int IntKind.i64 most]]) [] ((Value.string (mkS (rd [] A e (txt (List.drop A s) most)).fst))) (by kernel_rfl) (by kernel_rfl) (give [0] (by kernel_rfl)) (by first | ((repeat (first | exact trivial | refine ⟨trivial, ?_⟩)); done) | assumption) ?_ (.inr rfl)
  exact ⟨rfl, rfl⟩
end Go.Proofs.Ytgkcodkeikaeeaa
