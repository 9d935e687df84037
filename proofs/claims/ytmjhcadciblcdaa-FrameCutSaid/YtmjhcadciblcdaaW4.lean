import Derived.Test.YtmjhcadciblcdaaW3
import Derived.Test.YtmjhcadciblcdaaX13
namespace Go.Proofs.Ytmjhcadciblcdaa
open Go Go.Sx
set_option linter.unusedVariables false
set_option linter.unusedSimpArgs false

/-- A piece of reading done by a reader: value, place, what went wrong. -/
def rd {α : Type} (z : α) (A : Nat) (e : Int) (x : α × Int × Int) : α × Nat × Int := if e ≠ 0 then (z, A, e) else if x.2.2 ≠ 0 then (z, A, x.2.2) else (x.1, A + x.2.1.toNat, 0)

theorem read_number (r A : Nat) (s : List UInt8) (e : Int) (hA : A ≤ s.length) (hl : s.length ≤ 1099511627776) :
    Does Try.prog 37 [.pointer (some ⟨r, 0, none⟩), .func (.func 44) #[] #[]] [rdr r s A e] (fun v hp' => v = .int .i64 (rd 0 A e (num (s.drop A))).1 ∧ hp' = [rdr r s (rd 0 A e (num (s.drop A))).2.1 (rd 0 A e (num (s.drop A))).2.2]) := by
  refine fn_enter Try.func37 rfl 44 rfl fun w0 h0 => ?_
  have hok := num_ok (s.drop A)
  rw [List.length_drop] at hok
  unfold rd
  refine wpc_seq ?_
  refine wpc_region [0] (by kernel_rfl) ?_
  refine wpr_run (l₂ := []) true [0] [] [(4, Value.int IntKind.i64 0), (0, Value.pointer (some { block := r, off := 0 })), (1, Value.func (Fn.func 44) #[] #[])] [Ch.blk r 75 [Value.bool true, Value.string (mkS s), Value.int IntKind.i64 (↑A : Int), Value.int IntKind.i64 e]] [] (by kernel_rfl) (by kernel_rfl) trivial ?_
  refine wpr_nil ?_
  refine nx_then ?_
  refine wpc_seq ?_
  refine wpc_region [0] (by kernel_rfl) ?_
  refine wpr_run (l₂ := []) true [0] [] [(5, Value.int IntKind.i64 0), (4, Value.int IntKind.i64 0), (0, Value.pointer (some { block := r, off := 0 })), (1, Value.func (Fn.func 44) #[] #[])] [Ch.blk r 75 [Value.bool true, Value.string (mkS s), Value.int IntKind.i64 (↑A : Int), Value.int IntKind.i64 e]] [] (by kernel_rfl) (by kernel_rfl) trivial ?_
  refine wpr_nil ?_
  refine nx_then ?_
  refine wpc_seq ?_
  refine wpc_seq ?_
  refine wpc_region [0, 1, 2] (by kernel_rfl) ?_
  refine wpr_run (l₂ := [1, 2]) true [0] [] [(9, Value.pointer (some { block := r, off := 0 })), (5, Value.int IntKind.i64 0), (4, Value.int IntKind.i64 0), (0, Value.pointer (some { block := r, off := 0 })), (1, Value.func (Fn.func 44) #[] #[])] [Ch.blk r 75 [Value.bool true, Value.string (mkS s), Value.int IntKind.i64 (↑A : Int), Value.int IntKind.i64 e]] [] (by kernel_rfl) (by kernel_rfl) trivial ?_
  refine wpr_call_all (dst := some 10) (by kernel_rfl) (Err_spec r s A e) give_all ?_
  rintro v hp' ⟨rfl, rfl⟩
  refine wpr_run (l₂ := []) true [2] [] [(11, Value.bool (e != 0)), (5, Value.int IntKind.i64 0), (4, Value.int IntKind.i64 0), (0, Value.pointer (some { block := r, off := 0 })), (1, Value.func (Fn.func 44) #[] #[])] [Ch.blk r 75 [Value.bool true, Value.string (mkS s), Value.int IntKind.i64 (↑A : Int), Value.int IntKind.i64 e]] [] (by kernel_rfl) (by kernel_rfl) trivial ?_
  refine wpr_nil ?_
  refine nx_then ?_
  refine wpc_cond ((e != 0)) (by kernel_rfl) (fun he => ?_) (fun he => ?_)
  · have he' : e ≠ 0 := by simpa using he
    rw [if_pos he']
    refine wpc_seq ?_
    refine wpc_region [0, 1] (by kernel_rfl) ?_
    refine wpr_run (l₂ := []) true [0, 1] [] [(4, Value.int IntKind.i64 0), (5, Value.int IntKind.i64 0), (0, Value.pointer (some { block := r, off := 0 })), (1, Value.func (Fn.func 44) #[] #[])] [Ch.blk r 75 [Value.bool true, Value.string (mkS s), Value.int IntKind.i64 (↑A : Int), Value.int IntKind.i64 e]] [] (by kernel_rfl) (by kernel_rfl) trivial ?_
    refine wpr_nil ?_
    refine nx_then ?_
    refine wpc_ret ?_
    refine nx_then_ret ?_
    refine nx_end (hp' := [Ch.blk r 75 [Value.bool true, Value.string (mkS s), Value.int IntKind.i64 (↑A : Int), Value.int IntKind.i64 e]]) (rest := []) [] ((Value.int IntKind.i64 0)) (by kernel_rfl) (by kernel_rfl) give_all (by first | ((repeat (first | exact trivial | refine ⟨trivial, ?_⟩)); done) | assumption) ?_ (.inr rfl)
    exact ⟨rfl, rfl⟩
  · have he' : ¬ e ≠ 0 := by simpa using he
    obtain rfl : e = 0 := Classical.not_not.1 he'
    rw [if_neg he']
    unfold rdr
    have hT : List.take ((s.length : Int) - (A : Int)).toNat (List.drop A s) = s.drop A := List.take_of_length_le (by rw [List.length_drop]; omega)
    refine wpc_skip ?_
    refine nx_then ?_
    refine wpc_seq ?_
    refine wpc_draw (by kernel_rfl) [Ch.blk r 75 [Value.bool true, Value.string (mkS s), Value.int IntKind.i64 (↑A : Int), Value.int IntKind.i64 0]] (sub_of [0] (by kernel_rfl)) 18 (by kernel_rfl) ?_
    refine wpa_take true [(0, []), (1, []), (2, []), (3, []), (4, [0]), (5, []), (6, []), (7, []), (8, [0]), (9, [])] [(23, Value.string (mkS (List.take ((↑s.length : Int) - (↑A : Int)).toNat (List.drop A s)))), (14, Value.func (Fn.func 44) #[] #[]), (5, Value.int IntKind.i64 0), (4, Value.int IntKind.i64 0), (0, Value.pointer (some { block := r, off := 0 }))] (#[true, true, true, true, true, true, true, true, true, true, false, false, false, false, false, false, false, false]) [(0 : Int) ≤ (↑A : Int) ∧ (↑A : Int) ≤ (↑s.length : Int)] (n := 8) (by kernel_rfl) (by kernel_rfl) (by kernel_rfl) ⟨by omega, trivial⟩ ?_
    rw [hT]
    refine wpa_call (i := 10) (n := 7) (dst := some 24) (rest := [Ch.blk r 75 [Value.bool true, Value.string (mkS s), Value.int IntKind.i64 (↑A : Int), Value.int IntKind.i64 0]]) (by kernel_rfl) (by kernel_rfl) (number_spec (s.drop A) (by rw [List.length_drop]; omega)) (give [] (by kernel_rfl)) (sub_of [0] (by kernel_rfl)) ?_
    rintro v hp' ⟨rfl, rfl⟩
    obtain ⟨x, u, y, hx⟩ : ∃ x u y, (num (s.drop A)) = (x, u, y) := ⟨_, _, _, rfl⟩
    rw [hx] at hok ⊢
    dsimp only at hok ⊢
    refine wpa_take true [(11, []), (12, []), (13, []), (14, []), (15, []), (16, []), (17, [])] [(8, Value.int IntKind.i64 y), (7, Value.int IntKind.i64 u), (6, Value.int IntKind.i64 x), (5, Value.int IntKind.i64 0), (4, Value.int IntKind.i64 0), (0, Value.pointer (some { block := r, off := 0 }))] (#[true, true, true, true, true, true, true, true, true, true, true, true, true, true, true, true, true, true]) [] (n := 0) (by kernel_rfl) (by kernel_rfl) (by kernel_rfl) trivial ?_
    refine wpa_done 0 (by kernel_rfl) ?_
    refine nx_then ?_
    refine wpc_seq ?_
    refine wpc_seq ?_
    refine wpc_region [0, 1] (by kernel_rfl) ?_
    refine wpr_run (l₂ := []) true [0, 1] [] [(29, Value.bool (y != 0)), (8, Value.int IntKind.i64 y), (7, Value.int IntKind.i64 u), (6, Value.int IntKind.i64 x), (5, Value.int IntKind.i64 0), (4, Value.int IntKind.i64 0), (0, Value.pointer (some { block := r, off := 0 }))] [Ch.blk r 75 [Value.bool true, Value.string (mkS s), Value.int IntKind.i64 (↑A : Int), Value.int IntKind.i64 0]] [] (by kernel_rfl) (by kernel_rfl) trivial ?_
    refine wpr_nil ?_
    refine nx_then ?_
    refine wpc_cond ((y != 0)) (by kernel_rfl) (fun hy => ?_) (fun hy => ?_)
    · have hy' : y ≠ 0 := by simpa using hy
      rw [if_pos hy']
      refine wpc_seq ?_
      refine wpc_region [0, 1, 2, 3, 4] (by kernel_rfl) ?_
      refine wpr_run (l₂ := []) true [0, 1, 2, 3, 4] [0] [(7, Value.int IntKind.i64 u), (6, Value.int IntKind.i64 x), (5, Value.int IntKind.i64 0), (4, Value.int IntKind.i64 0), (0, Value.pointer (some { block := r, off := 0 }))] [Ch.blk r 75 [Value.bool true, Value.string (mkS s), Value.int IntKind.i64 (↑A : Int), Value.int IntKind.i64 y]] [] (by kernel_rfl) (by kernel_rfl) trivial ?_
      refine wpr_nil ?_
      refine nx_then ?_
      refine wpc_seq ?_
      refine wpc_region [0, 1] (by kernel_rfl) ?_
      refine wpr_run (l₂ := []) true [0, 1] [] [(4, Value.int IntKind.i64 0), (7, Value.int IntKind.i64 u), (6, Value.int IntKind.i64 x), (0, Value.pointer (some { block := r, off := 0 }))] [Ch.blk r 75 [Value.bool true, Value.string (mkS s), Value.int IntKind.i64 (↑A : Int), Value.int IntKind.i64 y]] [] (by kernel_rfl) (by kernel_rfl) trivial ?_
      refine wpr_nil ?_
      refine nx_then ?_
      refine wpc_ret ?_
      refine nx_then_ret ?_
      refine nx_end (hp' := [Ch.blk r 75 [Value.bool true, Value.string (mkS s), Value.int IntKind.i64 (↑A : Int), Value.int IntKind.i64 y]]) (rest := []) [] ((Value.int IntKind.i64 0)) (by kernel_rfl) (by kernel_rfl) give_all (by first | ((repeat (first | exact trivial | refine ⟨trivial, ?_⟩)); done) | assumption) ?_ (.inr rfl)
      exact ⟨rfl, rfl⟩
    · have hy' : ¬ y ≠ 0 := by simpa using hy
      rw [if_neg hy']
      have hu : 0 < u ∧ u ≤ ((s.length - A : Nat) : Int) := by omega
      have hAu : ((A + u.toNat : Nat) : Int) = A + u := by omega
      dsimp only
      rw [hAu]
      refine wpc_skip ?_
      refine nx_then ?_
      refine wpc_seq ?_
      refine wpc_region [0, 1, 2, 3, 4, 5, 6, 7, 8] (by kernel_rfl) ?_
      refine wpr_run (l₂ := []) true [0, 1, 2, 3, 4, 5, 6, 7, 8] [0, 0] [(6, Value.int IntKind.i64 x), (4, Value.int IntKind.i64 0)] ([Ch.blk r 75 [Value.bool true, Value.string (mkS s), Value.int IntKind.i64 ((↑A : Int) + u), Value.int IntKind.i64 0]]) ([inI64 ((↑A : Int) + u)]) (by kernel_rfl) (by kernel_rfl) ⟨by unfold inI64; omega, trivial⟩ ?_
      refine wpr_nil ?_
      refine nx_then ?_
      refine wpc_seq ?_
      refine wpc_region [0, 1] (by kernel_rfl) ?_
      refine wpr_run (l₂ := []) true [0, 1] [] [(4, Value.int IntKind.i64 x)] ([Ch.blk r 75 [Value.bool true, Value.string (mkS s), Value.int IntKind.i64 ((↑A : Int) + u), Value.int IntKind.i64 0]]) [] (by kernel_rfl) (by kernel_rfl) trivial ?_
      refine wpr_nil ?_
      refine nx_then ?_
      refine wpc_ret ?_
      refine nx_end (hp' := ([Ch.blk r 75 [Value.bool true, Value.string (mkS s), Value.int IntKind.i64 ((↑A : Int) + u), Value.int IntKind.i64 0]])) (rest := []) [] ((Value.int IntKind.i64 x)) (by kernel_rfl) (by kernel_rfl) give_all (by first | ((repeat (first | exact trivial | refine ⟨trivial, ?_⟩)); done) | assumption) ?_ (.inr rfl)
      exact ⟨rfl, rfl⟩

theorem read_count (r A : Nat) (s : List UInt8) (e : Int) (t : Nat) (most : Int) (hA : A ≤ s.length) (hl : s.length ≤ 1099511627776) :
    Does Try.prog 37 [.pointer (some ⟨r, 0, none⟩), .func (.func 38) #[] #[.pointer (some ⟨t, 0, none⟩)]] [rdr r s A e, .blk t 3 [.int .i64 most]] (fun v hp' => v = .int .i64 (rd 0 A e (cnt (s.drop A) most)).1 ∧ hp' = [rdr r s (rd 0 A e (cnt (s.drop A) most)).2.1 (rd 0 A e (cnt (s.drop A) most)).2.2, .blk t 3 [.int .i64 most]]) := by
  refine fn_enter Try.func37 rfl 44 rfl fun w0 h0 => ?_
  have hok := cnt_ok (s.drop A) most
  rw [List.length_drop] at hok
  unfold rd
  refine wpc_seq ?_
  refine wpc_region [0] (by kernel_rfl) ?_
  refine wpr_run (l₂ := []) true [0] [] [(4, Value.int IntKind.i64 0), (0, Value.pointer (some { block := r, off := 0 })), (1, Value.func (Fn.func 38) #[] #[Value.pointer (some { block := t, off := 0 })])] [Ch.blk r 75 [Value.bool true, Value.string (mkS s), Value.int IntKind.i64 (↑A : Int), Value.int IntKind.i64 e], Ch.blk t 3 [Value.int IntKind.i64 most]] [] (by kernel_rfl) (by kernel_rfl) trivial ?_
  refine wpr_nil ?_
  refine nx_then ?_
  refine wpc_seq ?_
  refine wpc_region [0] (by kernel_rfl) ?_
  refine wpr_run (l₂ := []) true [0] [] [(5, Value.int IntKind.i64 0), (4, Value.int IntKind.i64 0), (0, Value.pointer (some { block := r, off := 0 })), (1, Value.func (Fn.func 38) #[] #[Value.pointer (some { block := t, off := 0 })])] [Ch.blk r 75 [Value.bool true, Value.string (mkS s), Value.int IntKind.i64 (↑A : Int), Value.int IntKind.i64 e], Ch.blk t 3 [Value.int IntKind.i64 most]] [] (by kernel_rfl) (by kernel_rfl) trivial ?_
  refine wpr_nil ?_
  refine nx_then ?_
  refine wpc_seq ?_
  refine wpc_seq ?_
  refine wpc_region [0, 1, 2] (by kernel_rfl) ?_
  refine wpr_run (l₂ := [1, 2]) true [0] [] [(9, Value.pointer (some { block := r, off := 0 })), (5, Value.int IntKind.i64 0), (4, Value.int IntKind.i64 0), (0, Value.pointer (some { block := r, off := 0 })), (1, Value.func (Fn.func 38) #[] #[Value.pointer (some { block := t, off := 0 })])] [Ch.blk r 75 [Value.bool true, Value.string (mkS s), Value.int IntKind.i64 (↑A : Int), Value.int IntKind.i64 e], Ch.blk t 3 [Value.int IntKind.i64 most]] [] (by kernel_rfl) (by kernel_rfl) trivial ?_
  refine wpr_call (dst := some 10) (rest := [Ch.blk t 3 [Value.int IntKind.i64 most]]) (by kernel_rfl) (Err_spec r s A e) (give [0] (by kernel_rfl)) ?_
  rintro v hp' ⟨rfl, rfl⟩
  refine wpr_run (l₂ := []) true [2] [] [(11, Value.bool (e != 0)), (5, Value.int IntKind.i64 0), (4, Value.int IntKind.i64 0), (0, Value.pointer (some { block := r, off := 0 })), (1, Value.func (Fn.func 38) #[] #[Value.pointer (some { block := t, off := 0 })])] [Ch.blk r 75 [Value.bool true, Value.string (mkS s), Value.int IntKind.i64 (↑A : Int), Value.int IntKind.i64 e], Ch.blk t 3 [Value.int IntKind.i64 most]] [] (by kernel_rfl) (by kernel_rfl) trivial ?_
  refine wpr_nil ?_
  refine nx_then ?_
  refine wpc_cond ((e != 0)) (by kernel_rfl) (fun he => ?_) (fun he => ?_)
  · have he' : e ≠ 0 := by simpa using he
    rw [if_pos he']
    refine wpc_seq ?_
    refine wpc_region [0, 1] (by kernel_rfl) ?_
    refine wpr_run (l₂ := []) true [0, 1] [] [(4, Value.int IntKind.i64 0), (5, Value.int IntKind.i64 0), (0, Value.pointer (some { block := r, off := 0 })), (1, Value.func (Fn.func 38) #[] #[Value.pointer (some { block := t, off := 0 })])] [Ch.blk r 75 [Value.bool true, Value.string (mkS s), Value.int IntKind.i64 (↑A : Int), Value.int IntKind.i64 e], Ch.blk t 3 [Value.int IntKind.i64 most]] [] (by kernel_rfl) (by kernel_rfl) trivial ?_
    refine wpr_nil ?_
    refine nx_then ?_
    refine wpc_ret ?_
    refine nx_then_ret ?_
    refine nx_end (hp' := [Ch.blk r 75 [Value.bool true, Value.string (mkS s), Value.int IntKind.i64 (↑A : Int), Value.int IntKind.i64 e], Ch.blk t 3 [Value.int IntKind.i64 most]]) (rest := []) [] ((Value.int IntKind.i64 0)) (by kernel_rfl) (by kernel_rfl) give_all (by first | ((repeat (first | exact trivial | refine ⟨trivial, ?_⟩)); done) | assumption) ?_ (.inr rfl)
    exact ⟨rfl, rfl⟩
  · have he' : ¬ e ≠ 0 := by simpa using he
    obtain rfl : e = 0 := Classical.not_not.1 he'
    rw [if_neg he']
    unfold rdr
    have hT : List.take ((s.length : Int) - (A : Int)).toNat (List.drop A s) = s.drop A := List.take_of_length_le (by rw [List.length_drop]; omega)
    refine wpc_skip ?_
    refine nx_then ?_
    refine wpc_seq ?_
    refine wpc_draw (by kernel_rfl) [Ch.blk r 75 [Value.bool true, Value.string (mkS s), Value.int IntKind.i64 (↑A : Int), Value.int IntKind.i64 0]] (sub_of [0] (by kernel_rfl)) 18 (by kernel_rfl) ?_
    refine wpa_take true [(0, []), (1, []), (2, []), (3, []), (4, [0]), (5, []), (6, []), (7, []), (8, [0]), (9, [])] [(23, Value.string (mkS (List.take ((↑s.length : Int) - (↑A : Int)).toNat (List.drop A s)))), (14, Value.func (Fn.func 38) #[] #[Value.pointer (some { block := t, off := 0 })]), (5, Value.int IntKind.i64 0), (4, Value.int IntKind.i64 0), (0, Value.pointer (some { block := r, off := 0 }))] (#[true, true, true, true, true, true, true, true, true, true, false, false, false, false, false, false, false, false]) [(0 : Int) ≤ (↑A : Int) ∧ (↑A : Int) ≤ (↑s.length : Int)] (n := 8) (by kernel_rfl) (by kernel_rfl) (by kernel_rfl) ⟨by omega, trivial⟩ ?_
    rw [hT]
    refine wpa_call (i := 10) (n := 7) (dst := some 24) (rest := [Ch.blk r 75 [Value.bool true, Value.string (mkS s), Value.int IntKind.i64 (↑A : Int), Value.int IntKind.i64 0]]) (by kernel_rfl) (by kernel_rfl) (Count1_spec (s.drop A) t most (by rw [List.length_drop]; omega)) (give [1] (by kernel_rfl)) (sub_of [0] (by kernel_rfl)) ?_
    rintro v hp' ⟨rfl, rfl⟩
    obtain ⟨x, u, y, hx⟩ : ∃ x u y, (cnt (s.drop A) most) = (x, u, y) := ⟨_, _, _, rfl⟩
    rw [hx] at hok ⊢
    dsimp only at hok ⊢
    refine wpa_take true [(11, []), (12, []), (13, []), (14, []), (15, []), (16, []), (17, [])] [(8, Value.int IntKind.i64 y), (7, Value.int IntKind.i64 u), (6, Value.int IntKind.i64 x), (5, Value.int IntKind.i64 0), (4, Value.int IntKind.i64 0), (0, Value.pointer (some { block := r, off := 0 }))] (#[true, true, true, true, true, true, true, true, true, true, true, true, true, true, true, true, true, true]) [] (n := 0) (by kernel_rfl) (by kernel_rfl) (by kernel_rfl) trivial ?_
    refine wpa_done 0 (by kernel_rfl) ?_
    refine nx_then ?_
    refine wpc_seq ?_
    refine wpc_seq ?_
    refine wpc_region [0, 1] (by kernel_rfl) ?_
    refine wpr_run (l₂ := []) true [0, 1] [] [(29, Value.bool (y != 0)), (8, Value.int IntKind.i64 y), (7, Value.int IntKind.i64 u), (6, Value.int IntKind.i64 x), (5, Value.int IntKind.i64 0), (4, Value.int IntKind.i64 0), (0, Value.pointer (some { block := r, off := 0 }))] [Ch.blk t 3 [Value.int IntKind.i64 most], Ch.blk r 75 [Value.bool true, Value.string (mkS s), Value.int IntKind.i64 (↑A : Int), Value.int IntKind.i64 0]] [] (by kernel_rfl) (by kernel_rfl) trivial ?_
    refine wpr_nil ?_
    refine nx_then ?_
    refine wpc_cond ((y != 0)) (by kernel_rfl) (fun hy => ?_) (fun hy => ?_)
    · have hy' : y ≠ 0 := by simpa using hy
      rw [if_pos hy']
      refine wpc_seq ?_
      refine wpc_region [0, 1, 2, 3, 4] (by kernel_rfl) ?_
      refine wpr_run (l₂ := []) true [0, 1, 2, 3, 4] [1] [(7, Value.int IntKind.i64 u), (6, Value.int IntKind.i64 x), (5, Value.int IntKind.i64 0), (4, Value.int IntKind.i64 0), (0, Value.pointer (some { block := r, off := 0 }))] [Ch.blk t 3 [Value.int IntKind.i64 most], Ch.blk r 75 [Value.bool true, Value.string (mkS s), Value.int IntKind.i64 (↑A : Int), Value.int IntKind.i64 y]] [] (by kernel_rfl) (by kernel_rfl) trivial ?_
      refine wpr_nil ?_
      refine nx_then ?_
      refine wpc_seq ?_
      refine wpc_region [0, 1] (by kernel_rfl) ?_
      refine wpr_run (l₂ := []) true [0, 1] [] [(4, Value.int IntKind.i64 0), (7, Value.int IntKind.i64 u), (6, Value.int IntKind.i64 x), (0, Value.pointer (some { block := r, off := 0 }))] [Ch.blk t 3 [Value.int IntKind.i64 most], Ch.blk r 75 [Value.bool true, Value.string (mkS s), Value.int IntKind.i64 (↑A : Int), Value.int IntKind.i64 y]] [] (by kernel_rfl) (by kernel_rfl) trivial ?_
      refine wpr_nil ?_
      refine nx_then ?_
      refine wpc_ret ?_
      refine nx_then_ret ?_
      refine nx_end (hp' := [Ch.blk r 75 [Value.bool true, Value.string (mkS s), Value.int IntKind.i64 (↑A : Int), Value.int IntKind.i64 y], Ch.blk t 3 [Value.int IntKind.i64 most]]) (rest := []) [] ((Value.int IntKind.i64 0)) (by kernel_rfl) (by kernel_rfl) (give [1, 0] (by kernel_rfl)) (by first | ((repeat (first | exact trivial | refine ⟨trivial, ?_⟩)); done) | assumption) ?_ (.inr rfl)
      exact ⟨rfl, rfl⟩
    · have hy' : ¬ y ≠ 0 := by simpa using hy
      rw [if_neg hy']
      have hu : 0 < u ∧ u ≤ ((s.length - A : Nat) : Int) := by omega
      have hAu : ((A + u.toNat : Nat) : Int) = A + u := by omega
      dsimp only
      rw [hAu]
      refine wpc_skip ?_
      refine nx_then ?_
      refine wpc_seq ?_
      refine wpc_region [0, 1, 2, 3, 4, 5, 6, 7, 8] (by kernel_rfl) ?_
      refine wpr_run (l₂ := []) true [0, 1, 2, 3, 4, 5, 6, 7, 8] [1, 1] [(6, Value.int IntKind.i64 x), (4, Value.int IntKind.i64 0)] ([Ch.blk t 3 [Value.int IntKind.i64 most], Ch.blk r 75 [Value.bool true, Value.string (mkS s), Value.int IntKind.i64 ((↑A : Int) + u), Value.int IntKind.i64 0]]) ([inI64 ((↑A : Int) + u)]) (by kernel_rfl) (by kernel_rfl) ⟨by unfold inI64; omega, trivial⟩ ?_
      refine wpr_nil ?_
      refine nx_then ?_
      refine wpc_seq ?_
      refine wpc_region [0, 1] (by kernel_rfl) ?_
      refine wpr_run (l₂ := []) true [0, 1] [] [(4, Value.int IntKind.i64 x)] ([Ch.blk t 3 [Value.int IntKind.i64 most], Ch.blk r 75 [Value.bool true, Value.string (mkS s), Value.int IntKind.i64 ((↑A : Int) + u), Value.int IntKind.i64 0]]) [] (by kernel_rfl) (by kernel_rfl) trivial ?_
      refine wpr_nil ?_
      refine nx_then ?_
      refine wpc_ret ?_
      refine nx_end (hp' := ([Ch.blk r 75 [Value.bool true, Value.string (mkS s), Value.int IntKind.i64 ((↑A : Int) + u), Value.int IntKind.i64 0], Ch.blk t 3 [Value.int IntKind.i64 most]])) (rest := []) [] ((Value.int IntKind.i64 x)) (by kernel_rfl) (by kernel_rfl) (give [1, 0] (by kernel_rfl)) (by first | ((repeat (first | exact trivial | refine ⟨trivial, ?_⟩)); done) | assumption) ?_ (.inr rfl)
      exact ⟨rfl, rfl⟩

theorem Count_spec (r A : Nat) (s : List UInt8) (e : Int) (most : Int) (hA : A ≤ s.length) (hl : s.length ≤ 1099511627776) :
    Does Try.prog 28 [.pointer (some ⟨r, 0, none⟩), .int .i64 most] [rdr r s A e] (fun v hp' => v = .int .i64 (rd 0 A e (cnt (s.drop A) most)).1 ∧ hp' = [rdr r s (rd 0 A e (cnt (s.drop A) most)).2.1 (rd 0 A e (cnt (s.drop A) most)).2.2]) := by
  refine fn_enter Try.func28 rfl 8 rfl fun w0 h0 => ?_
  refine wpc_seq ?_
  refine wpc_region [0, 1] (by kernel_rfl) ?_
  refine wpr_new (l₂ := [1]) true [0] [] (fun g1 => [(3, Value.pointer (some { block := g1, off := 0 })), (0, Value.pointer (some { block := r, off := 0 }))]) (fun g1 => [Ch.blk r 75 [Value.bool true, Value.string (mkS s), Value.int IntKind.i64 (↑A : Int), Value.int IntKind.i64 e], Ch.blk g1 3 [Value.int IntKind.i64 most]]) (fun g1 => []) (fun g1 => by kernel_rfl) (fun g1 => by kernel_rfl) (fun g1 => trivial) fun g1 => ?_
  refine wpr_run (l₂ := []) true [1] [] [(4, Value.int IntKind.i64 0), (3, Value.pointer (some { block := g1, off := 0 })), (0, Value.pointer (some { block := r, off := 0 }))] [Ch.blk r 75 [Value.bool true, Value.string (mkS s), Value.int IntKind.i64 (↑A : Int), Value.int IntKind.i64 e], Ch.blk g1 3 [Value.int IntKind.i64 most]] [] (by kernel_rfl) (by kernel_rfl) trivial ?_
  refine wpr_nil ?_
  refine nx_then ?_
  refine wpc_seq ?_
  refine wpc_region [0, 1, 2, 3] (by kernel_rfl) ?_
  refine wpr_run (l₂ := [2, 3]) true [0, 1] [] [(6, Value.func (Fn.func 38) #[] #[Value.pointer (some { block := g1, off := 0 })]), (5, Value.pointer (some { block := r, off := 0 })), (4, Value.int IntKind.i64 0)] [Ch.blk r 75 [Value.bool true, Value.string (mkS s), Value.int IntKind.i64 (↑A : Int), Value.int IntKind.i64 e], Ch.blk g1 3 [Value.int IntKind.i64 most]] [] (by kernel_rfl) (by kernel_rfl) trivial ?_
  refine wpr_call_all (dst := some 7) (by kernel_rfl) (read_count r A s e g1 most hA hl) give_all ?_
  rintro v hp' ⟨rfl, rfl⟩
  unfold rdr
  refine wpr_run (l₂ := []) true [3] [] [(4, Value.int IntKind.i64 (rd 0 A e (cnt (List.drop A s) most)).fst)] [Ch.blk r 75 [Value.bool true, Value.string (mkS s), Value.int IntKind.i64 (↑(rd 0 A e (cnt (List.drop A s) most)).snd.fst : Int), Value.int IntKind.i64 (rd 0 A e (cnt (List.drop A s) most)).snd.snd], Ch.blk g1 3 [Value.int IntKind.i64 most]] [] (by kernel_rfl) (by kernel_rfl) trivial ?_
  refine wpr_nil ?_
  refine nx_then ?_
  refine wpc_ret ?_
  refine nx_end (hp' := [Ch.blk r 75 [Value.bool true, Value.string (mkS s), Value.int IntKind.i64 (↑(rd 0 A e (cnt (List.drop A s) most)).snd.fst : Int), Value.int IntKind.i64 (rd 0 A e (cnt (List.drop A s) most)).snd.snd]]) (rest := [Ch.blk g1 3 [Value.int IntKind.i64 most]]) [] ((Value.int IntKind.i64 (rd 0 A e (cnt (List.drop A s) most)).fst)) (by kernel_rfl) (by kernel_rfl) (give [0] (by kernel_rfl)) (by first | ((repeat (first | exact trivial | refine ⟨trivial, ?_⟩)); done) | assumption) ?_ (.inr rfl)
  exact ⟨rfl, rfl⟩

theorem unfold_fold (n : Int) : unfoldN (foldN n) = n := by unfold unfoldN foldN; split <;> split <;> omega

theorem ofNat_toNat {n : Nat} (h : n < 256) : (UInt8.ofNat n).toNat = n := by rw [UInt8.toNat_ofNat']; omega

theorem num_vb : ∀ (k i f g : Nat) (more : List UInt8), i + k = 10 → 0 < k → (0 < i → 0 < g) → f + g * 128 ^ i < 18446744073709551616 →
    numGo k i f (vb g ++ more) = (unfoldN (f + g * 128 ^ i : Nat), ((i + (vb g).length : Nat) : Int), 0)
  | 0, _, _, _, _, _, h, _, _ => absurd h (by decide)
  | k + 1, i, f, g, more, hk, _, hg, hF => by
    have e9 : (128 : Nat) ^ 9 = 9223372036854775808 := by decide
    by_cases hs : g < 128
    · rw [vb_lt hs]
      have hc : (UInt8.ofNat g).toNat = g := ofNat_toNat (by omega)
      show numGo (k + 1) i f (UInt8.ofNat g :: more) = _
      unfold numGo
      rw [hc]
      have h9 : ¬ (i = 9 ∧ UInt8.ofNat g ≠ 1) := by
        rintro ⟨rfl, hne⟩
        rw [e9] at hF
        have : g = 1 := by have := hg (by decide); omega
        exact hne (by rw [this]; rfl)
      have h0 : ¬ (UInt8.ofNat g = 0 ∧ 0 < i) := by
        rintro ⟨h1, h2⟩
        have h3 := congrArg UInt8.toNat h1
        rw [hc] at h3
        have := hg h2
        have e0 : (0 : UInt8).toNat = 0 := rfl
        omega
      rw [if_neg h9, if_neg (by omega), if_neg h0, Nat.mod_eq_of_lt hs]
      simp
    · rw [vb_ge hs]
      have hc : (UInt8.ofNat (g % 128 + 128)).toNat = g % 128 + 128 := ofNat_toNat (by omega)
      have hi9 : i < 9 := by
        rcases Nat.lt_or_ge i 9 with h | h
        · exact h
        · have e : i = 9 := by omega
          subst e
          rw [e9] at hF
          omega
      show numGo (k + 1) i f (UInt8.ofNat (g % 128 + 128) :: (vb (g / 128) ++ more)) = _
      unfold numGo
      rw [hc]
      have e : f + (g % 128 + 128) % 128 * 128 ^ i + g / 128 * 128 ^ (i + 1) = f + g * 128 ^ i := by
        have h1 : (g % 128 + 128) % 128 = g % 128 := by omega
        have h2 : g / 128 * 128 ^ (i + 1) = (128 * (g / 128)) * 128 ^ i := by rw [Nat.pow_succ, Nat.mul_comm (128 ^ i), ← Nat.mul_assoc, Nat.mul_comm (g / 128)]
        rw [h1, h2, Nat.add_assoc, ← Nat.add_mul, Nat.mod_add_div]
      rw [if_neg (by omega), if_pos (by omega), num_vb k (i + 1) _ (g / 128) more (by omega) (by omega) (fun _ => by omega) (by rw [e]; exact hF), e]
      simp only [List.length_cons, Prod.mk.injEq, and_true, true_and]
      omega

theorem num_encI {n : Int} (h1 : -9223372036854775808 ≤ n) (h2 : n ≤ 9223372036854775807) (more : List UInt8) : num (encI n ++ more) = (n, ((encI n).length : Int), 0) := by
  have hF := foldN_lt h1 h2
  have hN := foldN_nn n
  have e : (((foldN n).toNat : Nat) : Int) = foldN n := Int.toNat_of_nonneg hN
  unfold num encI
  rw [num_vb 10 0 0 (foldN n).toNat more rfl (by decide) (fun h => absurd h (by decide)) (by simp; omega)]
  simp only [Nat.pow_zero, Nat.mul_one, Nat.zero_add, e, unfold_fold]

theorem cnt_encI {n most : Int} (h1 : 0 ≤ n) (h2 : n ≤ 9223372036854775807) (more : List UInt8) : cnt (encI n ++ more) most = if n > max 0 most then (0, 0, 5) else (n, ((encI n).length : Int), 0) := by
  unfold cnt
  rw [num_encI (by omega) h2]
  dsimp only
  rw [if_neg (by simp), if_neg (by omega)]

theorem txt_encT (t : List UInt8) (ht : (t.length : Int) ≤ 9223372036854775807) (most : Int) (hm : (t.length : Int) ≤ max 0 most) (more : List UInt8) : txt (encT t ++ more) most = (t, ((encT t).length : Int), 0) := by
  have hc := cnt_encI (most := most) (n := t.length) (by omega) ht (t ++ more)
  have e : encT t ++ more = encI t.length ++ (t ++ more) := by unfold encT; rw [List.append_assoc]
  rw [if_neg (by omega)] at hc
  unfold txt
  rw [e, hc]
  dsimp only
  rw [if_neg (by simp), if_neg (by simp only [List.length_append]; omega)]
  simp [encT]

theorem bol_encB (b : Bool) (more : List UInt8) : bol (encB b ++ more) = (b, 1, 0) := by cases b <;> rfl

theorem fold_unfold (F : Int) (h : 0 ≤ F) : foldN (unfoldN F) = F := by unfold unfoldN foldN; split <;> split <;> omega

theorem num_inv : ∀ (k i f : Nat) (s : List UInt8) (x u : Int), numGo k i f s = (x, u, 0) →
    ∃ g : Nat, x = unfoldN (f + g * 128 ^ i : Nat) ∧ u = ((i + (vb g).length : Nat) : Int) ∧ s.take (vb g).length = vb g ∧ (vb g).length ≤ s.length ∧ (0 < i → 0 < g)
  | 0, _, _, _, x, u, h => by simp [numGo] at h
  | _ + 1, _, _, [], x, u, h => by simp [numGo] at h
  | k + 1, i, f, c :: s, x, u, h => by
    unfold numGo at h
    split at h
    · simp at h
    · split at h
      · rename_i hc
        obtain ⟨g, h1, h2, h3, h4, h5⟩ := num_inv k (i + 1) _ s x u h
        have hg := h5 (by omega)
        have hcl := c.toNat_lt
        have hge : ¬ (c.toNat % 128 + 128 * g) < 128 := by omega
        have hv : vb (c.toNat % 128 + 128 * g) = c :: vb g := by
          rw [vb_ge hge, show (c.toNat % 128 + 128 * g) / 128 = g by omega, show (c.toNat % 128 + 128 * g) % 128 + 128 = c.toNat by omega, UInt8.ofNat_toNat]
        refine ⟨c.toNat % 128 + 128 * g, ?_, ?_, ?_, ?_, fun _ => by omega⟩
        · rw [h1]
          congr 2
          rw [Nat.pow_succ, Nat.mul_comm (128 ^ i), ← Nat.mul_assoc, Nat.mul_comm g, Nat.add_assoc, ← Nat.add_mul]
        · rw [h2, hv]; simp; omega
        · rw [hv, List.length_cons, List.take_succ_cons, h3]
        · rw [hv]; simp; omega
      · split at h
        · simp at h
        · rename_i hc h0
          have hc' : c.toNat < 128 := by omega
          simp only [Prod.mk.injEq, and_true] at h
          have hv : vb c.toNat = [c] := by rw [vb_lt hc', UInt8.ofNat_toNat]
          refine ⟨c.toNat, ?_, ?_, ?_, ?_, fun hi => ?_⟩
          · rw [← h.1, Nat.mod_eq_of_lt hc']
          · rw [← h.2, hv]; simp
          · rw [hv]; simp
          · rw [hv]; simp
          · rcases Nat.eq_zero_or_pos c.toNat with h' | h'
            · exact absurd ⟨UInt8.toNat_inj.1 h', hi⟩ h0
            · exact h'

theorem num_form (s : List UInt8) (x u : Int) (h : num s = (x, u, 0)) : u = (encI x).length ∧ s.take (encI x).length = encI x ∧ (encI x).length ≤ s.length := by
  obtain ⟨g, h1, h2, h3, h4, _⟩ := num_inv 10 0 0 s x u h
  have e : encI x = vb g := by
    unfold encI
    rw [h1, fold_unfold _ (Int.natCast_nonneg _)]
    simp
  rw [e]
  exact ⟨by rw [h2]; simp, h3, h4⟩

theorem cnt_num (s : List UInt8) (most n u : Int) (h : cnt s most = (n, u, 0)) : num s = (n, u, 0) ∧ 0 ≤ n ∧ n ≤ max 0 most := by
  unfold cnt at h
  split at h
  · rename_i h1; simp only [Prod.mk.injEq] at h; exact absurd h.2.2 h1
  · rename_i h1
    split at h
    · simp at h
    · split at h
      · simp at h
      · simp only [Prod.mk.injEq, and_true] at h
        refine ⟨?_, by omega, by omega⟩
        rw [← h.1, ← h.2]
        exact Prod.ext rfl (Prod.ext rfl (Classical.not_not.1 h1))

theorem txt_form (s t : List UInt8) (most u : Int) (h : txt s most = (t, u, 0)) : u = (encT t).length ∧ s.take (encT t).length = encT t ∧ (encT t).length ≤ s.length := by
  obtain ⟨n, v, e, hn⟩ : ∃ n v e, cnt s most = (n, v, e) := ⟨_, _, _, rfl⟩
  have hok := cnt_ok s most
  unfold txt at h
  rw [hn] at h hok
  dsimp only at h hok
  split at h
  · rename_i h1; simp only [Prod.mk.injEq] at h; exact absurd h.2.2 h1
  · rename_i h1
    have he : e = 0 := Classical.not_not.1 h1
    subst he
    obtain ⟨hx, h0, _⟩ := cnt_num s most n v hn
    obtain ⟨hv, ht, hle⟩ := num_form s n v hx
    split at h
    · simp at h
    · rename_i h2
      simp only [Prod.mk.injEq, and_true] at h
      obtain ⟨h3, h4⟩ := h
      have hvn : v.toNat = (encI n).length := by omega
      have htl : t.length = n.toNat := by rw [← h3, List.length_take, List.length_drop]; omega
      have hE : encT t = encI n ++ t := by unfold encT; rw [htl, Int.toNat_of_nonneg h0]
      have hEl : (encT t).length = (encI n).length + t.length := by rw [hE, List.length_append]
      refine ⟨by omega, ?_, by omega⟩
      rw [hEl, List.take_add, ht, hE, htl, ← hvn, h3]

theorem unfoldN_rng {F : Int} (h : 0 ≤ F) (h2 : F < 18446744073709551616) : -9223372036854775808 ≤ unfoldN F ∧ unfoldN F ≤ 9223372036854775807 := by unfold unfoldN; split <;> omega

theorem num_rng : ∀ (k i f : Nat) (s : List UInt8), f < 128 ^ i → i + k = 10 → -9223372036854775808 ≤ (numGo k i f s).1 ∧ (numGo k i f s).1 ≤ 9223372036854775807
  | 0, _, _, _, _, _ => by simp [numGo]
  | _ + 1, _, _, [], _, _ => by simp [numGo]
  | k + 1, i, f, c :: s, hf, hk => by
    unfold numGo
    split
    · simp
    · rename_i h9
      split
      · refine num_rng k (i + 1) _ s ?_ (by omega)
        have : c.toNat % 128 * 128 ^ i ≤ 127 * 128 ^ i := Nat.mul_le_mul_right _ (by omega)
        rw [Nat.pow_succ]; omega
      · split
        · simp
        · have h9x : i = 9 → c.toNat % 128 ≤ 1 := fun e => by
            have e1 : c = 1 := Classical.byContradiction fun hc1 => h9 ⟨e, hc1⟩
            rw [e1]; decide
          have hacc := acc_lt hf (by omega) (Nat.mod_lt c.toNat (show 0 < 128 by decide)) h9x
          exact unfoldN_rng (by omega) (by omega)

theorem num_i64 (s : List UInt8) : -9223372036854775808 ≤ (num s).1 ∧ (num s).1 ≤ 9223372036854775807 := num_rng 10 0 0 s (by decide) rfl

end Go.Proofs.Ytmjhcadciblcdaa
