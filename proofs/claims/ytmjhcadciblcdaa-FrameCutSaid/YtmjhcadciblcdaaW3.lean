import Derived.Test.YtmjhcadciblcdaaW2
import Derived.Test.YtmjhcadciblcdaaX13
namespace Go.Proofs.Ytmjhcadciblcdaa
open Go Go.Sx
set_option linter.unusedVariables false
set_option linter.unusedSimpArgs false

/-- What a number's reading may tell. -/
theorem numGo_ok : ∀ (k i f : Nat) (s : List UInt8), ((numGo k i f s).2.2 = 0 ∧ (i : Int) < (numGo k i f s).2.1 ∧ (numGo k i f s).2.1 ≤ i + s.length) ∨ ((numGo k i f s).1 = 0 ∧ (numGo k i f s).2.1 = 0 ∧ ((numGo k i f s).2.2 = 3 ∨ (numGo k i f s).2.2 = 4))
  | 0, _, _, _ => .inr ⟨rfl, rfl, .inr rfl⟩
  | _ + 1, _, _, [] => .inr ⟨rfl, rfl, .inl rfl⟩
  | k + 1, i, f, c :: s => by
    unfold numGo
    split
    · exact .inr ⟨rfl, rfl, .inr rfl⟩
    · split
      · rcases numGo_ok k (i + 1) (f + c.toNat % 128 * 128 ^ i) s with h | h
        · exact .inl ⟨h.1, by have := h.2.1; omega, by have := h.2.2; simp only [List.length_cons]; omega⟩
        · exact .inr h
      · split
        · exact .inr ⟨rfl, rfl, .inr rfl⟩
        · exact .inl ⟨rfl, by simp only []; omega, by simp only [List.length_cons]; omega⟩

def cnt (s : List UInt8) (most : Int) : Int × Int × Int :=
  if (num s).2.2 ≠ 0 then (0, 0, (num s).2.2) else if (num s).1 < 0 then (0, 0, 4) else if (num s).1 > max 0 most then (0, 0, 5) else ((num s).1, (num s).2.1, 0)

theorem count_spec (s : List UInt8) (most : Int) (hl : s.length ≤ 1099511627776) :
    Does Try.prog 39 [.string (mkS s), .int .i64 most] [] (fun v hp' => v = .tuple #[.int .i64 (cnt s most).1, .int .i64 (cnt s most).2.1, .int .i64 (cnt s most).2.2] ∧ hp' = []) := by
  refine fn_enter Try.func39 rfl 30 rfl fun w0 h0 => ?_
  refine wpc_seq ?_
  refine wpc_region [0, 1, 2] (by kernel_rfl) ?_
  refine wpr_run (l₂ := []) true [0, 1, 2] [] [(6, Value.int IntKind.i64 0), (5, Value.int IntKind.i64 0), (4, Value.int IntKind.i64 0), (0, Value.string (mkS s)), (1, Value.int IntKind.i64 most)] [] [] (by kernel_rfl) (by kernel_rfl) trivial ?_
  refine wpr_nil ?_
  refine nx_then ?_
  refine wpc_seq ?_
  refine wpc_region [0, 1, 2, 3, 4, 5, 6, 7, 8] (by kernel_rfl) ?_
  refine wpr_run (l₂ := [1, 2, 3, 4, 5, 6, 7, 8]) true [0] [] [(11, Value.string (mkS s)), (6, Value.int IntKind.i64 0), (5, Value.int IntKind.i64 0), (4, Value.int IntKind.i64 0), (1, Value.int IntKind.i64 most)] [] [] (by kernel_rfl) (by kernel_rfl) trivial ?_
  refine wpr_call_all (dst := some 12) (by kernel_rfl) (number_spec s hl) give_all ?_
  rintro v hp' ⟨rfl, rfl⟩
  obtain ⟨n, u, e, hn⟩ : ∃ n u e, num s = (n, u, e) := ⟨_, _, _, rfl⟩
  unfold cnt
  rw [hn]
  dsimp only
  refine wpr_run (l₂ := []) true [2, 3, 4, 5, 6, 7, 8] [] [(9, Value.int IntKind.i64 e), (8, Value.int IntKind.i64 u), (7, Value.int IntKind.i64 n), (6, Value.int IntKind.i64 0), (5, Value.int IntKind.i64 0), (4, Value.int IntKind.i64 0), (1, Value.int IntKind.i64 most)] [] [] (by kernel_rfl) (by kernel_rfl) trivial ?_
  refine wpr_nil ?_
  refine nx_then ?_
  refine wpc_seq ?_
  refine wpc_block ?_
  refine wpc_seq ?_
  refine wpc_region [0, 1, 2] (by kernel_rfl) ?_
  refine wpr_run (l₂ := []) true [0, 1, 2] [] [(16, Value.bool (e != 0)), (9, Value.int IntKind.i64 e), (8, Value.int IntKind.i64 u), (7, Value.int IntKind.i64 n), (6, Value.int IntKind.i64 0), (5, Value.int IntKind.i64 0), (4, Value.int IntKind.i64 0), (1, Value.int IntKind.i64 most)] [] [] (by kernel_rfl) (by kernel_rfl) trivial ?_
  refine wpr_nil ?_
  refine nx_then ?_
  refine wpc_cond ((e != 0)) (by kernel_rfl) (fun h1 => ?_) (fun h1 => ?_)
  · have h1' : e ≠ 0 := by simpa using h1
    rw [if_pos h1']
    refine wpc_seq ?_
    refine wpc_region [0, 1, 2, 3] (by kernel_rfl) ?_
    refine wpr_run (l₂ := []) true [0, 1, 2, 3] [] [(6, Value.int IntKind.i64 e), (5, Value.int IntKind.i64 0), (4, Value.int IntKind.i64 0), (8, Value.int IntKind.i64 u), (7, Value.int IntKind.i64 n)] [] [] (by kernel_rfl) (by kernel_rfl) trivial ?_
    refine wpr_nil ?_
    refine nx_then ?_
    refine wpc_ret ?_
    refine nx_block_ret ?_
    refine nx_then_ret ?_
    refine nx_end (hp' := []) (rest := []) [] ((Value.tuple #[Value.int IntKind.i64 0, Value.int IntKind.i64 0, Value.int IntKind.i64 e])) (by kernel_rfl) (by kernel_rfl) give_all (by first | ((repeat (first | exact trivial | refine ⟨trivial, ?_⟩)); done) | assumption) ?_ (.inr rfl)
    exact ⟨rfl, rfl⟩
  · have h1' : ¬ e ≠ 0 := by simpa using h1
    rw [if_neg h1']
    refine wpc_seq ?_
    refine wpc_region [0, 1, 2] (by kernel_rfl) ?_
    refine wpr_run (l₂ := []) true [0, 1, 2] [] [(20, Value.bool (decide (n < 0))), (8, Value.int IntKind.i64 u), (7, Value.int IntKind.i64 n), (6, Value.int IntKind.i64 0), (5, Value.int IntKind.i64 0), (4, Value.int IntKind.i64 0), (1, Value.int IntKind.i64 most)] [] [] (by kernel_rfl) (by kernel_rfl) trivial ?_
    refine wpr_nil ?_
    refine nx_then ?_
    refine wpc_if ((n < 0)) (by kernel_rfl) (fun h2 => ?_) (fun h2 => ?_)
    · rw [if_pos h2]
      refine wpc_seq ?_
      refine wpc_region [0, 1, 2] (by kernel_rfl) ?_
      refine wpr_run (l₂ := []) true [0, 1, 2] [] [(6, Value.int IntKind.i64 4), (5, Value.int IntKind.i64 0), (4, Value.int IntKind.i64 0), (8, Value.int IntKind.i64 u), (7, Value.int IntKind.i64 n)] [] [] (by kernel_rfl) (by kernel_rfl) trivial ?_
      refine wpr_nil ?_
      refine nx_then ?_
      refine wpc_ret ?_
      refine nx_block_ret ?_
      refine nx_then_ret ?_
      refine nx_end (hp' := []) (rest := []) [] ((Value.tuple #[Value.int IntKind.i64 0, Value.int IntKind.i64 0, Value.int IntKind.i64 4])) (by kernel_rfl) (by kernel_rfl) give_all (by first | ((repeat (first | exact trivial | refine ⟨trivial, ?_⟩)); done) | assumption) ?_ (.inr rfl)
      exact ⟨rfl, rfl⟩
    · rw [if_neg h2]
      refine wpc_seq ?_
      refine wpc_region [0, 1, 2, 3, 4] (by kernel_rfl) ?_
      refine wpr_run (l₂ := []) true [0, 1, 2, 3, 4] [] [(23, Value.bool (decide (n > if most > 0 then most else 0))), (8, Value.int IntKind.i64 u), (7, Value.int IntKind.i64 n), (6, Value.int IntKind.i64 0), (5, Value.int IntKind.i64 0), (4, Value.int IntKind.i64 0)] [] [] (by kernel_rfl) (by kernel_rfl) trivial ?_
      refine wpr_nil ?_
      refine nx_then ?_
      have hmx : (if most > 0 then most else 0) = max 0 most := by split <;> omega
      refine wpc_if ((n > if most > 0 then most else 0)) (by kernel_rfl) (fun h3 => ?_) (fun h3 => ?_)
      · rw [if_pos (show n > max 0 most by rw [← hmx]; exact h3)]
        refine wpc_seq ?_
        refine wpc_region [0, 1, 2] (by kernel_rfl) ?_
        refine wpr_run (l₂ := []) true [0, 1, 2] [] [(6, Value.int IntKind.i64 5), (5, Value.int IntKind.i64 0), (4, Value.int IntKind.i64 0), (8, Value.int IntKind.i64 u), (7, Value.int IntKind.i64 n)] [] [] (by kernel_rfl) (by kernel_rfl) trivial ?_
        refine wpr_nil ?_
        refine nx_then ?_
        refine wpc_ret ?_
        refine nx_block_ret ?_
        refine nx_then_ret ?_
        refine nx_end (hp' := []) (rest := []) [] ((Value.tuple #[Value.int IntKind.i64 0, Value.int IntKind.i64 0, Value.int IntKind.i64 5])) (by kernel_rfl) (by kernel_rfl) give_all (by first | ((repeat (first | exact trivial | refine ⟨trivial, ?_⟩)); done) | assumption) ?_ (.inr rfl)
        exact ⟨rfl, rfl⟩
      · rw [if_neg (show ¬ n > max 0 most by rw [← hmx]; exact h3)]
        refine wpc_skip ?_
        refine nx_block ?_
        refine nx_then ?_
        refine wpc_seq ?_
        refine wpc_region [0, 1, 2, 3, 4] (by kernel_rfl) ?_
        refine wpr_run (l₂ := []) true [0, 1, 2, 3, 4] [] [(6, Value.int IntKind.i64 0), (5, Value.int IntKind.i64 u), (4, Value.int IntKind.i64 n)] [] [] (by kernel_rfl) (by kernel_rfl) trivial ?_
        refine wpr_nil ?_
        refine nx_then ?_
        refine wpc_ret ?_
        refine nx_end (hp' := []) (rest := []) [] ((Value.tuple #[Value.int IntKind.i64 n, Value.int IntKind.i64 u, Value.int IntKind.i64 0])) (by kernel_rfl) (by kernel_rfl) give_all (by first | ((repeat (first | exact trivial | refine ⟨trivial, ?_⟩)); done) | assumption) ?_ (.inr rfl)
        exact ⟨rfl, rfl⟩

theorem cnt_ok (s : List UInt8) (most : Int) : ((cnt s most).2.2 = 0 ∧ 0 ≤ (cnt s most).1 ∧ 0 < (cnt s most).2.1 ∧ (cnt s most).2.1 ≤ s.length) ∨ ((cnt s most).1 = 0 ∧ (cnt s most).2.1 = 0 ∧ (cnt s most).2.2 ≠ 0) := by
  have h := numGo_ok 10 0 0 s
  have hn : numGo 10 0 0 s = num s := rfl
  rw [hn] at h
  unfold cnt
  split
  · rename_i h1; exact .inr ⟨rfl, rfl, h1⟩
  · rename_i h1
    split
    · exact .inr ⟨rfl, rfl, by simp⟩
    · rename_i h2
      split
      · exact .inr ⟨rfl, rfl, by simp⟩
      · rcases h with h | h
        · exact .inl ⟨rfl, by simp only []; omega, by have := h.2.1; simpa using this, by have := h.2.2; simpa using this⟩
        · have := h.2.2; omega

def bol (s : List UInt8) : Bool × Int × Int := match s with | [] => (false, 0, 3) | c :: _ => if 1 < c.toNat then (false, 0, 4) else (c.toNat == 1, 1, 0)

theorem bol_ok (s : List UInt8) : ((bol s).2.2 = 0 ∧ 0 < (bol s).2.1 ∧ (bol s).2.1 ≤ s.length) ∨ ((bol s).1 = false ∧ (bol s).2.1 = 0 ∧ (bol s).2.2 ≠ 0) := by
  unfold bol
  split
  · exact .inr ⟨rfl, rfl, by simp⟩
  · split
    · exact .inr ⟨rfl, rfl, by simp⟩
    · exact .inl ⟨rfl, by simp, by simp only [List.length_cons]; omega⟩

theorem Count1_spec (s : List UInt8) (t : Nat) (most : Int) (hl : s.length ≤ 1099511627776) :
    Does Try.prog 38 [.string (mkS s), .pointer (some ⟨t, 0, none⟩)] [.blk t 3 [.int .i64 most]] (fun v hp' => v = .tuple #[.int .i64 (cnt s most).1, .int .i64 (cnt s most).2.1, .int .i64 (cnt s most).2.2] ∧ hp' = [.blk t 3 [.int .i64 most]]) := by
  refine fn_enter Try.func38 rfl 12 rfl fun w0 h0 => ?_
  refine wpc_seq ?_
  refine wpc_region [0, 1, 2] (by kernel_rfl) ?_
  refine wpr_run (l₂ := []) true [0, 1, 2] [] [(5, Value.int IntKind.i64 0), (4, Value.int IntKind.i64 0), (3, Value.int IntKind.i64 0), (0, Value.string (mkS s)), (1, Value.pointer (some { block := t, off := 0 }))] [Ch.blk t 3 [Value.int IntKind.i64 most]] [] (by kernel_rfl) (by kernel_rfl) trivial ?_
  refine wpr_nil ?_
  refine nx_then ?_
  refine wpc_seq ?_
  refine wpc_region [0, 1, 2, 3, 4, 5, 6, 7, 8] (by kernel_rfl) ?_
  refine wpr_run (l₂ := [2, 3, 4, 5, 6, 7, 8]) true [0, 1] [0] [(7, Value.int IntKind.i64 most), (6, Value.string (mkS s)), (5, Value.int IntKind.i64 0), (4, Value.int IntKind.i64 0), (3, Value.int IntKind.i64 0)] [Ch.blk t 3 [Value.int IntKind.i64 most]] [] (by kernel_rfl) (by kernel_rfl) trivial ?_
  refine wpr_call (dst := some 8) (rest := [Ch.blk t 3 [Value.int IntKind.i64 most]]) (by kernel_rfl) (count_spec s most hl) (give [] (by kernel_rfl)) ?_
  rintro v hp' ⟨rfl, rfl⟩
  refine wpr_run (l₂ := []) true [3, 4, 5, 6, 7, 8] [] [(5, Value.int IntKind.i64 (cnt s most).snd.snd), (4, Value.int IntKind.i64 (cnt s most).snd.fst), (3, Value.int IntKind.i64 (cnt s most).fst)] [Ch.blk t 3 [Value.int IntKind.i64 most]] [] (by kernel_rfl) (by kernel_rfl) trivial ?_
  refine wpr_nil ?_
  refine nx_then ?_
  refine wpc_ret ?_
  refine nx_end (hp' := [Ch.blk t 3 [Value.int IntKind.i64 most]]) (rest := []) [] ((Value.tuple #[Value.int IntKind.i64 (cnt s most).fst, Value.int IntKind.i64 (cnt s most).snd.fst, Value.int IntKind.i64 (cnt s most).snd.snd])) (by kernel_rfl) (by kernel_rfl) give_all (by first | ((repeat (first | exact trivial | refine ⟨trivial, ?_⟩)); done) | assumption) ?_ (.inr rfl)
  exact ⟨rfl, rfl⟩

def txt (s : List UInt8) (most : Int) : List UInt8 × Int × Int :=
  if (cnt s most).2.2 ≠ 0 then ([], 0, (cnt s most).2.2) else if (cnt s most).1 > s.length - (cnt s most).2.1 then ([], 0, 3) else ((s.drop (cnt s most).2.1.toNat).take (cnt s most).1.toNat, (cnt s most).2.1 + (cnt s most).1, 0)

theorem txt_ok (s : List UInt8) (most : Int) : ((txt s most).2.2 = 0 ∧ 0 < (txt s most).2.1 ∧ (txt s most).2.1 ≤ s.length) ∨ ((txt s most).1 = [] ∧ (txt s most).2.1 = 0 ∧ (txt s most).2.2 ≠ 0) := by
  have hok := cnt_ok s most
  unfold txt
  split
  · rename_i h; exact .inr ⟨rfl, rfl, h⟩
  · split
    · exact .inr ⟨rfl, rfl, by simp⟩
    · exact .inl ⟨rfl, by simp only []; omega, by simp only []; omega⟩

theorem num_ok (s : List UInt8) : ((num s).2.2 = 0 ∧ 0 < (num s).2.1 ∧ (num s).2.1 ≤ s.length) ∨ ((num s).1 = 0 ∧ (num s).2.1 = 0 ∧ (num s).2.2 ≠ 0) := by
  have h := numGo_ok 10 0 0 s
  have hn : numGo 10 0 0 s = num s := rfl
  rw [hn] at h
  rcases h with h | h
  · exact .inl ⟨h.1, by have := h.2.1; simpa using this, by have := h.2.2; simpa using this⟩
  · exact .inr ⟨h.1, h.2.1, by omega⟩

end Go.Proofs.Ytmjhcadciblcdaa
