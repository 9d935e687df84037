import Derived.Test.YtoagfnobfbfdfaaProg
import Derived.Test.YtoagfnobfbfdfaaX13
namespace Go.Proofs.Ytoagfnobfbfdfaa
open Go Go.Sx
set_option linter.unusedVariables false
set_option linter.unusedSimpArgs false

/-- A client's number. -/
def cl (c : Int) : Bool := decide (c ≥ 1) && decide (c ≤ 2147483647)
theorem client_spec (c : Int) : Does Try.prog 33 [.int .i64 c] [] (fun v hp' => v = .bool (cl c) ∧ hp' = []) := by
  refine fn_enter Try.func33 rfl 9 rfl fun w0 h0 => ?_
  refine wpc_seq ?_
  refine wpc_region [0] (by kernel_rfl) ?_
  refine wpr_run (l₂ := []) true [0] [] [(2, Value.bool false), (0, Value.int IntKind.i64 c)] [] [] (by kernel_rfl) (by kernel_rfl) trivial ?_
  refine wpr_nil ?_
  refine nx_then ?_
  refine wpc_seq ?_
  refine wpc_region [0, 1, 2, 3, 4, 5, 6] (by kernel_rfl) ?_
  refine wpr_run (l₂ := [3, 4, 5, 6]) true [0, 1, 2] [] [(5, Value.bool (decide (c ≥ 1))), (2, Value.bool false), (0, Value.int IntKind.i64 c)] [] [] (by kernel_rfl) (by kernel_rfl) trivial ?_
  refine wpr_casep 5 ((c ≥ 1)) (by kernel_rfl) (fun h => ?_) (fun h => ?_)
  · refine wpr_run (l₂ := []) true [3, 4, 5, 6] [] [(2, Value.bool (decide (c ≤ 2147483647)))] [] [] (by kernel_rfl) (by kernel_rfl) trivial ?_
    refine wpr_nil ?_
    refine nx_then ?_
    refine wpc_ret ?_
    refine nx_end (hp' := []) (rest := []) [] ((Value.bool (decide (c ≤ 2147483647)))) (by kernel_rfl) (by kernel_rfl) give_all (by first | ((repeat (first | exact trivial | refine ⟨trivial, ?_⟩)); done) | assumption) ?_ (.inr rfl)
    exact ⟨by unfold cl; rw [decide_eq_true h]; rfl, rfl⟩
  · refine wpr_run (l₂ := []) true [3, 4, 5, 6] [] [(2, Value.bool false)] [] [] (by kernel_rfl) (by kernel_rfl) trivial ?_
    refine wpr_nil ?_
    refine nx_then ?_
    refine wpc_ret ?_
    refine nx_end (hp' := []) (rest := []) [] ((Value.bool false)) (by kernel_rfl) (by kernel_rfl) give_all (by first | ((repeat (first | exact trivial | refine ⟨trivial, ?_⟩)); done) | assumption) ?_ (.inr rfl)
    exact ⟨by unfold cl; rw [decide_eq_false h]; rfl, rfl⟩
theorem rClient_spec (c : Int) : Does Try.prog 36 [.int .i64 c] [] (fun v hp' => v = .bool (cl c) ∧ hp' = []) := by
  refine fn_enter Try.func36 rfl 9 rfl fun w0 h0 => ?_
  refine wpc_seq ?_
  refine wpc_region [0] (by kernel_rfl) ?_
  refine wpr_run (l₂ := []) true [0] [] [(2, Value.bool false), (0, Value.int IntKind.i64 c)] [] [] (by kernel_rfl) (by kernel_rfl) trivial ?_
  refine wpr_nil ?_
  refine nx_then ?_
  refine wpc_seq ?_
  refine wpc_region [0, 1, 2, 3, 4, 5, 6] (by kernel_rfl) ?_
  refine wpr_run (l₂ := [3, 4, 5, 6]) true [0, 1, 2] [] [(5, Value.bool (decide (c ≥ 1))), (2, Value.bool false), (0, Value.int IntKind.i64 c)] [] [] (by kernel_rfl) (by kernel_rfl) trivial ?_
  refine wpr_casep 5 ((c ≥ 1)) (by kernel_rfl) (fun h => ?_) (fun h => ?_)
  · refine wpr_run (l₂ := []) true [3, 4, 5, 6] [] [(2, Value.bool (decide (c ≤ 2147483647)))] [] [] (by kernel_rfl) (by kernel_rfl) trivial ?_
    refine wpr_nil ?_
    refine nx_then ?_
    refine wpc_ret ?_
    refine nx_end (hp' := []) (rest := []) [] ((Value.bool (decide (c ≤ 2147483647)))) (by kernel_rfl) (by kernel_rfl) give_all (by first | ((repeat (first | exact trivial | refine ⟨trivial, ?_⟩)); done) | assumption) ?_ (.inr rfl)
    exact ⟨by unfold cl; rw [decide_eq_true h]; rfl, rfl⟩
  · refine wpr_run (l₂ := []) true [3, 4, 5, 6] [] [(2, Value.bool false)] [] [] (by kernel_rfl) (by kernel_rfl) trivial ?_
    refine wpr_nil ?_
    refine nx_then ?_
    refine wpc_ret ?_
    refine nx_end (hp' := []) (rest := []) [] ((Value.bool false)) (by kernel_rfl) (by kernel_rfl) give_all (by first | ((repeat (first | exact trivial | refine ⟨trivial, ?_⟩)); done) | assumption) ?_ (.inr rfl)
    exact ⟨by unfold cl; rw [decide_eq_false h]; rfl, rfl⟩

structure IX (l : List Int) (v : Int) where
  i : Nat
  hi : i ≤ l.length
  h : ∀ j (hj : j < i), l[j]'(by omega) ≠ v
def indexOf (l : List Int) (v : Int) : Int := if l.idxOf v < l.length then (l.idxOf v : Int) else -1
theorem Index_spec (a : Option Addr) (c : Nat) (l : List Int) (v : Int) (ha : a = none → l = []) (hl : l.length ≤ 1099511627776) :
    Does Try.prog 38 [.slice a l.length c, .int .i64 v] [ro a (ints l)] (fun r hp' => r = .int .i64 (indexOf l v) ∧ hp' = []) := by
  have hix : ∀ (i : Nat) (hi : i < l.length), (∀ j (hj : j < i), l[j] ≠ v) → l[i] = v → l.idxOf v = i := fun i hi h he => by
    unfold List.idxOf
    rw [List.findIdx_eq hi]
    exact ⟨by simp [he], fun j hj => by simpa using h j hj⟩
  have hno : (∀ j (hj : j < l.length), l[j] ≠ v) → l.idxOf v = l.length := fun h => by
    unfold List.idxOf
    rw [List.findIdx_eq_length]
    intro x hx
    obtain ⟨j, hj, rfl⟩ := List.getElem_of_mem hx
    simpa using h j hj
  refine fn_enter Try.func38 rfl 19 rfl fun w0 h0 => ?_
  refine wpc_seq ?_
  refine wpc_region [0] (by kernel_rfl) ?_
  refine wpr_run (l₂ := []) true [0] [] [(4, Value.int IntKind.i64 0), (0, Value.slice a l.length c), (1, Value.int IntKind.i64 v)] [ro a (ints l)] [] (by kernel_rfl) (by kernel_rfl) trivial ?_
  refine wpr_nil ?_
  refine nx_then ?_
  refine wpc_seq ?_
  refine wpc_seq ?_
  refine wpc_region [0, 1, 2] (by kernel_rfl) ?_
  refine wpr_run (l₂ := []) true [0, 1, 2] [] [(8, Value.int IntKind.i64 0), (7, Value.int IntKind.i64 (↑l.length : Int)), (4, Value.int IntKind.i64 0), (0, Value.slice a l.length c), (1, Value.int IntKind.i64 v)] [ro a (ints l)] [] (by kernel_rfl) (by kernel_rfl) trivial ?_
  refine wpr_nil ?_
  refine nx_then ?_
  refine wpc_block ?_
  refine wpc_loop (X := IX l v) (fun x => St.mk [(8, .int .i64 (x.i : Int)), (7, .int .i64 (l.length : Int)), (4, .int .i64 0), (0, .slice a l.length c), (1, .int .i64 v)] [ro a (ints l)]) (fun x => l.length - x.i) ⟨0, Nat.zero_le _, fun j hj => absurd hj (by omega)⟩ (ent_fr (by kernel_rfl)) ?_
  rintro ⟨i, hi, h⟩
  dsimp only
  refine wpc_seq ?_
  refine wpc_region [0] (by kernel_rfl) ?_
  refine wpr_run (l₂ := []) true [0] [] [(9, Value.bool (decide ((↑i : Int) < (↑l.length : Int)))), (8, Value.int IntKind.i64 (↑i : Int)), (7, Value.int IntKind.i64 (↑l.length : Int)), (4, Value.int IntKind.i64 0), (0, Value.slice a l.length c), (1, Value.int IntKind.i64 v)] [ro a (ints l)] [] (by kernel_rfl) (by kernel_rfl) trivial ?_
  refine wpr_nil ?_
  refine nx_then ?_
  refine wpc_seq ?_
  refine wpc_if (((↑i : Int) < (↑l.length : Int))) (by kernel_rfl) (fun hlt => ?_) (fun hlt => ?_)
  · have hil : i < l.length := by omega
    refine wpc_fact (fun w h => ro_addr h 0 rfl (by rw [ints_len]; omega)) ?_
    rintro ⟨w1, o1, rfl⟩
    refine wpc_skip ?_
    refine nx_then ?_
    refine wpc_seq ?_
    refine wpc_block ?_
    refine wpc_seq ?_
    refine wpc_region [0, 1] (by kernel_rfl) ?_
    refine wpr_run (l₂ := []) true [0, 1] [] [(5, Value.int IntKind.i64 (↑i : Int)), (8, Value.int IntKind.i64 (↑i : Int)), (7, Value.int IntKind.i64 (↑l.length : Int)), (4, Value.int IntKind.i64 0), (0, Value.slice (some { block := w1, off := o1 }) l.length c), (1, Value.int IntKind.i64 v)] [ro (some { block := w1, off := o1 }) (ints l)] [] (by kernel_rfl) (by kernel_rfl) trivial ?_
    refine wpr_nil ?_
    refine nx_then ?_
    refine wpc_seq ?_
    refine wpc_region [0, 1, 2, 3, 4, 5] (by kernel_rfl) ?_
    refine wpr_run (l₂ := [4, 5]) true [0, 1, 2, 3] [] ([(14, Value.pointer (some { block := w1, off := o1 + i * 1 })), (11, Value.int IntKind.i64 v), (5, Value.int IntKind.i64 (↑i : Int)), (8, Value.int IntKind.i64 (↑i : Int)), (7, Value.int IntKind.i64 (↑l.length : Int)), (4, Value.int IntKind.i64 0), (0, Value.slice (some { block := w1, off := o1 }) l.length c), (1, Value.int IntKind.i64 v)]) [ro (some { block := w1, off := o1 }) (ints l)] [(0 : Int) ≤ (↑i : Int) ∧ (↑i : Int) < (↑l.length : Int)] (by kernel_rfl) (by kernel_rfl) ⟨by omega, trivial⟩ ?_
    refine wpr_eq (ld (t := 3) (a := ({ block := w1, off := o1 + i * 1 })) (dst := some 15) (by kernel_rfl) false 1 (by kernel_rfl) (by simp) [.int .i64 l[i]] rfl (fun w h => ld_ro h 0 rfl (i * 1) (ints_at hil))) ?_
    refine wpr_run (l₂ := []) true [5] [] [(16, Value.bool (v == l[i])), (5, Value.int IntKind.i64 (↑i : Int)), (8, Value.int IntKind.i64 (↑i : Int)), (7, Value.int IntKind.i64 (↑l.length : Int)), (4, Value.int IntKind.i64 0), (0, Value.slice (some { block := w1, off := o1 }) l.length c), (1, Value.int IntKind.i64 v)] [ro (some { block := w1, off := o1 }) (ints l)] [] (by kernel_rfl) (by kernel_rfl) trivial ?_
    refine wpr_nil ?_
    refine nx_then ?_
    refine wpc_cond ((v == l[i])) (by kernel_rfl) (fun he => ?_) (fun he => ?_)
    · refine wpc_seq ?_
      refine wpc_region [0, 1] (by kernel_rfl) ?_
      refine wpr_run (l₂ := []) true [0, 1] [] [(4, Value.int IntKind.i64 (↑i : Int)), (8, Value.int IntKind.i64 (↑i : Int)), (7, Value.int IntKind.i64 (↑l.length : Int)), (0, Value.slice (some { block := w1, off := o1 }) l.length c), (1, Value.int IntKind.i64 v)] [ro (some { block := w1, off := o1 }) (ints l)] [] (by kernel_rfl) (by kernel_rfl) trivial ?_
      refine wpr_nil ?_
      refine nx_then ?_
      refine wpc_ret ?_
      refine nx_block_ret ?_
      refine nx_then_ret ?_
      refine nx_then_ret ?_
      refine nx_block_ret ?_
      refine nx_then_ret ?_
      refine nx_end (hp' := []) (rest := [ro (some { block := w1, off := o1 }) (ints l)]) [] ((Value.int IntKind.i64 (↑i : Int))) (by kernel_rfl) (by kernel_rfl) (give [] (by kernel_rfl)) (by first | ((repeat (first | exact trivial | refine ⟨trivial, ?_⟩)); done) | assumption) ?_ (.inr rfl)
      have he' : l[i] = v := (eq_of_beq he).symm
      exact ⟨by unfold indexOf; rw [hix i hil h he', if_pos hil], rfl⟩
    · have he' : l[i] ≠ v := fun e => by rw [e] at he; simp at he
      refine wpc_skip ?_
      refine nx_block ?_
      refine nx_then ?_
      refine wpc_region [0, 1] (by kernel_rfl) ?_
      refine wpr_run (l₂ := []) true [0, 1] [] ([(8, Value.int IntKind.i64 ((↑i : Int) + 1)), (7, Value.int IntKind.i64 (↑l.length : Int)), (4, Value.int IntKind.i64 0), (0, Value.slice (some { block := w1, off := o1 }) l.length c), (1, Value.int IntKind.i64 v)]) [ro (some { block := w1, off := o1 }) (ints l)] ([inI64 ((↑i : Int) + (1 : Int))]) (by kernel_rfl) (by kernel_rfl) ⟨by unfold inI64; omega, trivial⟩ ?_
      refine wpr_nil ?_
      exact fun a' w' hS' => ⟨⟨i + 1, by omega, fun j hj => by
              rcases Nat.lt_or_ge j i with h1 | h1
              · exact h j h1
              · have : j = i := by omega
                subst this; exact he'⟩, by dsimp only; omega, ent_fr (by kernel_rfl) _ _ (ent_hp [0] rfl _ _ hS')⟩
  · refine wpc_exit ?_
    refine nx_then_exit ?_
    refine nx_then_exit ?_
    refine nx_block_here ?_
    refine nx_then ?_
    refine wpc_seq ?_
    refine wpc_region [0] (by kernel_rfl) ?_
    refine wpr_run (l₂ := []) true [0] [] [(4, Value.int IntKind.i64 (-1))] [ro a (ints l)] [] (by kernel_rfl) (by kernel_rfl) trivial ?_
    refine wpr_nil ?_
    refine nx_then ?_
    refine wpc_ret ?_
    refine nx_end (hp' := []) (rest := [ro a (ints l)]) [] ((Value.int IntKind.i64 (-1))) (by kernel_rfl) (by kernel_rfl) (give [] (by kernel_rfl)) (by first | ((repeat (first | exact trivial | refine ⟨trivial, ?_⟩)); done) | assumption) ?_ (.inr rfl)
    have hall := hno (fun j hj => h j (by omega))
    exact ⟨by unfold indexOf; rw [hall, if_neg (by omega)], rfl⟩

theorem contains_iff (l : List Int) (v : Int) : decide (indexOf l v ≥ 0) = decide (v ∈ l) := by
  unfold indexOf
  by_cases h : v ∈ l
  · rw [if_pos (List.idxOf_lt_length_iff.2 h), decide_eq_true (by omega), decide_eq_true h]
  · rw [if_neg (fun h' => h (List.idxOf_lt_length_iff.1 h')), decide_eq_false (by omega), decide_eq_false h]
theorem Contains_spec (a : Option Addr) (c : Nat) (l : List Int) (v : Int) (ha : a = none → l = []) (hl : l.length ≤ 1099511627776) :
    Does Try.prog 26 [.slice a l.length c, .int .i64 v] [ro a (ints l)] (fun r hp' => r = .bool (decide (v ∈ l)) ∧ hp' = []) := by
  refine fn_enter Try.func26 rfl 9 rfl fun w0 h0 => ?_
  refine wpc_seq ?_
  refine wpc_region [0] (by kernel_rfl) ?_
  refine wpr_run (l₂ := []) true [0] [] [(4, Value.bool false), (0, Value.slice a l.length c), (1, Value.int IntKind.i64 v)] [ro a (ints l)] [] (by kernel_rfl) (by kernel_rfl) trivial ?_
  refine wpr_nil ?_
  refine nx_then ?_
  refine wpc_seq ?_
  refine wpc_region [0, 1, 2, 3, 4] (by kernel_rfl) ?_
  refine wpr_run (l₂ := [2, 3, 4]) true [0, 1] [] [(6, Value.int IntKind.i64 v), (5, Value.slice a l.length c), (4, Value.bool false)] [ro a (ints l)] [] (by kernel_rfl) (by kernel_rfl) trivial ?_
  refine wpr_call (dst := some 7) (rest := [ro a (ints l)]) (by kernel_rfl) (Index_spec a c l v ha hl) (Give.view (c := (ro a (ints l))) (give (pre := []) (rest := [ro a (ints l)]) [] (by kernel_rfl)) 0 (by kernel_rfl) view_ro) ?_
  rintro v' hp' ⟨rfl, rfl⟩
  refine wpr_run (l₂ := []) true [3, 4] [] [(4, Value.bool (decide (indexOf l v ≥ 0)))] [ro a (ints l)] [] (by kernel_rfl) (by kernel_rfl) trivial ?_
  refine wpr_nil ?_
  refine nx_then ?_
  refine wpc_ret ?_
  refine nx_end (hp' := []) (rest := [ro a (ints l)]) [] ((Value.bool (decide (indexOf l v ≥ 0)))) (by kernel_rfl) (by kernel_rfl) (give [] (by kernel_rfl)) (by first | ((repeat (first | exact trivial | refine ⟨trivial, ?_⟩)); done) | assumption) ?_ (.inr rfl)
  exact ⟨by rw [← contains_iff], rfl⟩

theorem Clone_spec (a : Option Addr) (c : Nat) (l : List Int) (ha : a = none → l = []) (hl : l.length ≤ 1099511627776) :
    Does Try.prog 37 [.slice a l.length c] [ro a (ints l)] (fun r hp' => ∃ a' c', (a' = none ↔ a = none) ∧ r = .slice a' l.length c' ∧ hp' = [row 3 1 a' l.length c' (ints l)]) := by
  cases a with
  | none =>
    obtain rfl := ha rfl
    refine fn_enter Try.func37 rfl 8 rfl fun w0 h0 => ?_
    refine wpc_seq ?_
    refine wpc_region [0] (by kernel_rfl) ?_
    refine wpr_run (l₂ := []) true [0] [] [(2, Value.slice none 0 0), (0, Value.slice none 0 c)] [ro none (ints [])] [] (by kernel_rfl) (by kernel_rfl) trivial ?_
    refine wpr_nil ?_
    refine nx_then ?_
    refine wpc_seq ?_
    refine wpc_seq ?_
    refine wpc_region [0, 1] (by kernel_rfl) ?_
    refine wpr_run (l₂ := []) true [0, 1] [] [(4, Value.bool true), (2, Value.slice none 0 0), (0, Value.slice none 0 c)] [ro none (ints [])] [] (by kernel_rfl) (by kernel_rfl) trivial ?_
    refine wpr_nil ?_
    refine nx_then ?_
    refine wpc_true (by kernel_rfl) ?_
    refine wpc_seq ?_
    refine wpc_region [0] (by kernel_rfl) ?_
    refine wpr_run (l₂ := []) true [0] [] [(2, Value.slice none 0 0), (0, Value.slice none 0 c)] [ro none (ints [])] [] (by kernel_rfl) (by kernel_rfl) trivial ?_
    refine wpr_nil ?_
    refine nx_then ?_
    refine wpc_ret ?_
    refine nx_then_ret ?_
    refine nx_ent (ent_nil 3 1) ?_
    refine nx_end (hp' := [row 3 1 none 0 0 []]) (rest := [ro none (ints [])]) [] ((Value.slice none 0 0)) (by kernel_rfl) (by kernel_rfl) (give [0] (by kernel_rfl)) (by first | ((repeat (first | exact trivial | refine ⟨trivial, ?_⟩)); done) | assumption) ?_ (.inr rfl)
    exact ⟨none, 0, Iff.rfl, rfl, rfl⟩
  | some ad =>
    refine fn_enter Try.func37 rfl 8 rfl fun w0 h0 => ?_
    refine wpc_seq ?_
    refine wpc_region [0] (by kernel_rfl) ?_
    refine wpr_run (l₂ := []) true [0] [] [(2, Value.slice none 0 0), (0, Value.slice (some ad) l.length c)] [ro (some ad) (ints l)] [] (by kernel_rfl) (by kernel_rfl) trivial ?_
    refine wpr_nil ?_
    refine nx_then ?_
    refine wpc_seq ?_
    refine wpc_seq ?_
    refine wpc_region [0, 1] (by kernel_rfl) ?_
    refine wpr_run (l₂ := []) true [0, 1] [] [(4, Value.bool false), (2, Value.slice none 0 0), (0, Value.slice (some ad) l.length c)] [ro (some ad) (ints l)] [] (by kernel_rfl) (by kernel_rfl) trivial ?_
    refine wpr_nil ?_
    refine nx_then ?_
    refine wpc_false (by kernel_rfl) ?_
    refine wpc_skip ?_
    refine nx_then ?_
    refine wpc_seq ?_
    refine wpc_region [0, 1, 2, 3] (by kernel_rfl) ?_
    refine wpr_new (l₂ := [1, 2, 3]) true [0] [] (fun g1 => [(5, Value.slice (some { block := g1, off := 0 }) 0 0), (2, Value.slice none 0 0), (0, Value.slice (some ad) l.length c)]) (fun g1 => [ro (some ad) (ints l), Ch.blk g1 3 []]) (fun g1 => []) (fun g1 => by kernel_rfl) (fun g1 => by kernel_rfl) (fun g1 => trivial) fun g1 => ?_
    refine wpr_run (l₂ := [2, 3]) true [1] [] [(6, Value.slice (some ad) l.length c), (5, Value.slice (some { block := g1, off := 0 }) 0 0), (2, Value.slice none 0 0)] [ro (some ad) (ints l), Ch.blk g1 3 []] [] (by kernel_rfl) (by kernel_rfl) trivial ?_
    refine wpr_ent (ent_turn 1 (row 3 1 (some ⟨g1, 0, none⟩) 0 0 []) rfl (turn_blk rfl (by intro u hu; cases hu) (by simp)) rfl) ?_
    refine wpr_app (a := (some { block := g1, off := 0 })) (n := 0) (cap := 0) (x := (Value.slice (some ad) l.length c)) (t := 22) (xt := 22) (dst := some 7) (by kernel_rfl) (e := 3) (sz := 1) (bytes := 8) (by kernel_rfl) 1 (xs := []) (by kernel_rfl) (m := (l.length)) (news := (ints l)) (fun w h => src_ro h 0 rfl (by simp [ints_len]) (fun e => by cases e)) (by unfold maxLen; omega) (by omega) ?_
    intro a1 c1 hn
    simp only [List.nil_append, Nat.zero_add]
    refine wpr_run (l₂ := []) true [3] [] [(2, Value.slice a1 l.length c1)] [ro (some ad) (ints l), row 3 1 a1 l.length c1 (ints l)] [] (by kernel_rfl) (by kernel_rfl) trivial ?_
    refine wpr_nil ?_
    refine nx_then ?_
    refine wpc_ret ?_
    refine nx_end (hp' := [row 3 1 a1 l.length c1 (ints l)]) (rest := [ro (some ad) (ints l)]) [] ((Value.slice a1 l.length c1)) (by kernel_rfl) (by kernel_rfl) (give [1] (by kernel_rfl)) (by first | ((repeat (first | exact trivial | refine ⟨trivial, ?_⟩)); done) | assumption) ?_ (.inr rfl)
    exact ⟨a1, c1, ⟨fun e => (nomatch (hn.1 e).1), fun e => (nomatch e)⟩, rfl, rfl⟩

/-- A queue from which one is taken out. -/
theorem Delete_spec (a : Option Addr) (c : Nat) (l : List Int) (i : Nat) (hi : i < l.length) (hl : l.length ≤ 1099511627776) :
    Does Try.prog 39 [.slice a l.length c, .int .i64 (i : Int), .int .i64 ((i : Int) + 1)] [row 3 1 a l.length c (ints l)] (fun r hp' => r = .slice a (l.eraseIdx i).length c ∧ hp' = [row 3 1 a (l.eraseIdx i).length c (ints (l.eraseIdx i))]) := by
  refine does_fact (fun w h => row_cap h 0 rfl) fun hcap => ?_
  refine does_fact (fun w h => row_addr h 0 rfl (by omega)) ?_
  rintro ⟨g, off, rfl⟩
  have hcap2 := hcap.2.1
  refine fn_enter Try.func39 rfl 33 rfl fun w0 h0 => ?_
  refine wpc_seq ?_
  refine wpc_region [0] (by kernel_rfl) ?_
  refine wpr_run (l₂ := []) true [0] [] ([(6, Value.slice none 0 0), (0, Value.slice (some { block := g, off := off }) l.length c), (1, Value.int IntKind.i64 (↑i : Int)), (2, Value.int IntKind.i64 ((↑i : Int) + 1))]) [row 3 1 (some { block := g, off := off }) l.length c (ints l)] [] (by kernel_rfl) (by kernel_rfl) trivial ?_
  refine wpr_nil ?_
  refine nx_then ?_
  refine wpc_seq ?_
  refine wpc_region [0, 1, 2, 3, 4, 5] (by kernel_rfl) ?_
  refine wpr_run (l₂ := []) true [0, 1, 2, 3, 4, 5] [] ([(6, Value.slice none 0 0), (0, Value.slice (some { block := g, off := off }) l.length c), (1, Value.int IntKind.i64 (↑i : Int)), (2, Value.int IntKind.i64 ((↑i : Int) + 1))]) [row 3 1 (some { block := g, off := off }) l.length c (ints l)] ([(0 : Int) ≤ (↑l.length : Int) ∧ (↑l.length : Int) ≤ (↑c : Int), (0 : Int) ≤ (↑i : Int) + (1 : Int) ∧ (↑i : Int) + (1 : Int) ≤ (↑l.length : Int), (0 : Int) ≤ (↑i : Int) ∧ (↑i : Int) ≤ (↑i : Int) + (1 : Int)]) (by kernel_rfl) (by kernel_rfl) ⟨by omega, by omega, by omega, trivial⟩ ?_
  refine wpr_nil ?_
  refine nx_then ?_
  refine wpc_seq ?_
  refine wpc_seq ?_
  refine wpc_region [0, 1, 2] (by kernel_rfl) ?_
  refine wpr_run (l₂ := []) true [0, 1, 2] [] ([(16, Value.bool ((↑i : Int) == (↑i : Int) + 1)), (6, Value.slice none 0 0), (0, Value.slice (some { block := g, off := off }) l.length c), (1, Value.int IntKind.i64 (↑i : Int)), (2, Value.int IntKind.i64 ((↑i : Int) + 1))]) [row 3 1 (some { block := g, off := off }) l.length c (ints l)] [] (by kernel_rfl) (by kernel_rfl) trivial ?_
  refine wpr_nil ?_
  refine nx_then ?_
  refine wpc_ent (ent_set 16 (Value.bool ((↑i : Int) == (↑i : Int) + 1)) (Value.bool false) (by kernel_rfl) (congrArg _ (beq_eq_false_iff_ne.2 (by omega)))) ?_
  refine wpc_false (by kernel_rfl) ?_
  refine wpc_skip ?_
  refine nx_then ?_
  refine wpc_seq ?_
  refine wpc_region [0, 1, 2] (by kernel_rfl) ?_
  refine wpr_run (l₂ := []) true [0, 1, 2] [] ([(7, Value.int IntKind.i64 (↑l.length : Int)), (6, Value.slice none 0 0), (0, Value.slice (some { block := g, off := off }) l.length c), (1, Value.int IntKind.i64 (↑i : Int)), (2, Value.int IntKind.i64 ((↑i : Int) + 1))]) [row 3 1 (some { block := g, off := off }) l.length c (ints l)] [] (by kernel_rfl) (by kernel_rfl) trivial ?_
  refine wpr_nil ?_
  refine nx_then ?_
  refine wpc_seq ?_
  refine wpc_draw (by kernel_rfl) [] (sub_of [] (by kernel_rfl)) 8 (by kernel_rfl) ?_
  refine wpa_take true [(0, []), (1, []), (2, []), (3, []), (4, []), (5, [])] ([(25, Value.slice (some { block := g, off := sOff off ((↑i : Int) + 1) (↑c : Int) 1 }) ((↑l.length : Int) - ((↑i : Int) + 1)).toNat ((↑c : Int) - ((↑i : Int) + 1)).toNat), (22, Value.slice (some { block := g, off := off }) i c), (7, Value.int IntKind.i64 (↑l.length : Int)), (6, Value.slice none 0 0), (0, Value.slice (some { block := g, off := off }) l.length c)]) (#[true, true, true, true, true, true, false, false]) ([(0 : Int) ≤ (↑i : Int) ∧ (↑i : Int) ≤ (↑c : Int), (0 : Int) ≤ (↑i : Int) + (1 : Int) ∧ (↑i : Int) + (1 : Int) ≤ (↑l.length : Int)]) (n := 2) (by kernel_rfl) (by kernel_rfl) (by kernel_rfl) ⟨by omega, by omega, trivial⟩ ?_
  have hE : (l.eraseIdx i).length = l.length - 1 := List.length_eraseIdx_of_lt hi
  refine wpa_app_cut (i := 6) (nf := 1) (by kernel_rfl) (a := (some { block := g, off := off })) (n := i) (cap := c) (x := (Value.slice (some { block := g, off := sOff off ((↑i : Int) + 1) (↑c : Int) 1 }) ((↑l.length : Int) - ((↑i : Int) + 1)).toNat ((↑c : Int) - ((↑i : Int) + 1)).toNat)) (t := 22) (xt := 22) (dst := some 26) (by kernel_rfl) (e := 3) (sz := 1) (bytes := 8) (by kernel_rfl) 0 (n0 := l.length) (xs := (ints l)) (by kernel_rfl) (by omega) (by omega) (m := (((l.length : Int) - ((i : Int) + 1)).toNat)) (news := (ints (l.drop (i + 1)))) (fun w h => by
      have h9 := src_row_from h 0 rfl (q := i + 1) (m := ((l.length : Int) - ((i : Int) + 1)).toNat) (c' := ((c : Int) - ((i : Int) + 1)).toNat) (by omega) (l := (i : Int) + 1) (by omega)
      rwa [Nat.mul_one, ints_drop] at h9) (by unfold maxLen; omega) (by omega) [] (by kernel_rfl) ?_
  intro a' c' hn hfit
  obtain ⟨rfl, rfl⟩ := hfit (by omega)
  rw [show i + (((l.length : Int) - ((i : Int) + 1)).toNat) = (l.eraseIdx i).length by omega, Nat.mul_one, ints_take, ints_append, ← List.eraseIdx_eq_take_drop_succ]
  refine wpa_take true [(7, [])] [(0, Value.slice (some { block := g, off := off }) (l.eraseIdx i).length c'), (7, Value.int IntKind.i64 (↑l.length : Int)), (6, Value.slice none 0 0)] (#[true, true, true, true, true, true, true, true]) [] (n := 0) (by kernel_rfl) (by kernel_rfl) (by kernel_rfl) trivial ?_
  refine wpa_done 0 (by kernel_rfl) ?_
  refine nx_then ?_
  refine wpc_seq ?_
  refine wpc_region [0, 1, 2, 3, 4, 5] (by kernel_rfl) ?_
  refine wpr_run (l₂ := [5]) true [0, 1, 2, 3, 4] [] [(31, Value.slice (some { block := g, off := sOff off (↑(l.eraseIdx i).length : Int) (↑c' : Int) 1 }) ((↑l.length : Int) - (↑(l.eraseIdx i).length : Int)).toNat ((↑c' : Int) - (↑(l.eraseIdx i).length : Int)).toNat), (0, Value.slice (some { block := g, off := off }) (l.eraseIdx i).length c'), (6, Value.slice none 0 0)] [row 3 1 (some { block := g, off := off }) (l.eraseIdx i).length c' (ints (l.eraseIdx i))] [(0 : Int) ≤ (↑l.length : Int) ∧ (↑l.length : Int) ≤ (↑c' : Int), (0 : Int) ≤ (↑(l.eraseIdx i).length : Int) ∧ (↑(l.eraseIdx i).length : Int) ≤ (↑l.length : Int)] (by kernel_rfl) (by kernel_rfl) ⟨by omega, by omega, trivial⟩ ?_
  refine wpr_ent (ent_set 31 (Value.slice (some { block := g, off := sOff off (↑(l.eraseIdx i).length : Int) (↑c' : Int) 1 }) ((↑l.length : Int) - (↑(l.eraseIdx i).length : Int)).toNat ((↑c' : Int) - (↑(l.eraseIdx i).length : Int)).toNat) (Value.slice (some ⟨g, off + (l.eraseIdx i).length * 1, none⟩) 1 ((c' : Int) - ((l.eraseIdx i).length : Int)).toNat) (by kernel_rfl) (by rw [show sOff off ((l.eraseIdx i).length : Int) (c' : Int) 1 = off + (l.eraseIdx i).length * 1 from by unfold sOff; rw [if_neg (by omega)]; rfl, show ((l.length : Int) - ((l.eraseIdx i).length : Int)).toNat = 1 from by omega])) ?_
  refine wpr_eq (step_clear (i := 5) (g := g) (off := off) (q := ((l.eraseIdx i).length * 1)) (k := 1) (c := (((↑c' : Int) - (↑(l.eraseIdx i).length : Int)).toNat)) (t := 22) (dst := none) (by kernel_rfl) (zs := [Value.int IntKind.i64 0]) (by kernel_rfl) (by simp [Go.Sx.One, Value.oneCell']) 0 (T := 3) (sz := 1) (n := ((l.eraseIdx i).length)) (cap := (c')) (xs := (ints (l.eraseIdx i))) (by kernel_rfl) rfl (by omega) (by omega)) ?_
  refine wpr_nil ?_
  refine nx_then ?_
  refine wpc_seq ?_
  refine wpc_region [0, 1] (by kernel_rfl) ?_
  refine wpr_run (l₂ := []) true [0, 1] [] [(6, Value.slice (some { block := g, off := off }) (l.eraseIdx i).length c')] [row 3 1 (some { block := g, off := off }) (l.eraseIdx i).length c' (ints (l.eraseIdx i))] [] (by kernel_rfl) (by kernel_rfl) trivial ?_
  refine wpr_nil ?_
  refine nx_then ?_
  refine wpc_ret ?_
  refine nx_end (hp' := [row 3 1 (some { block := g, off := off }) (l.eraseIdx i).length c' (ints (l.eraseIdx i))]) (rest := []) [] ((Value.slice (some { block := g, off := off }) (l.eraseIdx i).length c')) (by kernel_rfl) (by kernel_rfl) give_all (by first | ((repeat (first | exact trivial | refine ⟨trivial, ?_⟩)); done) | assumption) ?_ (.inr rfl)
  exact ⟨rfl, rfl⟩
end Go.Proofs.Ytoagfnobfbfdfaa
