import Derived.Test.YtoagfnobfbfdfaaF3
import Derived.Test.YtoagfnobfbfdfaaX13
namespace Go.Proofs.Ytoagfnobfbfdfaa
open Go Go.Sx
set_option linter.unusedVariables false
set_option linter.unusedSimpArgs false

theorem drop_spec (g : Nat) (H : Int) (a : Option Addr) (n c : Nat) (l : List Int) (x : Int) (hn : n = l.length) (hl : l.length ≤ 1099511627776) :
    Does Try.prog 31 [.pointer (some ⟨g, 0, none⟩), .int .i64 x] [.blk g 24 [.int .i64 H, .slice a n c], row 3 1 a n c (ints l)]
      (fun r hp' => r = .bool (decide (x ∈ l)) ∧ hp' = [.blk g 24 [.int .i64 H, .slice a (l.erase x).length c], row 3 1 a (l.erase x).length c (ints (l.erase x))]) := by
  subst hn
  refine fn_enter Try.func31 rfl 25 rfl fun w0 h0 => ?_
  refine wpc_seq ?_
  refine wpc_region [0] (by kernel_rfl) ?_
  refine wpr_run (l₂ := []) true [0] [] [(4, Value.bool false), (0, Value.pointer (some { block := g, off := 0 })), (1, Value.int IntKind.i64 x)] [Ch.blk g 24 [Value.int IntKind.i64 H, Value.slice a l.length c], row 3 1 a l.length c (ints l)] [] (by kernel_rfl) (by kernel_rfl) trivial ?_
  refine wpr_nil ?_
  refine nx_then ?_
  refine wpc_seq ?_
  refine wpc_region [0, 1, 2, 3, 4, 5, 6] (by kernel_rfl) ?_
  refine wpr_run (l₂ := [5, 6]) true [0, 1, 2, 3, 4] [0] [(10, Value.int IntKind.i64 x), (9, Value.slice a l.length c), (4, Value.bool false), (0, Value.pointer (some { block := g, off := 0 }))] [Ch.blk g 24 [Value.int IntKind.i64 H, Value.slice a l.length c], row 3 1 a l.length c (ints l)] [] (by kernel_rfl) (by kernel_rfl) trivial ?_
  refine wpr_fact (fun w h => row_none h 1 rfl) fun hnn => ?_
  refine wpr_call (dst := some 11) (rest := [Ch.blk g 24 [Value.int IntKind.i64 H, Value.slice a l.length c], row 3 1 a l.length c (ints l)]) (by kernel_rfl) (Index_spec a c l x (fun e => by simpa [ints] using hnn e) hl) (Give.view (c := (row 3 1 a l.length c (ints l))) (give (pre := []) (rest := [Ch.blk g 24 [Value.int IntKind.i64 H, Value.slice a l.length c], row 3 1 a l.length c (ints l)]) [] (by kernel_rfl)) 1 (by kernel_rfl) view_row) ?_
  rintro v hp' ⟨rfl, rfl⟩
  by_cases hx : x ∈ l
  · have hlt := List.idxOf_lt_length_iff.2 hx
    rw [decide_eq_true hx, show indexOf l x = (l.idxOf x : Int) from if_pos hlt]
    refine wpr_run (l₂ := []) true [6] [] [(5, Value.int IntKind.i64 (↑(List.idxOf x l) : Int)), (4, Value.bool false), (0, Value.pointer (some { block := g, off := 0 }))] [Ch.blk g 24 [Value.int IntKind.i64 H, Value.slice a l.length c], row 3 1 a l.length c (ints l)] [] (by kernel_rfl) (by kernel_rfl) trivial ?_
    refine wpr_nil ?_
    refine nx_then ?_
    refine wpc_seq ?_
    refine wpc_seq ?_
    refine wpc_region [0, 1] (by kernel_rfl) ?_
    refine wpr_run (l₂ := []) true [0, 1] [] [(13, Value.bool false), (5, Value.int IntKind.i64 (↑(List.idxOf x l) : Int)), (4, Value.bool false), (0, Value.pointer (some { block := g, off := 0 }))] [Ch.blk g 24 [Value.int IntKind.i64 H, Value.slice a l.length c], row 3 1 a l.length c (ints l)] [] (by kernel_rfl) (by kernel_rfl) trivial ?_
    refine wpr_nil ?_
    refine nx_then ?_
    refine wpc_false (by kernel_rfl) ?_
    refine wpc_skip ?_
    refine nx_then ?_
    refine wpc_seq ?_
    refine wpc_region [0, 1, 2, 3, 4, 5, 6, 7, 8, 9, 10, 11] (by kernel_rfl) ?_
    refine wpr_run (l₂ := [8, 9, 10, 11]) true [0, 1, 2, 3, 4, 5, 6, 7] [0] ([(21, Value.int IntKind.i64 ((↑(List.idxOf x l) : Int) + 1)), (19, Value.int IntKind.i64 (↑(List.idxOf x l) : Int)), (18, Value.slice a l.length c), (14, Value.pointer (some { block := g, off := 0 })), (4, Value.bool false)]) [Ch.blk g 24 [Value.int IntKind.i64 H, Value.slice a l.length c], row 3 1 a l.length c (ints l)] ([inI64 ((↑(List.idxOf x l) : Int) + (1 : Int))]) (by kernel_rfl) (by kernel_rfl) ⟨by unfold inI64; omega, trivial⟩ ?_
    refine wpr_call (dst := some 22) (rest := [Ch.blk g 24 [Value.int IntKind.i64 H, Value.slice a l.length c]]) (by kernel_rfl) (Delete_spec a c l (l.idxOf x) hlt hl) (give [1] (by kernel_rfl)) ?_
    rintro v hp' ⟨rfl, rfl⟩
    rw [← List.erase_eq_eraseIdx_of_idxOf rfl]
    refine wpr_run (l₂ := []) true [9, 10, 11] [1] [(4, Value.bool false)] [row 3 1 a (l.erase x).length c (ints (l.erase x)), Ch.blk g 24 [Value.int IntKind.i64 H, Value.slice a (l.erase x).length c]] [] (by kernel_rfl) (by kernel_rfl) trivial ?_
    refine wpr_nil ?_
    refine nx_then ?_
    refine wpc_seq ?_
    refine wpc_region [0] (by kernel_rfl) ?_
    refine wpr_run (l₂ := []) true [0] [] [(4, Value.bool true)] [row 3 1 a (l.erase x).length c (ints (l.erase x)), Ch.blk g 24 [Value.int IntKind.i64 H, Value.slice a (l.erase x).length c]] [] (by kernel_rfl) (by kernel_rfl) trivial ?_
    refine wpr_nil ?_
    refine nx_then ?_
    refine wpc_ret ?_
    refine nx_end (hp' := [Ch.blk g 24 [Value.int IntKind.i64 H, Value.slice a (l.erase x).length c], row 3 1 a (l.erase x).length c (ints (l.erase x))]) (rest := []) [] ((Value.bool true)) (by kernel_rfl) (by kernel_rfl) (give [1, 0] (by kernel_rfl)) (by first | ((repeat (first | exact trivial | refine ⟨trivial, ?_⟩)); done) | assumption) ?_ (.inr rfl)
    exact ⟨rfl, rfl⟩
  · rw [decide_eq_false hx, show indexOf l x = -1 from if_neg (fun h => hx (List.idxOf_lt_length_iff.1 h)), List.erase_of_not_mem hx]
    refine wpr_run (l₂ := []) true [6] [] [(5, Value.int IntKind.i64 (-1)), (4, Value.bool false), (0, Value.pointer (some { block := g, off := 0 }))] [Ch.blk g 24 [Value.int IntKind.i64 H, Value.slice a l.length c], row 3 1 a l.length c (ints l)] [] (by kernel_rfl) (by kernel_rfl) trivial ?_
    refine wpr_nil ?_
    refine nx_then ?_
    refine wpc_seq ?_
    refine wpc_seq ?_
    refine wpc_region [0, 1] (by kernel_rfl) ?_
    refine wpr_run (l₂ := []) true [0, 1] [] [(13, Value.bool true), (5, Value.int IntKind.i64 (-1)), (4, Value.bool false), (0, Value.pointer (some { block := g, off := 0 }))] [Ch.blk g 24 [Value.int IntKind.i64 H, Value.slice a l.length c], row 3 1 a l.length c (ints l)] [] (by kernel_rfl) (by kernel_rfl) trivial ?_
    refine wpr_nil ?_
    refine nx_then ?_
    refine wpc_true (by kernel_rfl) ?_
    refine wpc_seq ?_
    refine wpc_region [0] (by kernel_rfl) ?_
    refine wpr_run (l₂ := []) true [0] [] [(4, Value.bool false), (5, Value.int IntKind.i64 (-1)), (0, Value.pointer (some { block := g, off := 0 }))] [Ch.blk g 24 [Value.int IntKind.i64 H, Value.slice a l.length c], row 3 1 a l.length c (ints l)] [] (by kernel_rfl) (by kernel_rfl) trivial ?_
    refine wpr_nil ?_
    refine nx_then ?_
    refine wpc_ret ?_
    refine nx_then_ret ?_
    refine nx_end (hp' := [Ch.blk g 24 [Value.int IntKind.i64 H, Value.slice a l.length c], row 3 1 a l.length c (ints l)]) (rest := []) [] ((Value.bool false)) (by kernel_rfl) (by kernel_rfl) give_all (by first | ((repeat (first | exact trivial | refine ⟨trivial, ?_⟩)); done) | assumption) ?_ (.inr rfl)
    exact ⟨rfl, rfl⟩

/-- What one of the five does with the floor: the error, the holder, those who wait. -/
abbrev Do := Int → List Int → Int × Int × List Int
/-- The function value of which C are the cells that it holds does so. -/
def DoesDo (f : FuncId) (caps : List Value) (C : Hp) (d : Do) : Prop :=
  enters Try.prog f = true ∧ ∀ (g : Nat) (H : Int) (a : Option Addr) (c : Nat) (l : List Int), (l.length ≤ 4) →
    Does Try.prog f (.pointer (some ⟨g, 0, none⟩) :: caps) (.blk g 24 [.int .i64 H, .slice a l.length c] :: row 3 1 a l.length c (ints l) :: C)
      (fun r hp' => ∃ a' c', r = .int .i64 (d H l).1 ∧ hp' = .blk g 24 [.int .i64 (d H l).2.1, .slice a' (d H l).2.2.length c'] :: row 3 1 a' (d H l).2.2.length c' (ints (d H l).2.2) :: C)

def askW (d : Do) (H : Int) (l : List Int) (x : Int) : Int × Int × List Int :=
  if bad H l x ≠ 0 then (bad H l x, 0, []) else if (d H l).1 ≠ 0 then ((d H l).1, 0, []) else (0, (d H l).2)

theorem ask_spec (f : FuncId) (g : Nat) (k : Int) (d : Do) (hd : DoesDo f [.pointer (some ⟨g, 0, none⟩)] [.blk g 3 [.int .i64 k]] d)
    (H : Int) (a : Option Addr) (c : Nat) (l : List Int) (x : Int) (ha : a = none → l = []) (hl : l.length ≤ 1099511627776) (hc : l.length ≤ c) :
    Does Try.prog 24 [fl H a l.length c, .int .i64 x, .func (.func f) #[] #[.pointer (some ⟨g, 0, none⟩)]] ([.blk g 3 [.int .i64 k]] ++ [ro a (ints l)])
      (fun r hp' => ∃ a' c', r = .tuple #[fl (askW d H l x).2.1 a' (askW d H l x).2.2.length c', .int .i64 (askW d H l x).1] ∧ hp' = row 3 1 a' (askW d H l x).2.2.length c' (ints (askW d H l x).2.2) :: [.blk g 3 [.int .i64 k]]) := by
  have hz : ∀ e : Int, e ≠ 0 → (e == 0) = false := fun e he => beq_eq_false_iff_ne.2 he
  have hW : bad H l x ≠ 0 → askW d H l x = (bad H l x, 0, []) := fun h => if_pos h
  have hW2 : bad H l x = 0 → (d H l).1 ≠ 0 → askW d H l x = ((d H l).1, 0, []) := fun h h2 => by unfold askW; rw [if_neg (by rw [h]; decide), if_pos h2]
  have hW3 : bad H l x = 0 → (d H l).1 = 0 → askW d H l x = (0, (d H l).2) := fun h h2 => by unfold askW; rw [if_neg (by rw [h]; decide), if_neg (by rw [h2]; decide)]
  refine fn_enter Try.func24 rfl 41 rfl fun w0 h0 => ?_
  refine wpc_seq ?_
  refine wpc_region [0, 1, 2] (by kernel_rfl) ?_
  refine wpr_new (l₂ := [1, 2]) true [0] [] (fun g1 => [(3, Value.pointer (some { block := g1, off := 0 })), (1, Value.int IntKind.i64 x), (2, Value.func (Fn.func f) #[] #[Value.pointer (some { block := g, off := 0 })])]) (fun g1 => [Ch.blk g 3 [Value.int IntKind.i64 k], ro a (ints l), Ch.blk g1 24 [Value.int IntKind.i64 H, Value.slice a l.length c]]) (fun g1 => []) (fun g1 => by kernel_rfl) (fun g1 => by kernel_rfl) (fun g1 => trivial) fun g1 => ?_
  refine wpr_new (l₂ := [2]) true [1] [] (fun g2 => [(6, Value.pointer (some { block := g2, off := 0 })), (3, Value.pointer (some { block := g1, off := 0 })), (1, Value.int IntKind.i64 x), (2, Value.func (Fn.func f) #[] #[Value.pointer (some { block := g, off := 0 })])]) (fun g2 => [Ch.blk g 3 [Value.int IntKind.i64 k], ro a (ints l), Ch.blk g1 24 [Value.int IntKind.i64 H, Value.slice a l.length c], Ch.blk g2 24 [Value.int IntKind.i64 0, Value.slice none 0 0]]) (fun g2 => []) (fun g2 => by kernel_rfl) (fun g2 => by kernel_rfl) (fun g2 => trivial) fun g2 => ?_
  refine wpr_run (l₂ := []) true [2] [] [(7, Value.int IntKind.i64 0), (6, Value.pointer (some { block := g2, off := 0 })), (3, Value.pointer (some { block := g1, off := 0 })), (1, Value.int IntKind.i64 x), (2, Value.func (Fn.func f) #[] #[Value.pointer (some { block := g, off := 0 })])] [Ch.blk g 3 [Value.int IntKind.i64 k], ro a (ints l), Ch.blk g1 24 [Value.int IntKind.i64 H, Value.slice a l.length c], Ch.blk g2 24 [Value.int IntKind.i64 0, Value.slice none 0 0]] [] (by kernel_rfl) (by kernel_rfl) trivial ?_
  refine wpr_nil ?_
  refine nx_then ?_
  refine wpc_seq ?_
  refine wpc_region [0, 1, 2] (by kernel_rfl) ?_
  refine wpr_run (l₂ := [1, 2]) true [0] [2, 2] [(11, Value.agg #[Value.int IntKind.i64 H, Value.slice a l.length c]), (7, Value.int IntKind.i64 0), (6, Value.pointer (some { block := g2, off := 0 })), (3, Value.pointer (some { block := g1, off := 0 })), (1, Value.int IntKind.i64 x), (2, Value.func (Fn.func f) #[] #[Value.pointer (some { block := g, off := 0 })])] [Ch.blk g 3 [Value.int IntKind.i64 k], ro a (ints l), Ch.blk g1 24 [Value.int IntKind.i64 H, Value.slice a l.length c], Ch.blk g2 24 [Value.int IntKind.i64 0, Value.slice none 0 0]] [] (by kernel_rfl) (by kernel_rfl) trivial ?_
  refine wpr_call (dst := some 12) (rest := [Ch.blk g 3 [Value.int IntKind.i64 k], ro a (ints l), Ch.blk g1 24 [Value.int IntKind.i64 H, Value.slice a l.length c], Ch.blk g2 24 [Value.int IntKind.i64 0, Value.slice none 0 0]]) (by kernel_rfl) (Check_spec H a c l ha hl hc) (Give.view (c := (ro a (ints l))) (give (pre := []) (rest := [Ch.blk g 3 [Value.int IntKind.i64 k], ro a (ints l), Ch.blk g1 24 [Value.int IntKind.i64 H, Value.slice a l.length c], Ch.blk g2 24 [Value.int IntKind.i64 0, Value.slice none 0 0]]) [] (by kernel_rfl)) 1 (by kernel_rfl) view_ro) ?_
  rintro v hp' ⟨rfl, rfl⟩
  by_cases hok : Ok H l
  · rw [chk, if_pos hok]
    refine wpr_run (l₂ := []) true [2] [] [(8, Value.int IntKind.i64 0), (7, Value.int IntKind.i64 0), (6, Value.pointer (some { block := g2, off := 0 })), (3, Value.pointer (some { block := g1, off := 0 })), (1, Value.int IntKind.i64 x), (2, Value.func (Fn.func f) #[] #[Value.pointer (some { block := g, off := 0 })])] [Ch.blk g 3 [Value.int IntKind.i64 k], ro a (ints l), Ch.blk g1 24 [Value.int IntKind.i64 H, Value.slice a l.length c], Ch.blk g2 24 [Value.int IntKind.i64 0, Value.slice none 0 0]] [] (by kernel_rfl) (by kernel_rfl) trivial ?_
    refine wpr_nil ?_
    refine nx_then ?_
    refine wpc_seq ?_
    refine wpc_seq ?_
    refine wpc_region [0, 1, 2, 3, 4, 5, 6] (by kernel_rfl) ?_
    refine wpr_run (l₂ := [4, 5, 6]) true [0, 1, 2, 3] [] [(16, Value.int IntKind.i64 x), (15, Value.bool true), (8, Value.int IntKind.i64 0), (7, Value.int IntKind.i64 0), (6, Value.pointer (some { block := g2, off := 0 })), (3, Value.pointer (some { block := g1, off := 0 })), (2, Value.func (Fn.func f) #[] #[Value.pointer (some { block := g, off := 0 })])] [Ch.blk g 3 [Value.int IntKind.i64 k], ro a (ints l), Ch.blk g1 24 [Value.int IntKind.i64 H, Value.slice a l.length c], Ch.blk g2 24 [Value.int IntKind.i64 0, Value.slice none 0 0]] [] (by kernel_rfl) (by kernel_rfl) trivial ?_
    refine wpr_call (dst := some 17) (rest := [Ch.blk g 3 [Value.int IntKind.i64 k], ro a (ints l), Ch.blk g1 24 [Value.int IntKind.i64 H, Value.slice a l.length c], Ch.blk g2 24 [Value.int IntKind.i64 0, Value.slice none 0 0]]) (by kernel_rfl) (client_spec x) (give [] (by kernel_rfl)) ?_
    rintro v hp' ⟨rfl, rfl⟩
    cases hx : cl x
    · have hb : bad H l x = 2 := by unfold bad; rw [if_pos hok, hx]; rfl
      refine wpr_run (l₂ := []) true [5, 6] [] [(19, Value.bool true), (8, Value.int IntKind.i64 0), (7, Value.int IntKind.i64 0), (6, Value.pointer (some { block := g2, off := 0 })), (3, Value.pointer (some { block := g1, off := 0 })), (2, Value.func (Fn.func f) #[] #[Value.pointer (some { block := g, off := 0 })])] [Ch.blk g 3 [Value.int IntKind.i64 k], ro a (ints l), Ch.blk g1 24 [Value.int IntKind.i64 H, Value.slice a l.length c], Ch.blk g2 24 [Value.int IntKind.i64 0, Value.slice none 0 0]] [] (by kernel_rfl) (by kernel_rfl) trivial ?_
      refine wpr_nil ?_
      refine nx_then ?_
      refine wpc_true (by kernel_rfl) ?_
      refine wpc_region [0] (by kernel_rfl) ?_
      refine wpr_run (l₂ := []) true [0] [] [(8, Value.int IntKind.i64 2), (7, Value.int IntKind.i64 0), (6, Value.pointer (some { block := g2, off := 0 })), (3, Value.pointer (some { block := g1, off := 0 })), (2, Value.func (Fn.func f) #[] #[Value.pointer (some { block := g, off := 0 })])] [Ch.blk g 3 [Value.int IntKind.i64 k], ro a (ints l), Ch.blk g1 24 [Value.int IntKind.i64 H, Value.slice a l.length c], Ch.blk g2 24 [Value.int IntKind.i64 0, Value.slice none 0 0]] [] (by kernel_rfl) (by kernel_rfl) trivial ?_
      refine wpr_nil ?_
      refine nx_then ?_
      refine wpc_seq ?_
      refine wpc_seq ?_
      refine wpc_region [0, 1] (by kernel_rfl) ?_
      refine wpr_run (l₂ := []) true [0, 1] [] [(21, Value.bool true), (8, Value.int IntKind.i64 2), (7, Value.int IntKind.i64 0), (6, Value.pointer (some { block := g2, off := 0 })), (3, Value.pointer (some { block := g1, off := 0 })), (2, Value.func (Fn.func f) #[] #[Value.pointer (some { block := g, off := 0 })])] [Ch.blk g 3 [Value.int IntKind.i64 k], ro a (ints l), Ch.blk g1 24 [Value.int IntKind.i64 H, Value.slice a l.length c], Ch.blk g2 24 [Value.int IntKind.i64 0, Value.slice none 0 0]] [] (by kernel_rfl) (by kernel_rfl) trivial ?_
      refine wpr_nil ?_
      refine nx_then ?_
      refine wpc_true (by kernel_rfl) ?_
      refine wpc_seq ?_
      refine wpc_region [0, 1, 2, 3] (by kernel_rfl) ?_
      refine wpr_run (l₂ := []) true [0, 1, 2, 3] [3, 3] [(7, Value.int IntKind.i64 2), (6, Value.pointer (some { block := g2, off := 0 })), (3, Value.pointer (some { block := g1, off := 0 })), (2, Value.func (Fn.func f) #[] #[Value.pointer (some { block := g, off := 0 })])] [Ch.blk g 3 [Value.int IntKind.i64 k], ro a (ints l), Ch.blk g1 24 [Value.int IntKind.i64 H, Value.slice a l.length c], Ch.blk g2 24 [Value.int IntKind.i64 0, Value.slice none 0 0]] [] (by kernel_rfl) (by kernel_rfl) trivial ?_
      refine wpr_nil ?_
      refine nx_then ?_
      refine wpc_ret ?_
      refine nx_then_ret ?_
      rw [hW (by rw [hb]; decide), hb]
      refine nx_ent (ent_nil 3 1) ?_
      refine nx_end (hp' := [row 3 1 none 0 0 [], Ch.blk g 3 [Value.int IntKind.i64 k]]) (rest := [ro a (ints l), Ch.blk g1 24 [Value.int IntKind.i64 H, Value.slice a l.length c], Ch.blk g2 24 [Value.int IntKind.i64 0, Value.slice none 0 0]]) [4, 4] ((Value.tuple #[Value.agg #[Value.int IntKind.i64 0, Value.slice none 0 0], Value.int IntKind.i64 2])) (by kernel_rfl) (by kernel_rfl) (give [0, 0] (by kernel_rfl)) (by first | ((repeat (first | exact trivial | refine ⟨trivial, ?_⟩)); done) | assumption) ?_ (.inr rfl)
      exact ⟨none, 0, rfl, rfl⟩
    have hb : bad H l x = 0 := by unfold bad; rw [if_pos hok, hx]; rfl
    refine wpr_run (l₂ := []) true [5, 6] [] [(19, Value.bool false), (8, Value.int IntKind.i64 0), (7, Value.int IntKind.i64 0), (6, Value.pointer (some { block := g2, off := 0 })), (3, Value.pointer (some { block := g1, off := 0 })), (2, Value.func (Fn.func f) #[] #[Value.pointer (some { block := g, off := 0 })])] [Ch.blk g 3 [Value.int IntKind.i64 k], ro a (ints l), Ch.blk g1 24 [Value.int IntKind.i64 H, Value.slice a l.length c], Ch.blk g2 24 [Value.int IntKind.i64 0, Value.slice none 0 0]] [] (by kernel_rfl) (by kernel_rfl) trivial ?_
    refine wpr_nil ?_
    refine nx_then ?_
    refine wpc_false (by kernel_rfl) ?_
    refine wpc_skip ?_
    refine nx_then ?_
    refine wpc_seq ?_
    refine wpc_seq ?_
    refine wpc_region [0, 1] (by kernel_rfl) ?_
    refine wpr_run (l₂ := []) true [0, 1] [] [(21, Value.bool false), (8, Value.int IntKind.i64 0), (7, Value.int IntKind.i64 0), (6, Value.pointer (some { block := g2, off := 0 })), (3, Value.pointer (some { block := g1, off := 0 })), (2, Value.func (Fn.func f) #[] #[Value.pointer (some { block := g, off := 0 })])] [Ch.blk g 3 [Value.int IntKind.i64 k], ro a (ints l), Ch.blk g1 24 [Value.int IntKind.i64 H, Value.slice a l.length c], Ch.blk g2 24 [Value.int IntKind.i64 0, Value.slice none 0 0]] [] (by kernel_rfl) (by kernel_rfl) trivial ?_
    refine wpr_nil ?_
    refine nx_then ?_
    refine wpc_false (by kernel_rfl) ?_
    refine wpc_skip ?_
    refine nx_then ?_
    refine wpc_seq ?_
    refine wpc_region [0, 1, 2, 3] (by kernel_rfl) ?_
    refine wpr_run (l₂ := []) true [0, 1, 2, 3] [2] [(9, Value.int IntKind.i64 (↑l.length : Int)), (7, Value.int IntKind.i64 0), (6, Value.pointer (some { block := g2, off := 0 })), (3, Value.pointer (some { block := g1, off := 0 })), (2, Value.func (Fn.func f) #[] #[Value.pointer (some { block := g, off := 0 })])] [Ch.blk g 3 [Value.int IntKind.i64 k], ro a (ints l), Ch.blk g1 24 [Value.int IntKind.i64 H, Value.slice a l.length c], Ch.blk g2 24 [Value.int IntKind.i64 0, Value.slice none 0 0]] [] (by kernel_rfl) (by kernel_rfl) trivial ?_
    refine wpr_nil ?_
    refine nx_then ?_
    refine wpc_seq ?_
    refine wpc_region [0, 1, 2, 3, 4, 5, 6, 7] (by kernel_rfl) ?_
    refine wpr_run (l₂ := [5, 6, 7]) true [0, 1, 2, 3, 4] [2] [(31, Value.slice a l.length l.length), (7, Value.int IntKind.i64 0), (6, Value.pointer (some { block := g2, off := 0 })), (3, Value.pointer (some { block := g1, off := 0 })), (2, Value.func (Fn.func f) #[] #[Value.pointer (some { block := g, off := 0 })])] [Ch.blk g 3 [Value.int IntKind.i64 k], ro a (ints l), Ch.blk g1 24 [Value.int IntKind.i64 H, Value.slice a l.length c], Ch.blk g2 24 [Value.int IntKind.i64 0, Value.slice none 0 0]] [(0 : Int) ≤ (↑l.length : Int) ∧ (↑l.length : Int) ≤ (↑c : Int), (0 : Int) ≤ (↑l.length : Int) ∧ (↑l.length : Int) ≤ (↑l.length : Int)] (by kernel_rfl) (by kernel_rfl) ⟨by omega, by omega, trivial⟩ ?_
    refine wpr_call (dst := some 32) (rest := [Ch.blk g 3 [Value.int IntKind.i64 k], ro a (ints l), Ch.blk g1 24 [Value.int IntKind.i64 H, Value.slice a l.length c], Ch.blk g2 24 [Value.int IntKind.i64 0, Value.slice none 0 0]]) (by kernel_rfl) (Clone_spec a l.length l ha hl) (Give.view (c := (ro a (ints l))) (give (pre := []) (rest := [Ch.blk g 3 [Value.int IntKind.i64 k], ro a (ints l), Ch.blk g1 24 [Value.int IntKind.i64 H, Value.slice a l.length c], Ch.blk g2 24 [Value.int IntKind.i64 0, Value.slice none 0 0]]) [] (by kernel_rfl)) 1 (by kernel_rfl) view_ro) ?_
    rintro v hp' ⟨a1, c1, hn1, rfl, rfl⟩
    refine wpr_run (l₂ := []) true [6, 7] [3] [(7, Value.int IntKind.i64 0), (6, Value.pointer (some { block := g2, off := 0 })), (3, Value.pointer (some { block := g1, off := 0 })), (2, Value.func (Fn.func f) #[] #[Value.pointer (some { block := g, off := 0 })])] [row 3 1 a1 l.length c1 (ints l), Ch.blk g 3 [Value.int IntKind.i64 k], ro a (ints l), Ch.blk g1 24 [Value.int IntKind.i64 H, Value.slice a1 l.length c1], Ch.blk g2 24 [Value.int IntKind.i64 0, Value.slice none 0 0]] [] (by kernel_rfl) (by kernel_rfl) trivial ?_
    refine wpr_nil ?_
    refine nx_then ?_
    refine wpc_seq ?_
    refine wpc_seq ?_
    refine wpc_region [0, 1, 2] (by kernel_rfl) ?_
    refine wpr_run (l₂ := [1, 2]) true [0] [] [(34, Value.func (Fn.func f) #[] #[Value.pointer (some { block := g, off := 0 })]), (7, Value.int IntKind.i64 0), (6, Value.pointer (some { block := g2, off := 0 })), (3, Value.pointer (some { block := g1, off := 0 }))] [row 3 1 a1 l.length c1 (ints l), Ch.blk g 3 [Value.int IntKind.i64 k], ro a (ints l), Ch.blk g1 24 [Value.int IntKind.i64 H, Value.slice a1 l.length c1], Ch.blk g2 24 [Value.int IntKind.i64 0, Value.slice none 0 0]] [] (by kernel_rfl) (by kernel_rfl) trivial ?_
    refine wpr_callv (dst := some 35) (rest := [ro a (ints l), Ch.blk g2 24 [Value.int IntKind.i64 0, Value.slice none 0 0]]) (first := (#[])) (caps := (#[Value.pointer (some { block := g, off := 0 })])) (args := [Value.pointer (some { block := g1, off := 0 })]) (f := f) (by kernel_rfl) (hd.1) (hd.2 g1 H a1 c1 l hok.2.1) (give [3, 0, 0] (by kernel_rfl)) ?_
    rintro v hp' ⟨a2, c2, rfl, rfl⟩
    refine wpr_run (l₂ := []) true [2] [] [(10, Value.int IntKind.i64 (d H l).fst), (7, Value.int IntKind.i64 0), (6, Value.pointer (some { block := g2, off := 0 })), (3, Value.pointer (some { block := g1, off := 0 }))] [Ch.blk g1 24 [Value.int IntKind.i64 (d H l).snd.fst, Value.slice a2 (d H l).snd.snd.length c2], row 3 1 a2 (d H l).snd.snd.length c2 (ints (d H l).snd.snd), Ch.blk g 3 [Value.int IntKind.i64 k], ro a (ints l), Ch.blk g2 24 [Value.int IntKind.i64 0, Value.slice none 0 0]] [] (by kernel_rfl) (by kernel_rfl) trivial ?_
    refine wpr_nil ?_
    refine nx_then ?_
    refine wpc_seq ?_
    refine wpc_region [0, 1] (by kernel_rfl) ?_
    refine wpr_run (l₂ := []) true [0, 1] [] [(37, Value.bool ((d H l).fst != 0)), (10, Value.int IntKind.i64 (d H l).fst), (7, Value.int IntKind.i64 0), (6, Value.pointer (some { block := g2, off := 0 })), (3, Value.pointer (some { block := g1, off := 0 }))] [Ch.blk g1 24 [Value.int IntKind.i64 (d H l).snd.fst, Value.slice a2 (d H l).snd.snd.length c2], row 3 1 a2 (d H l).snd.snd.length c2 (ints (d H l).snd.snd), Ch.blk g 3 [Value.int IntKind.i64 k], ro a (ints l), Ch.blk g2 24 [Value.int IntKind.i64 0, Value.slice none 0 0]] [] (by kernel_rfl) (by kernel_rfl) trivial ?_
    refine wpr_nil ?_
    refine nx_then ?_
    by_cases he : (d H l).1 = 0
    · rw [hW3 hb he, he]
      refine wpc_false (by kernel_rfl) ?_
      refine wpc_skip ?_
      refine nx_then ?_
      refine wpc_seq ?_
      refine wpc_region [0, 1, 2] (by kernel_rfl) ?_
      refine wpr_run (l₂ := []) true [0, 1, 2] [0, 0, 4, 4] [(7, Value.int IntKind.i64 0), (6, Value.pointer (some { block := g2, off := 0 }))] [Ch.blk g1 24 [Value.int IntKind.i64 (d H l).snd.fst, Value.slice a2 (d H l).snd.snd.length c2], row 3 1 a2 (d H l).snd.snd.length c2 (ints (d H l).snd.snd), Ch.blk g 3 [Value.int IntKind.i64 k], ro a (ints l), Ch.blk g2 24 [Value.int IntKind.i64 (d H l).snd.fst, Value.slice a2 (d H l).snd.snd.length c2]] [] (by kernel_rfl) (by kernel_rfl) trivial ?_
      refine wpr_nil ?_
      refine nx_then ?_
      refine wpc_ret ?_
      refine nx_end (hp' := [row 3 1 a2 (d H l).snd.snd.length c2 (ints (d H l).snd.snd), Ch.blk g 3 [Value.int IntKind.i64 k]]) (rest := [Ch.blk g1 24 [Value.int IntKind.i64 (d H l).snd.fst, Value.slice a2 (d H l).snd.snd.length c2], ro a (ints l), Ch.blk g2 24 [Value.int IntKind.i64 (d H l).snd.fst, Value.slice a2 (d H l).snd.snd.length c2]]) [4, 4] ((Value.tuple #[Value.agg #[Value.int IntKind.i64 (d H l).snd.fst, Value.slice a2 (d H l).snd.snd.length c2], Value.int IntKind.i64 0])) (by kernel_rfl) (by kernel_rfl) (give [1, 1] (by kernel_rfl)) (by first | ((repeat (first | exact trivial | refine ⟨trivial, ?_⟩)); done) | assumption) ?_ (.inr rfl)
      exact ⟨a2, c2, rfl, rfl⟩
    · rw [hW2 hb he]
      refine wpc_ent (ent_set 37 (Value.bool ((d H l).fst != 0)) (Value.bool true) (by kernel_rfl) (congrArg _ (by simpa using he))) ?_
      refine wpc_true (by kernel_rfl) ?_
      refine wpc_seq ?_
      refine wpc_region [0, 1, 2, 3] (by kernel_rfl) ?_
      refine wpr_run (l₂ := []) true [0, 1, 2, 3] [4, 4] [(7, Value.int IntKind.i64 (d H l).fst), (6, Value.pointer (some { block := g2, off := 0 })), (3, Value.pointer (some { block := g1, off := 0 }))] [Ch.blk g1 24 [Value.int IntKind.i64 (d H l).snd.fst, Value.slice a2 (d H l).snd.snd.length c2], row 3 1 a2 (d H l).snd.snd.length c2 (ints (d H l).snd.snd), Ch.blk g 3 [Value.int IntKind.i64 k], ro a (ints l), Ch.blk g2 24 [Value.int IntKind.i64 0, Value.slice none 0 0]] [] (by kernel_rfl) (by kernel_rfl) trivial ?_
      refine wpr_nil ?_
      refine nx_then ?_
      refine wpc_ret ?_
      refine nx_then_ret ?_
      refine nx_ent (ent_nil 3 1) ?_
      refine nx_end (hp' := [row 3 1 none 0 0 [], Ch.blk g 3 [Value.int IntKind.i64 k]]) (rest := [Ch.blk g1 24 [Value.int IntKind.i64 (d H l).snd.fst, Value.slice a2 (d H l).snd.snd.length c2], row 3 1 a2 (d H l).snd.snd.length c2 (ints (d H l).snd.snd), ro a (ints l), Ch.blk g2 24 [Value.int IntKind.i64 0, Value.slice none 0 0]]) [5, 5] ((Value.tuple #[Value.agg #[Value.int IntKind.i64 0, Value.slice none 0 0], Value.int IntKind.i64 (d H l).fst])) (by kernel_rfl) (by kernel_rfl) (give [0, 2] (by kernel_rfl)) (by first | ((repeat (first | exact trivial | refine ⟨trivial, ?_⟩)); done) | assumption) ?_ (.inr rfl)
      exact ⟨none, 0, rfl, rfl⟩
  · have hb : bad H l x = 4 := if_neg hok
    rw [chk, if_neg hok]
    refine wpr_run (l₂ := []) true [2] [] [(8, Value.int IntKind.i64 4), (7, Value.int IntKind.i64 0), (6, Value.pointer (some { block := g2, off := 0 })), (3, Value.pointer (some { block := g1, off := 0 })), (1, Value.int IntKind.i64 x), (2, Value.func (Fn.func f) #[] #[Value.pointer (some { block := g, off := 0 })])] [Ch.blk g 3 [Value.int IntKind.i64 k], ro a (ints l), Ch.blk g1 24 [Value.int IntKind.i64 H, Value.slice a l.length c], Ch.blk g2 24 [Value.int IntKind.i64 0, Value.slice none 0 0]] [] (by kernel_rfl) (by kernel_rfl) trivial ?_
    refine wpr_nil ?_
    refine nx_then ?_
    refine wpc_seq ?_
    refine wpc_seq ?_
    refine wpc_region [0, 1, 2, 3, 4, 5, 6] (by kernel_rfl) ?_
    refine wpr_run (l₂ := []) true [0, 1, 2, 3, 4, 5, 6] [] [(19, Value.bool false), (8, Value.int IntKind.i64 4), (7, Value.int IntKind.i64 0), (6, Value.pointer (some { block := g2, off := 0 })), (3, Value.pointer (some { block := g1, off := 0 })), (2, Value.func (Fn.func f) #[] #[Value.pointer (some { block := g, off := 0 })])] [Ch.blk g 3 [Value.int IntKind.i64 k], ro a (ints l), Ch.blk g1 24 [Value.int IntKind.i64 H, Value.slice a l.length c], Ch.blk g2 24 [Value.int IntKind.i64 0, Value.slice none 0 0]] [] (by kernel_rfl) (by kernel_rfl) trivial ?_
    refine wpr_nil ?_
    refine nx_then ?_
    refine wpc_false (by kernel_rfl) ?_
    refine wpc_skip ?_
    refine nx_then ?_
    refine wpc_seq ?_
    refine wpc_seq ?_
    refine wpc_region [0, 1] (by kernel_rfl) ?_
    refine wpr_run (l₂ := []) true [0, 1] [] [(21, Value.bool true), (8, Value.int IntKind.i64 4), (7, Value.int IntKind.i64 0), (6, Value.pointer (some { block := g2, off := 0 })), (3, Value.pointer (some { block := g1, off := 0 })), (2, Value.func (Fn.func f) #[] #[Value.pointer (some { block := g, off := 0 })])] [Ch.blk g 3 [Value.int IntKind.i64 k], ro a (ints l), Ch.blk g1 24 [Value.int IntKind.i64 H, Value.slice a l.length c], Ch.blk g2 24 [Value.int IntKind.i64 0, Value.slice none 0 0]] [] (by kernel_rfl) (by kernel_rfl) trivial ?_
    refine wpr_nil ?_
    refine nx_then ?_
    refine wpc_true (by kernel_rfl) ?_
    refine wpc_seq ?_
    refine wpc_region [0, 1, 2, 3] (by kernel_rfl) ?_
    refine wpr_run (l₂ := []) true [0, 1, 2, 3] [3, 3] [(7, Value.int IntKind.i64 4), (6, Value.pointer (some { block := g2, off := 0 })), (3, Value.pointer (some { block := g1, off := 0 })), (2, Value.func (Fn.func f) #[] #[Value.pointer (some { block := g, off := 0 })])] [Ch.blk g 3 [Value.int IntKind.i64 k], ro a (ints l), Ch.blk g1 24 [Value.int IntKind.i64 H, Value.slice a l.length c], Ch.blk g2 24 [Value.int IntKind.i64 0, Value.slice none 0 0]] [] (by kernel_rfl) (by kernel_rfl) trivial ?_
    refine wpr_nil ?_
    refine nx_then ?_
    refine wpc_ret ?_
    refine nx_then_ret ?_
    rw [hW (by rw [hb]; decide), hb]
    refine nx_ent (ent_nil 3 1) ?_
    refine nx_end (hp' := [row 3 1 none 0 0 [], Ch.blk g 3 [Value.int IntKind.i64 k]]) (rest := [ro a (ints l), Ch.blk g1 24 [Value.int IntKind.i64 H, Value.slice a l.length c], Ch.blk g2 24 [Value.int IntKind.i64 0, Value.slice none 0 0]]) [4, 4] ((Value.tuple #[Value.agg #[Value.int IntKind.i64 0, Value.slice none 0 0], Value.int IntKind.i64 4])) (by kernel_rfl) (by kernel_rfl) (give [0, 0] (by kernel_rfl)) (by first | ((repeat (first | exact trivial | refine ⟨trivial, ?_⟩)); done) | assumption) ?_ (.inr rfl)
    exact ⟨none, 0, rfl, rfl⟩

theorem ask0_spec (f : FuncId) (d : Do) (hd : DoesDo f [] [] d)
    (H : Int) (a : Option Addr) (c : Nat) (l : List Int) (x : Int) (ha : a = none → l = []) (hl : l.length ≤ 1099511627776) (hc : l.length ≤ c) :
    Does Try.prog 24 [fl H a l.length c, .int .i64 x, .func (.func f) #[] #[]] ([] ++ [ro a (ints l)])
      (fun r hp' => ∃ a' c', r = .tuple #[fl (askW d H l x).2.1 a' (askW d H l x).2.2.length c', .int .i64 (askW d H l x).1] ∧ hp' = row 3 1 a' (askW d H l x).2.2.length c' (ints (askW d H l x).2.2) :: []) := by
  have hz : ∀ e : Int, e ≠ 0 → (e == 0) = false := fun e he => beq_eq_false_iff_ne.2 he
  have hW : bad H l x ≠ 0 → askW d H l x = (bad H l x, 0, []) := fun h => if_pos h
  have hW2 : bad H l x = 0 → (d H l).1 ≠ 0 → askW d H l x = ((d H l).1, 0, []) := fun h h2 => by unfold askW; rw [if_neg (by rw [h]; decide), if_pos h2]
  have hW3 : bad H l x = 0 → (d H l).1 = 0 → askW d H l x = (0, (d H l).2) := fun h h2 => by unfold askW; rw [if_neg (by rw [h]; decide), if_neg (by rw [h2]; decide)]
  refine fn_enter Try.func24 rfl 41 rfl fun w0 h0 => ?_
  refine wpc_seq ?_
  refine wpc_region [0, 1, 2] (by kernel_rfl) ?_
  refine wpr_new (l₂ := [1, 2]) true [0] [] (fun g1 => [(3, Value.pointer (some { block := g1, off := 0 })), (1, Value.int IntKind.i64 x), (2, Value.func (Fn.func f) #[] #[])]) (fun g1 => [ro a (ints l), Ch.blk g1 24 [Value.int IntKind.i64 H, Value.slice a l.length c]]) (fun g1 => []) (fun g1 => by kernel_rfl) (fun g1 => by kernel_rfl) (fun g1 => trivial) fun g1 => ?_
  refine wpr_new (l₂ := [2]) true [1] [] (fun g2 => [(6, Value.pointer (some { block := g2, off := 0 })), (3, Value.pointer (some { block := g1, off := 0 })), (1, Value.int IntKind.i64 x), (2, Value.func (Fn.func f) #[] #[])]) (fun g2 => [ro a (ints l), Ch.blk g1 24 [Value.int IntKind.i64 H, Value.slice a l.length c], Ch.blk g2 24 [Value.int IntKind.i64 0, Value.slice none 0 0]]) (fun g2 => []) (fun g2 => by kernel_rfl) (fun g2 => by kernel_rfl) (fun g2 => trivial) fun g2 => ?_
  refine wpr_run (l₂ := []) true [2] [] [(7, Value.int IntKind.i64 0), (6, Value.pointer (some { block := g2, off := 0 })), (3, Value.pointer (some { block := g1, off := 0 })), (1, Value.int IntKind.i64 x), (2, Value.func (Fn.func f) #[] #[])] [ro a (ints l), Ch.blk g1 24 [Value.int IntKind.i64 H, Value.slice a l.length c], Ch.blk g2 24 [Value.int IntKind.i64 0, Value.slice none 0 0]] [] (by kernel_rfl) (by kernel_rfl) trivial ?_
  refine wpr_nil ?_
  refine nx_then ?_
  refine wpc_seq ?_
  refine wpc_region [0, 1, 2] (by kernel_rfl) ?_
  refine wpr_run (l₂ := [1, 2]) true [0] [1, 1] [(11, Value.agg #[Value.int IntKind.i64 H, Value.slice a l.length c]), (7, Value.int IntKind.i64 0), (6, Value.pointer (some { block := g2, off := 0 })), (3, Value.pointer (some { block := g1, off := 0 })), (1, Value.int IntKind.i64 x), (2, Value.func (Fn.func f) #[] #[])] [ro a (ints l), Ch.blk g1 24 [Value.int IntKind.i64 H, Value.slice a l.length c], Ch.blk g2 24 [Value.int IntKind.i64 0, Value.slice none 0 0]] [] (by kernel_rfl) (by kernel_rfl) trivial ?_
  refine wpr_call (dst := some 12) (rest := [ro a (ints l), Ch.blk g1 24 [Value.int IntKind.i64 H, Value.slice a l.length c], Ch.blk g2 24 [Value.int IntKind.i64 0, Value.slice none 0 0]]) (by kernel_rfl) (Check_spec H a c l ha hl hc) (Give.view (c := (ro a (ints l))) (give (pre := []) (rest := [ro a (ints l), Ch.blk g1 24 [Value.int IntKind.i64 H, Value.slice a l.length c], Ch.blk g2 24 [Value.int IntKind.i64 0, Value.slice none 0 0]]) [] (by kernel_rfl)) 0 (by kernel_rfl) view_ro) ?_
  rintro v hp' ⟨rfl, rfl⟩
  by_cases hok : Ok H l
  · rw [chk, if_pos hok]
    refine wpr_run (l₂ := []) true [2] [] [(8, Value.int IntKind.i64 0), (7, Value.int IntKind.i64 0), (6, Value.pointer (some { block := g2, off := 0 })), (3, Value.pointer (some { block := g1, off := 0 })), (1, Value.int IntKind.i64 x), (2, Value.func (Fn.func f) #[] #[])] [ro a (ints l), Ch.blk g1 24 [Value.int IntKind.i64 H, Value.slice a l.length c], Ch.blk g2 24 [Value.int IntKind.i64 0, Value.slice none 0 0]] [] (by kernel_rfl) (by kernel_rfl) trivial ?_
    refine wpr_nil ?_
    refine nx_then ?_
    refine wpc_seq ?_
    refine wpc_seq ?_
    refine wpc_region [0, 1, 2, 3, 4, 5, 6] (by kernel_rfl) ?_
    refine wpr_run (l₂ := [4, 5, 6]) true [0, 1, 2, 3] [] [(16, Value.int IntKind.i64 x), (15, Value.bool true), (8, Value.int IntKind.i64 0), (7, Value.int IntKind.i64 0), (6, Value.pointer (some { block := g2, off := 0 })), (3, Value.pointer (some { block := g1, off := 0 })), (2, Value.func (Fn.func f) #[] #[])] [ro a (ints l), Ch.blk g1 24 [Value.int IntKind.i64 H, Value.slice a l.length c], Ch.blk g2 24 [Value.int IntKind.i64 0, Value.slice none 0 0]] [] (by kernel_rfl) (by kernel_rfl) trivial ?_
    refine wpr_call (dst := some 17) (rest := [ro a (ints l), Ch.blk g1 24 [Value.int IntKind.i64 H, Value.slice a l.length c], Ch.blk g2 24 [Value.int IntKind.i64 0, Value.slice none 0 0]]) (by kernel_rfl) (client_spec x) (give [] (by kernel_rfl)) ?_
    rintro v hp' ⟨rfl, rfl⟩
    cases hx : cl x
    · have hb : bad H l x = 2 := by unfold bad; rw [if_pos hok, hx]; rfl
      refine wpr_run (l₂ := []) true [5, 6] [] [(19, Value.bool true), (8, Value.int IntKind.i64 0), (7, Value.int IntKind.i64 0), (6, Value.pointer (some { block := g2, off := 0 })), (3, Value.pointer (some { block := g1, off := 0 })), (2, Value.func (Fn.func f) #[] #[])] [ro a (ints l), Ch.blk g1 24 [Value.int IntKind.i64 H, Value.slice a l.length c], Ch.blk g2 24 [Value.int IntKind.i64 0, Value.slice none 0 0]] [] (by kernel_rfl) (by kernel_rfl) trivial ?_
      refine wpr_nil ?_
      refine nx_then ?_
      refine wpc_true (by kernel_rfl) ?_
      refine wpc_region [0] (by kernel_rfl) ?_
      refine wpr_run (l₂ := []) true [0] [] [(8, Value.int IntKind.i64 2), (7, Value.int IntKind.i64 0), (6, Value.pointer (some { block := g2, off := 0 })), (3, Value.pointer (some { block := g1, off := 0 })), (2, Value.func (Fn.func f) #[] #[])] [ro a (ints l), Ch.blk g1 24 [Value.int IntKind.i64 H, Value.slice a l.length c], Ch.blk g2 24 [Value.int IntKind.i64 0, Value.slice none 0 0]] [] (by kernel_rfl) (by kernel_rfl) trivial ?_
      refine wpr_nil ?_
      refine nx_then ?_
      refine wpc_seq ?_
      refine wpc_seq ?_
      refine wpc_region [0, 1] (by kernel_rfl) ?_
      refine wpr_run (l₂ := []) true [0, 1] [] [(21, Value.bool true), (8, Value.int IntKind.i64 2), (7, Value.int IntKind.i64 0), (6, Value.pointer (some { block := g2, off := 0 })), (3, Value.pointer (some { block := g1, off := 0 })), (2, Value.func (Fn.func f) #[] #[])] [ro a (ints l), Ch.blk g1 24 [Value.int IntKind.i64 H, Value.slice a l.length c], Ch.blk g2 24 [Value.int IntKind.i64 0, Value.slice none 0 0]] [] (by kernel_rfl) (by kernel_rfl) trivial ?_
      refine wpr_nil ?_
      refine nx_then ?_
      refine wpc_true (by kernel_rfl) ?_
      refine wpc_seq ?_
      refine wpc_region [0, 1, 2, 3] (by kernel_rfl) ?_
      refine wpr_run (l₂ := []) true [0, 1, 2, 3] [2, 2] [(7, Value.int IntKind.i64 2), (6, Value.pointer (some { block := g2, off := 0 })), (3, Value.pointer (some { block := g1, off := 0 })), (2, Value.func (Fn.func f) #[] #[])] [ro a (ints l), Ch.blk g1 24 [Value.int IntKind.i64 H, Value.slice a l.length c], Ch.blk g2 24 [Value.int IntKind.i64 0, Value.slice none 0 0]] [] (by kernel_rfl) (by kernel_rfl) trivial ?_
      refine wpr_nil ?_
      refine nx_then ?_
      refine wpc_ret ?_
      refine nx_then_ret ?_
      rw [hW (by rw [hb]; decide), hb]
      refine nx_ent (ent_nil 3 1) ?_
      refine nx_end (hp' := [row 3 1 none 0 0 []]) (rest := [ro a (ints l), Ch.blk g1 24 [Value.int IntKind.i64 H, Value.slice a l.length c], Ch.blk g2 24 [Value.int IntKind.i64 0, Value.slice none 0 0]]) [3, 3] ((Value.tuple #[Value.agg #[Value.int IntKind.i64 0, Value.slice none 0 0], Value.int IntKind.i64 2])) (by kernel_rfl) (by kernel_rfl) (give [0] (by kernel_rfl)) (by first | ((repeat (first | exact trivial | refine ⟨trivial, ?_⟩)); done) | assumption) ?_ (.inr rfl)
      exact ⟨none, 0, rfl, rfl⟩
    have hb : bad H l x = 0 := by unfold bad; rw [if_pos hok, hx]; rfl
    refine wpr_run (l₂ := []) true [5, 6] [] [(19, Value.bool false), (8, Value.int IntKind.i64 0), (7, Value.int IntKind.i64 0), (6, Value.pointer (some { block := g2, off := 0 })), (3, Value.pointer (some { block := g1, off := 0 })), (2, Value.func (Fn.func f) #[] #[])] [ro a (ints l), Ch.blk g1 24 [Value.int IntKind.i64 H, Value.slice a l.length c], Ch.blk g2 24 [Value.int IntKind.i64 0, Value.slice none 0 0]] [] (by kernel_rfl) (by kernel_rfl) trivial ?_
    refine wpr_nil ?_
    refine nx_then ?_
    refine wpc_false (by kernel_rfl) ?_
    refine wpc_skip ?_
    refine nx_then ?_
    refine wpc_seq ?_
    refine wpc_seq ?_
    refine wpc_region [0, 1] (by kernel_rfl) ?_
    refine wpr_run (l₂ := []) true [0, 1] [] [(21, Value.bool false), (8, Value.int IntKind.i64 0), (7, Value.int IntKind.i64 0), (6, Value.pointer (some { block := g2, off := 0 })), (3, Value.pointer (some { block := g1, off := 0 })), (2, Value.func (Fn.func f) #[] #[])] [ro a (ints l), Ch.blk g1 24 [Value.int IntKind.i64 H, Value.slice a l.length c], Ch.blk g2 24 [Value.int IntKind.i64 0, Value.slice none 0 0]] [] (by kernel_rfl) (by kernel_rfl) trivial ?_
    refine wpr_nil ?_
    refine nx_then ?_
    refine wpc_false (by kernel_rfl) ?_
    refine wpc_skip ?_
    refine nx_then ?_
    refine wpc_seq ?_
    refine wpc_region [0, 1, 2, 3] (by kernel_rfl) ?_
    refine wpr_run (l₂ := []) true [0, 1, 2, 3] [1] [(9, Value.int IntKind.i64 (↑l.length : Int)), (7, Value.int IntKind.i64 0), (6, Value.pointer (some { block := g2, off := 0 })), (3, Value.pointer (some { block := g1, off := 0 })), (2, Value.func (Fn.func f) #[] #[])] [ro a (ints l), Ch.blk g1 24 [Value.int IntKind.i64 H, Value.slice a l.length c], Ch.blk g2 24 [Value.int IntKind.i64 0, Value.slice none 0 0]] [] (by kernel_rfl) (by kernel_rfl) trivial ?_
    refine wpr_nil ?_
    refine nx_then ?_
    refine wpc_seq ?_
    refine wpc_region [0, 1, 2, 3, 4, 5, 6, 7] (by kernel_rfl) ?_
    refine wpr_run (l₂ := [5, 6, 7]) true [0, 1, 2, 3, 4] [1] [(31, Value.slice a l.length l.length), (7, Value.int IntKind.i64 0), (6, Value.pointer (some { block := g2, off := 0 })), (3, Value.pointer (some { block := g1, off := 0 })), (2, Value.func (Fn.func f) #[] #[])] [ro a (ints l), Ch.blk g1 24 [Value.int IntKind.i64 H, Value.slice a l.length c], Ch.blk g2 24 [Value.int IntKind.i64 0, Value.slice none 0 0]] [(0 : Int) ≤ (↑l.length : Int) ∧ (↑l.length : Int) ≤ (↑c : Int), (0 : Int) ≤ (↑l.length : Int) ∧ (↑l.length : Int) ≤ (↑l.length : Int)] (by kernel_rfl) (by kernel_rfl) ⟨by omega, by omega, trivial⟩ ?_
    refine wpr_call (dst := some 32) (rest := [ro a (ints l), Ch.blk g1 24 [Value.int IntKind.i64 H, Value.slice a l.length c], Ch.blk g2 24 [Value.int IntKind.i64 0, Value.slice none 0 0]]) (by kernel_rfl) (Clone_spec a l.length l ha hl) (Give.view (c := (ro a (ints l))) (give (pre := []) (rest := [ro a (ints l), Ch.blk g1 24 [Value.int IntKind.i64 H, Value.slice a l.length c], Ch.blk g2 24 [Value.int IntKind.i64 0, Value.slice none 0 0]]) [] (by kernel_rfl)) 0 (by kernel_rfl) view_ro) ?_
    rintro v hp' ⟨a1, c1, hn1, rfl, rfl⟩
    refine wpr_run (l₂ := []) true [6, 7] [2] [(7, Value.int IntKind.i64 0), (6, Value.pointer (some { block := g2, off := 0 })), (3, Value.pointer (some { block := g1, off := 0 })), (2, Value.func (Fn.func f) #[] #[])] [row 3 1 a1 l.length c1 (ints l), ro a (ints l), Ch.blk g1 24 [Value.int IntKind.i64 H, Value.slice a1 l.length c1], Ch.blk g2 24 [Value.int IntKind.i64 0, Value.slice none 0 0]] [] (by kernel_rfl) (by kernel_rfl) trivial ?_
    refine wpr_nil ?_
    refine nx_then ?_
    refine wpc_seq ?_
    refine wpc_seq ?_
    refine wpc_region [0, 1, 2] (by kernel_rfl) ?_
    refine wpr_run (l₂ := [1, 2]) true [0] [] [(34, Value.func (Fn.func f) #[] #[]), (7, Value.int IntKind.i64 0), (6, Value.pointer (some { block := g2, off := 0 })), (3, Value.pointer (some { block := g1, off := 0 }))] [row 3 1 a1 l.length c1 (ints l), ro a (ints l), Ch.blk g1 24 [Value.int IntKind.i64 H, Value.slice a1 l.length c1], Ch.blk g2 24 [Value.int IntKind.i64 0, Value.slice none 0 0]] [] (by kernel_rfl) (by kernel_rfl) trivial ?_
    refine wpr_callv (dst := some 35) (rest := [ro a (ints l), Ch.blk g2 24 [Value.int IntKind.i64 0, Value.slice none 0 0]]) (first := (#[])) (caps := (#[])) (args := [Value.pointer (some { block := g1, off := 0 })]) (f := f) (by kernel_rfl) (hd.1) (hd.2 g1 H a1 c1 l hok.2.1) (give [2, 0] (by kernel_rfl)) ?_
    rintro v hp' ⟨a2, c2, rfl, rfl⟩
    refine wpr_run (l₂ := []) true [2] [] [(10, Value.int IntKind.i64 (d H l).fst), (7, Value.int IntKind.i64 0), (6, Value.pointer (some { block := g2, off := 0 })), (3, Value.pointer (some { block := g1, off := 0 }))] [Ch.blk g1 24 [Value.int IntKind.i64 (d H l).snd.fst, Value.slice a2 (d H l).snd.snd.length c2], row 3 1 a2 (d H l).snd.snd.length c2 (ints (d H l).snd.snd), ro a (ints l), Ch.blk g2 24 [Value.int IntKind.i64 0, Value.slice none 0 0]] [] (by kernel_rfl) (by kernel_rfl) trivial ?_
    refine wpr_nil ?_
    refine nx_then ?_
    refine wpc_seq ?_
    refine wpc_region [0, 1] (by kernel_rfl) ?_
    refine wpr_run (l₂ := []) true [0, 1] [] [(37, Value.bool ((d H l).fst != 0)), (10, Value.int IntKind.i64 (d H l).fst), (7, Value.int IntKind.i64 0), (6, Value.pointer (some { block := g2, off := 0 })), (3, Value.pointer (some { block := g1, off := 0 }))] [Ch.blk g1 24 [Value.int IntKind.i64 (d H l).snd.fst, Value.slice a2 (d H l).snd.snd.length c2], row 3 1 a2 (d H l).snd.snd.length c2 (ints (d H l).snd.snd), ro a (ints l), Ch.blk g2 24 [Value.int IntKind.i64 0, Value.slice none 0 0]] [] (by kernel_rfl) (by kernel_rfl) trivial ?_
    refine wpr_nil ?_
    refine nx_then ?_
    by_cases he : (d H l).1 = 0
    · rw [hW3 hb he, he]
      refine wpc_false (by kernel_rfl) ?_
      refine wpc_skip ?_
      refine nx_then ?_
      refine wpc_seq ?_
      refine wpc_region [0, 1, 2] (by kernel_rfl) ?_
      refine wpr_run (l₂ := []) true [0, 1, 2] [0, 0, 3, 3] [(7, Value.int IntKind.i64 0), (6, Value.pointer (some { block := g2, off := 0 }))] [Ch.blk g1 24 [Value.int IntKind.i64 (d H l).snd.fst, Value.slice a2 (d H l).snd.snd.length c2], row 3 1 a2 (d H l).snd.snd.length c2 (ints (d H l).snd.snd), ro a (ints l), Ch.blk g2 24 [Value.int IntKind.i64 (d H l).snd.fst, Value.slice a2 (d H l).snd.snd.length c2]] [] (by kernel_rfl) (by kernel_rfl) trivial ?_
      refine wpr_nil ?_
      refine nx_then ?_
      refine wpc_ret ?_
      refine nx_end (hp' := [row 3 1 a2 (d H l).snd.snd.length c2 (ints (d H l).snd.snd)]) (rest := [Ch.blk g1 24 [Value.int IntKind.i64 (d H l).snd.fst, Value.slice a2 (d H l).snd.snd.length c2], ro a (ints l), Ch.blk g2 24 [Value.int IntKind.i64 (d H l).snd.fst, Value.slice a2 (d H l).snd.snd.length c2]]) [3, 3] ((Value.tuple #[Value.agg #[Value.int IntKind.i64 (d H l).snd.fst, Value.slice a2 (d H l).snd.snd.length c2], Value.int IntKind.i64 0])) (by kernel_rfl) (by kernel_rfl) (give [1] (by kernel_rfl)) (by first | ((repeat (first | exact trivial | refine ⟨trivial, ?_⟩)); done) | assumption) ?_ (.inr rfl)
      exact ⟨a2, c2, rfl, rfl⟩
    · rw [hW2 hb he]
      refine wpc_ent (ent_set 37 (Value.bool ((d H l).fst != 0)) (Value.bool true) (by kernel_rfl) (congrArg _ (by simpa using he))) ?_
      refine wpc_true (by kernel_rfl) ?_
      refine wpc_seq ?_
      refine wpc_region [0, 1, 2, 3] (by kernel_rfl) ?_
      refine wpr_run (l₂ := []) true [0, 1, 2, 3] [3, 3] [(7, Value.int IntKind.i64 (d H l).fst), (6, Value.pointer (some { block := g2, off := 0 })), (3, Value.pointer (some { block := g1, off := 0 }))] [Ch.blk g1 24 [Value.int IntKind.i64 (d H l).snd.fst, Value.slice a2 (d H l).snd.snd.length c2], row 3 1 a2 (d H l).snd.snd.length c2 (ints (d H l).snd.snd), ro a (ints l), Ch.blk g2 24 [Value.int IntKind.i64 0, Value.slice none 0 0]] [] (by kernel_rfl) (by kernel_rfl) trivial ?_
      refine wpr_nil ?_
      refine nx_then ?_
      refine wpc_ret ?_
      refine nx_then_ret ?_
      refine nx_ent (ent_nil 3 1) ?_
      refine nx_end (hp' := [row 3 1 none 0 0 []]) (rest := [Ch.blk g1 24 [Value.int IntKind.i64 (d H l).snd.fst, Value.slice a2 (d H l).snd.snd.length c2], row 3 1 a2 (d H l).snd.snd.length c2 (ints (d H l).snd.snd), ro a (ints l), Ch.blk g2 24 [Value.int IntKind.i64 0, Value.slice none 0 0]]) [4, 4] ((Value.tuple #[Value.agg #[Value.int IntKind.i64 0, Value.slice none 0 0], Value.int IntKind.i64 (d H l).fst])) (by kernel_rfl) (by kernel_rfl) (give [0] (by kernel_rfl)) (by first | ((repeat (first | exact trivial | refine ⟨trivial, ?_⟩)); done) | assumption) ?_ (.inr rfl)
      exact ⟨none, 0, rfl, rfl⟩
  · have hb : bad H l x = 4 := if_neg hok
    rw [chk, if_neg hok]
    refine wpr_run (l₂ := []) true [2] [] [(8, Value.int IntKind.i64 4), (7, Value.int IntKind.i64 0), (6, Value.pointer (some { block := g2, off := 0 })), (3, Value.pointer (some { block := g1, off := 0 })), (1, Value.int IntKind.i64 x), (2, Value.func (Fn.func f) #[] #[])] [ro a (ints l), Ch.blk g1 24 [Value.int IntKind.i64 H, Value.slice a l.length c], Ch.blk g2 24 [Value.int IntKind.i64 0, Value.slice none 0 0]] [] (by kernel_rfl) (by kernel_rfl) trivial ?_
    refine wpr_nil ?_
    refine nx_then ?_
    refine wpc_seq ?_
    refine wpc_seq ?_
    refine wpc_region [0, 1, 2, 3, 4, 5, 6] (by kernel_rfl) ?_
    refine wpr_run (l₂ := []) true [0, 1, 2, 3, 4, 5, 6] [] [(19, Value.bool false), (8, Value.int IntKind.i64 4), (7, Value.int IntKind.i64 0), (6, Value.pointer (some { block := g2, off := 0 })), (3, Value.pointer (some { block := g1, off := 0 })), (2, Value.func (Fn.func f) #[] #[])] [ro a (ints l), Ch.blk g1 24 [Value.int IntKind.i64 H, Value.slice a l.length c], Ch.blk g2 24 [Value.int IntKind.i64 0, Value.slice none 0 0]] [] (by kernel_rfl) (by kernel_rfl) trivial ?_
    refine wpr_nil ?_
    refine nx_then ?_
    refine wpc_false (by kernel_rfl) ?_
    refine wpc_skip ?_
    refine nx_then ?_
    refine wpc_seq ?_
    refine wpc_seq ?_
    refine wpc_region [0, 1] (by kernel_rfl) ?_
    refine wpr_run (l₂ := []) true [0, 1] [] [(21, Value.bool true), (8, Value.int IntKind.i64 4), (7, Value.int IntKind.i64 0), (6, Value.pointer (some { block := g2, off := 0 })), (3, Value.pointer (some { block := g1, off := 0 })), (2, Value.func (Fn.func f) #[] #[])] [ro a (ints l), Ch.blk g1 24 [Value.int IntKind.i64 H, Value.slice a l.length c], Ch.blk g2 24 [Value.int IntKind.i64 0, Value.slice none 0 0]] [] (by kernel_rfl) (by kernel_rfl) trivial ?_
    refine wpr_nil ?_
    refine nx_then ?_
    refine wpc_true (by kernel_rfl) ?_
    refine wpc_seq ?_
    refine wpc_region [0, 1, 2, 3] (by kernel_rfl) ?_
    refine wpr_run (l₂ := []) true [0, 1, 2, 3] [2, 2] [(7, Value.int IntKind.i64 4), (6, Value.pointer (some { block := g2, off := 0 })), (3, Value.pointer (some { block := g1, off := 0 })), (2, Value.func (Fn.func f) #[] #[])] [ro a (ints l), Ch.blk g1 24 [Value.int IntKind.i64 H, Value.slice a l.length c], Ch.blk g2 24 [Value.int IntKind.i64 0, Value.slice none 0 0]] [] (by kernel_rfl) (by kernel_rfl) trivial ?_
    refine wpr_nil ?_
    refine nx_then ?_
    refine wpc_ret ?_
    refine nx_then_ret ?_
    rw [hW (by rw [hb]; decide), hb]
    refine nx_ent (ent_nil 3 1) ?_
    refine nx_end (hp' := [row 3 1 none 0 0 []]) (rest := [ro a (ints l), Ch.blk g1 24 [Value.int IntKind.i64 H, Value.slice a l.length c], Ch.blk g2 24 [Value.int IntKind.i64 0, Value.slice none 0 0]]) [3, 3] ((Value.tuple #[Value.agg #[Value.int IntKind.i64 0, Value.slice none 0 0], Value.int IntKind.i64 4])) (by kernel_rfl) (by kernel_rfl) (give [0] (by kernel_rfl)) (by first | ((repeat (first | exact trivial | refine ⟨trivial, ?_⟩)); done) | assumption) ?_ (.inr rfl)
    exact ⟨none, 0, rfl, rfl⟩

def dReq (x : Int) : Do := fun H l => if H = x ∨ x ∈ l then (11, H, l) else if l.length = 4 then (12, H, l) else (0, H, l ++ [x])
def dGrant (x : Int) : Do := fun H l => if x ∈ l then (0, x, l.erase x) else (10, H, l.erase x)
def dRevoke : Do := fun H l => if H = 0 then (10, H, l) else (0, 0, l)
def dRelease (x : Int) : Do := fun H l => if H ≠ x then (15, H, l) else (0, 0, l)
def dLeave (x : Int) : Do := fun H l => (0, (if H = x then 0 else H), l.erase x)

theorem doReq (q : Nat) (x : Int) : DoesDo 25 [.pointer (some ⟨q, 0, none⟩)] [.blk q 3 [.int .i64 x]] (dReq x) := by
  refine ⟨by kernel_rfl, fun g H a c l hl => ?_⟩
  unfold dReq
  refine fn_enter Try.func25 rfl 36 rfl fun w0 h0 => ?_
  refine wpc_seq ?_
  refine wpc_region [0] (by kernel_rfl) ?_
  refine wpr_run (l₂ := []) true [0] [] [(3, Value.int IntKind.i64 0), (0, Value.pointer (some { block := g, off := 0 })), (1, Value.pointer (some { block := q, off := 0 }))] [Ch.blk g 24 [Value.int IntKind.i64 H, Value.slice a l.length c], row 3 1 a l.length c (ints l), Ch.blk q 3 [Value.int IntKind.i64 x]] [] (by kernel_rfl) (by kernel_rfl) trivial ?_
  refine wpr_nil ?_
  refine nx_then ?_
  refine wpc_seq ?_
  refine wpc_block ?_
  refine wpc_seq ?_
  refine wpc_draw (by kernel_rfl) [Ch.blk g 24 [Value.int IntKind.i64 H, Value.slice a l.length c], Ch.blk q 3 [Value.int IntKind.i64 x]] (sub_of [0, 2] (by kernel_rfl)) 15 (by kernel_rfl) ?_
  refine wpa_take true [(0, []), (1, []), (2, []), (3, [0]), (4, [1]), (5, []), (6, [])] [(11, Value.bool (H == x)), (3, Value.int IntKind.i64 0), (0, Value.pointer (some { block := g, off := 0 })), (1, Value.pointer (some { block := q, off := 0 }))] (#[true, true, true, true, true, true, true, false, false, false, false, false, false, false, false]) [] (n := 8) (by kernel_rfl) (by kernel_rfl) (by kernel_rfl) trivial ?_
  by_cases hH : H = x
  · rw [if_pos (.inl hH)]
    refine wpa_ent (ent_set 11 (Value.bool (H == x)) (Value.bool true) (by kernel_rfl) (congrArg _ (by simpa using hH))) ?_
    refine wpa_take true [(7, []), (8, []), (9, []), (10, []), (11, []), (12, []), (13, []), (14, [])] [(4, Value.bool true), (3, Value.int IntKind.i64 0), (0, Value.pointer (some { block := g, off := 0 })), (1, Value.pointer (some { block := q, off := 0 }))] (#[true, true, true, true, true, true, true, true, true, true, true, true, true, true, true]) [] (n := 0) (by kernel_rfl) (by kernel_rfl) (by kernel_rfl) trivial ?_
    refine wpa_done 0 (by kernel_rfl) ?_
    refine nx_then ?_
    refine wpc_true (by kernel_rfl) ?_
    refine wpc_seq ?_
    refine wpc_region [0] (by kernel_rfl) ?_
    refine wpr_run (l₂ := []) true [0] [] [(3, Value.int IntKind.i64 11), (0, Value.pointer (some { block := g, off := 0 })), (1, Value.pointer (some { block := q, off := 0 }))] [Ch.blk g 24 [Value.int IntKind.i64 H, Value.slice a l.length c], row 3 1 a l.length c (ints l), Ch.blk q 3 [Value.int IntKind.i64 x]] [] (by kernel_rfl) (by kernel_rfl) trivial ?_
    refine wpr_nil ?_
    refine nx_then ?_
    refine wpc_ret ?_
    refine nx_block_ret ?_
    refine nx_then_ret ?_
    refine nx_end (hp' := [Ch.blk g 24 [Value.int IntKind.i64 H, Value.slice a l.length c], row 3 1 a l.length c (ints l), Ch.blk q 3 [Value.int IntKind.i64 x]]) (rest := []) [] ((Value.int IntKind.i64 11)) (by kernel_rfl) (by kernel_rfl) give_all (by first | ((repeat (first | exact trivial | refine ⟨trivial, ?_⟩)); done) | assumption) ?_ (.inr rfl)
    exact ⟨a, c, rfl, rfl⟩
  refine wpa_ent (ent_set 11 (Value.bool (H == x)) (Value.bool false) (by kernel_rfl) (congrArg _ (by simpa using hH))) ?_
  refine wpa_take true [(7, []), (8, []), (9, []), (10, [0]), (11, [1])] [(16, Value.int IntKind.i64 x), (15, Value.slice a l.length c), (11, Value.bool false), (3, Value.int IntKind.i64 0), (0, Value.pointer (some { block := g, off := 0 })), (1, Value.pointer (some { block := q, off := 0 }))] (#[true, true, true, true, true, true, true, true, true, true, true, true, false, false, false]) [] (n := 3) (by kernel_rfl) (by kernel_rfl) (by kernel_rfl) trivial ?_
  refine wpa_fact (fun w h => row_none h 1 rfl) fun hnn => ?_
  refine wpa_call (i := 12) (n := 2) (dst := some 17) (rest := [Ch.blk g 24 [Value.int IntKind.i64 H, Value.slice a l.length c], row 3 1 a l.length c (ints l), Ch.blk q 3 [Value.int IntKind.i64 x]]) (by kernel_rfl) (by kernel_rfl) (Contains_spec a c l x (fun e => by simpa [ints] using hnn e) (by omega)) (Give.view (c := (row 3 1 a l.length c (ints l))) (give (pre := []) (rest := [Ch.blk g 24 [Value.int IntKind.i64 H, Value.slice a l.length c], row 3 1 a l.length c (ints l), Ch.blk q 3 [Value.int IntKind.i64 x]]) [] (by kernel_rfl)) 1 (by kernel_rfl) view_row) (sub_of [0, 2] (by kernel_rfl)) ?_
  rintro v hp' ⟨rfl, rfl⟩
  by_cases hx : x ∈ l
  · rw [decide_eq_true hx, if_pos (.inr hx)]
    refine wpa_take true [(13, []), (14, [])] [(4, Value.bool true), (3, Value.int IntKind.i64 0), (0, Value.pointer (some { block := g, off := 0 })), (1, Value.pointer (some { block := q, off := 0 }))] (#[true, true, true, true, true, true, true, true, true, true, true, true, true, true, true]) [] (n := 0) (by kernel_rfl) (by kernel_rfl) (by kernel_rfl) trivial ?_
    refine wpa_done 0 (by kernel_rfl) ?_
    refine nx_then ?_
    refine wpc_true (by kernel_rfl) ?_
    refine wpc_seq ?_
    refine wpc_region [0] (by kernel_rfl) ?_
    refine wpr_run (l₂ := []) true [0] [] [(3, Value.int IntKind.i64 11), (0, Value.pointer (some { block := g, off := 0 })), (1, Value.pointer (some { block := q, off := 0 }))] [Ch.blk g 24 [Value.int IntKind.i64 H, Value.slice a l.length c], row 3 1 a l.length c (ints l), Ch.blk q 3 [Value.int IntKind.i64 x]] [] (by kernel_rfl) (by kernel_rfl) trivial ?_
    refine wpr_nil ?_
    refine nx_then ?_
    refine wpc_ret ?_
    refine nx_block_ret ?_
    refine nx_then_ret ?_
    refine nx_end (hp' := [Ch.blk g 24 [Value.int IntKind.i64 H, Value.slice a l.length c], row 3 1 a l.length c (ints l), Ch.blk q 3 [Value.int IntKind.i64 x]]) (rest := []) [] ((Value.int IntKind.i64 11)) (by kernel_rfl) (by kernel_rfl) give_all (by first | ((repeat (first | exact trivial | refine ⟨trivial, ?_⟩)); done) | assumption) ?_ (.inr rfl)
    exact ⟨a, c, rfl, rfl⟩
  rw [decide_eq_false hx, if_neg (fun h => h.elim hH hx)]
  refine wpa_take true [(13, []), (14, [])] [(4, Value.bool false), (3, Value.int IntKind.i64 0), (0, Value.pointer (some { block := g, off := 0 })), (1, Value.pointer (some { block := q, off := 0 }))] (#[true, true, true, true, true, true, true, true, true, true, true, true, true, true, true]) [] (n := 0) (by kernel_rfl) (by kernel_rfl) (by kernel_rfl) trivial ?_
  refine wpa_done 0 (by kernel_rfl) ?_
  refine nx_then ?_
  refine wpc_false (by kernel_rfl) ?_
  refine wpc_seq ?_
  refine wpc_region [0, 1, 2, 3, 4, 5, 6] (by kernel_rfl) ?_
  refine wpr_run (l₂ := []) true [0, 1, 2, 3, 4, 5, 6] [0] [(19, Value.bool ((↑l.length : Int) == 4)), (3, Value.int IntKind.i64 0), (0, Value.pointer (some { block := g, off := 0 })), (1, Value.pointer (some { block := q, off := 0 }))] [Ch.blk g 24 [Value.int IntKind.i64 H, Value.slice a l.length c], row 3 1 a l.length c (ints l), Ch.blk q 3 [Value.int IntKind.i64 x]] [] (by kernel_rfl) (by kernel_rfl) trivial ?_
  refine wpr_nil ?_
  refine nx_then ?_
  by_cases h4 : l.length = 4
  · rw [if_pos h4]
    refine wpc_ent (ent_set 19 (Value.bool ((↑l.length : Int) == 4)) (Value.bool true) (by kernel_rfl) (congrArg _ (by rw [h4]; rfl))) ?_
    refine wpc_true (by kernel_rfl) ?_
    refine wpc_seq ?_
    refine wpc_region [0] (by kernel_rfl) ?_
    refine wpr_run (l₂ := []) true [0] [] [(3, Value.int IntKind.i64 12), (0, Value.pointer (some { block := g, off := 0 })), (1, Value.pointer (some { block := q, off := 0 }))] [Ch.blk g 24 [Value.int IntKind.i64 H, Value.slice a l.length c], row 3 1 a l.length c (ints l), Ch.blk q 3 [Value.int IntKind.i64 x]] [] (by kernel_rfl) (by kernel_rfl) trivial ?_
    refine wpr_nil ?_
    refine nx_then ?_
    refine wpc_ret ?_
    refine nx_block_ret ?_
    refine nx_then_ret ?_
    refine nx_end (hp' := [Ch.blk g 24 [Value.int IntKind.i64 H, Value.slice a l.length c], row 3 1 a l.length c (ints l), Ch.blk q 3 [Value.int IntKind.i64 x]]) (rest := []) [] ((Value.int IntKind.i64 12)) (by kernel_rfl) (by kernel_rfl) give_all (by first | ((repeat (first | exact trivial | refine ⟨trivial, ?_⟩)); done) | assumption) ?_ (.inr rfl)
    exact ⟨a, c, rfl, rfl⟩
  · rw [if_neg h4]
    refine wpc_ent (ent_set 19 (Value.bool ((↑l.length : Int) == 4)) (Value.bool false) (by kernel_rfl) (congrArg _ (beq_eq_false_iff_ne.2 (by omega)))) ?_
    refine wpc_false (by kernel_rfl) ?_
    refine wpc_skip ?_
    refine nx_block ?_
    refine nx_then ?_
    refine wpc_seq ?_
    refine wpc_draw (by kernel_rfl) [Ch.blk q 3 [Value.int IntKind.i64 x]] (sub_of [2] (by kernel_rfl)) 11 (by kernel_rfl) ?_
    refine wpa_take true [(0, []), (1, []), (2, []), (3, []), (5, [0])] [(31, Value.int IntKind.i64 x), (29, Value.pointer (some { block := g, off := 1 })), (26, Value.pointer (some { block := g, off := 0 })), (3, Value.int IntKind.i64 0)] (#[true, true, true, true, false, true, false, false, false, false, false]) [] (n := 6) (by kernel_rfl) (by kernel_rfl) (by kernel_rfl) trivial ?_
    refine wpa_two (i := 4) (j := 6) (n := 5) (by kernel_rfl) ?_ ?_
    · refine wpi_one (n := 5) true 4 [0] [(30, Value.slice a l.length c), (31, Value.int IntKind.i64 x), (26, Value.pointer (some { block := g, off := 0 })), (3, Value.int IntKind.i64 0)] [Ch.blk g 24 [Value.int IntKind.i64 H, Value.slice a l.length c], row 3 1 a l.length c (ints l), Ch.blk q 3 [Value.int IntKind.i64 x]] [] (by kernel_rfl) (by kernel_rfl) trivial (sub_of [2] (by kernel_rfl)) ?_
      refine wpa_new (n := 4) true 6 [] (fun g1 => [(32, Value.slice (some { block := g1, off := 0 }) 1 1), (30, Value.slice a l.length c), (26, Value.pointer (some { block := g, off := 0 })), (3, Value.int IntKind.i64 0)]) (fun g1 => [Ch.blk g 24 [Value.int IntKind.i64 H, Value.slice a l.length c], row 3 1 a l.length c (ints l), Ch.blk q 3 [Value.int IntKind.i64 x], Ch.blk g1 3 [Value.int IntKind.i64 x]]) (fun g1 => []) (by kernel_rfl) (fun g1 => by kernel_rfl) (fun g1 => by kernel_rfl) (fun g1 => trivial) (fun g1 => sub_of [2] (by kernel_rfl)) fun g1 => ?_
      refine wpa_ent (ent_turn 3 (ro (some ⟨g1, 0, none⟩) (ints [x])) rfl (turn_rints [x] rfl) rfl) ?_
      refine wpa_app (i := 7) (nf := 3) (by kernel_rfl) (a := a) (n := l.length) (cap := c) (x := (Value.slice (some { block := g1, off := 0 }) 1 1)) (t := 22) (xt := 22) (dst := some 33) (by kernel_rfl) (e := 3) (sz := 1) (bytes := 8) (by kernel_rfl) 1 (xs := (ints l)) (by kernel_rfl) (m := 1) (news := (ints [x])) (fun w h => src_ro h 3 rfl rfl (fun e => by cases e)) (by unfold maxLen; omega) (by omega) [1] (by kernel_rfl) ?_
      intro a2 c2 hn
      rw [ints_append, show l.length + 1 = (l ++ [x]).length from by simp]
      refine wpa_take true [(8, []), (9, [])] ([(35, Value.pointer (some { block := g, off := 1 })), (33, Value.slice a2 (l ++ [x]).length c2), (3, Value.int IntKind.i64 0)]) (#[true, true, true, true, true, true, true, true, true, true, false]) [] (n := 1) (by kernel_rfl) (by kernel_rfl) (by kernel_rfl) trivial ?_
      refine wpa_one (n := 0) true 10 [0] [(3, Value.int IntKind.i64 0)] ([Ch.blk g 24 [Value.int IntKind.i64 H, Value.slice a2 (l ++ [x]).length c2], row 3 1 a2 (l ++ [x]).length c2 (ints (l ++ [x])), Ch.blk q 3 [Value.int IntKind.i64 x], ro (some { block := g1, off := 0 }) (ints [x])]) [] (by kernel_rfl) (by kernel_rfl) (by kernel_rfl) trivial (sub_of [2] (by kernel_rfl)) ?_
      refine wpa_done 0 (by kernel_rfl) ?_
      refine nx_then ?_
      refine wpc_seq ?_
      refine wpc_region [0] (by kernel_rfl) ?_
      refine wpr_run (l₂ := []) true [0] [] [(3, Value.int IntKind.i64 0)] ([Ch.blk g 24 [Value.int IntKind.i64 H, Value.slice a2 (l ++ [x]).length c2], row 3 1 a2 (l ++ [x]).length c2 (ints (l ++ [x])), Ch.blk q 3 [Value.int IntKind.i64 x], ro (some { block := g1, off := 0 }) (ints [x])]) [] (by kernel_rfl) (by kernel_rfl) trivial ?_
      refine wpr_nil ?_
      refine nx_then ?_
      refine wpc_ret ?_
      refine nx_end (hp' := ([Ch.blk g 24 [Value.int IntKind.i64 H, Value.slice a2 (l ++ [x]).length c2], row 3 1 a2 (l ++ [x]).length c2 (ints (l ++ [x])), Ch.blk q 3 [Value.int IntKind.i64 x]])) (rest := [ro (some { block := g1, off := 0 }) (ints [x])]) [] ((Value.int IntKind.i64 0)) (by kernel_rfl) (by kernel_rfl) (give [0, 0, 0] (by kernel_rfl)) (by first | ((repeat (first | exact trivial | refine ⟨trivial, ?_⟩)); done) | assumption) ?_ (.inr rfl)
      exact ⟨a2, c2, rfl, rfl⟩
    · refine wpi_new (n := 5) true 6 [] (fun g1 => [(32, Value.slice (some { block := g1, off := 0 }) 1 1), (29, Value.pointer (some { block := g, off := 1 })), (26, Value.pointer (some { block := g, off := 0 })), (3, Value.int IntKind.i64 0)]) (fun g1 => [Ch.blk g 24 [Value.int IntKind.i64 H, Value.slice a l.length c], row 3 1 a l.length c (ints l), Ch.blk q 3 [Value.int IntKind.i64 x], Ch.blk g1 3 [Value.int IntKind.i64 x]]) (fun g1 => []) (fun g1 => by kernel_rfl) (fun g1 => by kernel_rfl) (fun g1 => trivial) (fun g1 => sub_of [2] (by kernel_rfl)) fun g1 => ?_
      refine wpa_one (n := 4) true 4 [0] [(30, Value.slice a l.length c), (32, Value.slice (some { block := g1, off := 0 }) 1 1), (26, Value.pointer (some { block := g, off := 0 })), (3, Value.int IntKind.i64 0)] [Ch.blk g 24 [Value.int IntKind.i64 H, Value.slice a l.length c], row 3 1 a l.length c (ints l), Ch.blk q 3 [Value.int IntKind.i64 x], Ch.blk g1 3 [Value.int IntKind.i64 x]] [] (by kernel_rfl) (by kernel_rfl) (by kernel_rfl) trivial (sub_of [2] (by kernel_rfl)) ?_
      refine wpa_ent (ent_turn 3 (ro (some ⟨g1, 0, none⟩) (ints [x])) rfl (turn_rints [x] rfl) rfl) ?_
      refine wpa_app (i := 7) (nf := 3) (by kernel_rfl) (a := a) (n := l.length) (cap := c) (x := (Value.slice (some { block := g1, off := 0 }) 1 1)) (t := 22) (xt := 22) (dst := some 33) (by kernel_rfl) (e := 3) (sz := 1) (bytes := 8) (by kernel_rfl) 1 (xs := (ints l)) (by kernel_rfl) (m := 1) (news := (ints [x])) (fun w h => src_ro h 3 rfl rfl (fun e => by cases e)) (by unfold maxLen; omega) (by omega) [1] (by kernel_rfl) ?_
      intro a2 c2 hn
      rw [ints_append, show l.length + 1 = (l ++ [x]).length from by simp]
      refine wpa_take true [(8, []), (9, [])] ([(35, Value.pointer (some { block := g, off := 1 })), (33, Value.slice a2 (l ++ [x]).length c2), (3, Value.int IntKind.i64 0)]) (#[true, true, true, true, true, true, true, true, true, true, false]) [] (n := 1) (by kernel_rfl) (by kernel_rfl) (by kernel_rfl) trivial ?_
      refine wpa_one (n := 0) true 10 [0] [(3, Value.int IntKind.i64 0)] ([Ch.blk g 24 [Value.int IntKind.i64 H, Value.slice a2 (l ++ [x]).length c2], row 3 1 a2 (l ++ [x]).length c2 (ints (l ++ [x])), Ch.blk q 3 [Value.int IntKind.i64 x], ro (some { block := g1, off := 0 }) (ints [x])]) [] (by kernel_rfl) (by kernel_rfl) (by kernel_rfl) trivial (sub_of [2] (by kernel_rfl)) ?_
      refine wpa_done 0 (by kernel_rfl) ?_
      refine nx_then ?_
      refine wpc_seq ?_
      refine wpc_region [0] (by kernel_rfl) ?_
      refine wpr_run (l₂ := []) true [0] [] [(3, Value.int IntKind.i64 0)] ([Ch.blk g 24 [Value.int IntKind.i64 H, Value.slice a2 (l ++ [x]).length c2], row 3 1 a2 (l ++ [x]).length c2 (ints (l ++ [x])), Ch.blk q 3 [Value.int IntKind.i64 x], ro (some { block := g1, off := 0 }) (ints [x])]) [] (by kernel_rfl) (by kernel_rfl) trivial ?_
      refine wpr_nil ?_
      refine nx_then ?_
      refine wpc_ret ?_
      refine nx_end (hp' := ([Ch.blk g 24 [Value.int IntKind.i64 H, Value.slice a2 (l ++ [x]).length c2], row 3 1 a2 (l ++ [x]).length c2 (ints (l ++ [x])), Ch.blk q 3 [Value.int IntKind.i64 x]])) (rest := [ro (some { block := g1, off := 0 }) (ints [x])]) [] ((Value.int IntKind.i64 0)) (by kernel_rfl) (by kernel_rfl) (give [0, 0, 0] (by kernel_rfl)) (by first | ((repeat (first | exact trivial | refine ⟨trivial, ?_⟩)); done) | assumption) ?_ (.inr rfl)
      exact ⟨a2, c2, rfl, rfl⟩
theorem doGrant (q : Nat) (x : Int) : DoesDo 30 [.pointer (some ⟨q, 0, none⟩)] [.blk q 3 [.int .i64 x]] (dGrant x) := by
  refine ⟨by kernel_rfl, fun g H a c l hl => ?_⟩
  refine fn_enter Try.func30 rfl 12 rfl fun w0 h0 => ?_
  refine wpc_seq ?_
  refine wpc_region [0] (by kernel_rfl) ?_
  refine wpr_run (l₂ := []) true [0] [] [(3, Value.int IntKind.i64 0), (0, Value.pointer (some { block := g, off := 0 })), (1, Value.pointer (some { block := q, off := 0 }))] [Ch.blk g 24 [Value.int IntKind.i64 H, Value.slice a l.length c], row 3 1 a l.length c (ints l), Ch.blk q 3 [Value.int IntKind.i64 x]] [] (by kernel_rfl) (by kernel_rfl) trivial ?_
  refine wpr_nil ?_
  refine nx_then ?_
  refine wpc_seq ?_
  refine wpc_seq ?_
  refine wpc_region [0, 1, 2, 3] (by kernel_rfl) ?_
  refine wpr_run (l₂ := [2, 3]) true [0, 1] [2] [(5, Value.int IntKind.i64 x), (4, Value.pointer (some { block := g, off := 0 })), (3, Value.int IntKind.i64 0), (0, Value.pointer (some { block := g, off := 0 })), (1, Value.pointer (some { block := q, off := 0 }))] [Ch.blk g 24 [Value.int IntKind.i64 H, Value.slice a l.length c], row 3 1 a l.length c (ints l), Ch.blk q 3 [Value.int IntKind.i64 x]] [] (by kernel_rfl) (by kernel_rfl) trivial ?_
  refine wpr_call (dst := some 6) (rest := [Ch.blk q 3 [Value.int IntKind.i64 x]]) (by kernel_rfl) (drop_spec g H a l.length c l x rfl (by omega)) (give [0, 0] (by kernel_rfl)) ?_
  rintro v hp' ⟨rfl, rfl⟩
  unfold dGrant
  by_cases hx : x ∈ l
  · rw [decide_eq_true hx, if_pos hx]
    refine wpr_run (l₂ := []) true [3] [] [(7, Value.bool false), (3, Value.int IntKind.i64 0), (0, Value.pointer (some { block := g, off := 0 })), (1, Value.pointer (some { block := q, off := 0 }))] [Ch.blk g 24 [Value.int IntKind.i64 H, Value.slice a (l.erase x).length c], row 3 1 a (l.erase x).length c (ints (l.erase x)), Ch.blk q 3 [Value.int IntKind.i64 x]] [] (by kernel_rfl) (by kernel_rfl) trivial ?_
    refine wpr_nil ?_
    refine nx_then ?_
    refine wpc_false (by kernel_rfl) ?_
    refine wpc_skip ?_
    refine nx_then ?_
    refine wpc_seq ?_
    refine wpc_region [0, 1, 2, 3, 4] (by kernel_rfl) ?_
    refine wpr_run (l₂ := []) true [0, 1, 2, 3, 4] [2, 0] [(3, Value.int IntKind.i64 0)] [Ch.blk g 24 [Value.int IntKind.i64 x, Value.slice a (l.erase x).length c], row 3 1 a (l.erase x).length c (ints (l.erase x)), Ch.blk q 3 [Value.int IntKind.i64 x]] [] (by kernel_rfl) (by kernel_rfl) trivial ?_
    refine wpr_nil ?_
    refine nx_then ?_
    refine wpc_seq ?_
    refine wpc_region [0] (by kernel_rfl) ?_
    refine wpr_run (l₂ := []) true [0] [] [(3, Value.int IntKind.i64 0)] [Ch.blk g 24 [Value.int IntKind.i64 x, Value.slice a (l.erase x).length c], row 3 1 a (l.erase x).length c (ints (l.erase x)), Ch.blk q 3 [Value.int IntKind.i64 x]] [] (by kernel_rfl) (by kernel_rfl) trivial ?_
    refine wpr_nil ?_
    refine nx_then ?_
    refine wpc_ret ?_
    refine nx_end (hp' := [Ch.blk g 24 [Value.int IntKind.i64 x, Value.slice a (l.erase x).length c], row 3 1 a (l.erase x).length c (ints (l.erase x)), Ch.blk q 3 [Value.int IntKind.i64 x]]) (rest := []) [] ((Value.int IntKind.i64 0)) (by kernel_rfl) (by kernel_rfl) give_all (by first | ((repeat (first | exact trivial | refine ⟨trivial, ?_⟩)); done) | assumption) ?_ (.inr rfl)
    exact ⟨a, c, rfl, rfl⟩
  · rw [decide_eq_false hx, if_neg hx]
    refine wpr_run (l₂ := []) true [3] [] [(7, Value.bool true), (3, Value.int IntKind.i64 0), (0, Value.pointer (some { block := g, off := 0 })), (1, Value.pointer (some { block := q, off := 0 }))] [Ch.blk g 24 [Value.int IntKind.i64 H, Value.slice a (l.erase x).length c], row 3 1 a (l.erase x).length c (ints (l.erase x)), Ch.blk q 3 [Value.int IntKind.i64 x]] [] (by kernel_rfl) (by kernel_rfl) trivial ?_
    refine wpr_nil ?_
    refine nx_then ?_
    refine wpc_true (by kernel_rfl) ?_
    refine wpc_seq ?_
    refine wpc_region [0] (by kernel_rfl) ?_
    refine wpr_run (l₂ := []) true [0] [] [(3, Value.int IntKind.i64 10), (0, Value.pointer (some { block := g, off := 0 })), (1, Value.pointer (some { block := q, off := 0 }))] [Ch.blk g 24 [Value.int IntKind.i64 H, Value.slice a (l.erase x).length c], row 3 1 a (l.erase x).length c (ints (l.erase x)), Ch.blk q 3 [Value.int IntKind.i64 x]] [] (by kernel_rfl) (by kernel_rfl) trivial ?_
    refine wpr_nil ?_
    refine nx_then ?_
    refine wpc_ret ?_
    refine nx_then_ret ?_
    refine nx_end (hp' := [Ch.blk g 24 [Value.int IntKind.i64 H, Value.slice a (l.erase x).length c], row 3 1 a (l.erase x).length c (ints (l.erase x)), Ch.blk q 3 [Value.int IntKind.i64 x]]) (rest := []) [] ((Value.int IntKind.i64 10)) (by kernel_rfl) (by kernel_rfl) give_all (by first | ((repeat (first | exact trivial | refine ⟨trivial, ?_⟩)); done) | assumption) ?_ (.inr rfl)
    exact ⟨a, c, rfl, rfl⟩
theorem doRevoke : DoesDo 32 [] [] dRevoke := by
  refine ⟨by kernel_rfl, fun g H a c l hl => ?_⟩
  unfold dRevoke
  refine fn_enter Try.func32 rfl 11 rfl fun w0 h0 => ?_
  refine wpc_seq ?_
  refine wpc_region [0] (by kernel_rfl) ?_
  refine wpr_run (l₂ := []) true [0] [] [(2, Value.int IntKind.i64 0), (0, Value.pointer (some { block := g, off := 0 }))] [Ch.blk g 24 [Value.int IntKind.i64 H, Value.slice a l.length c], row 3 1 a l.length c (ints l)] [] (by kernel_rfl) (by kernel_rfl) trivial ?_
  refine wpr_nil ?_
  refine nx_then ?_
  refine wpc_seq ?_
  refine wpc_seq ?_
  refine wpc_region [0, 1, 2, 3, 4] (by kernel_rfl) ?_
  refine wpr_run (l₂ := []) true [0, 1, 2, 3, 4] [0] [(7, Value.bool (H == 0)), (2, Value.int IntKind.i64 0), (0, Value.pointer (some { block := g, off := 0 }))] [Ch.blk g 24 [Value.int IntKind.i64 H, Value.slice a l.length c], row 3 1 a l.length c (ints l)] [] (by kernel_rfl) (by kernel_rfl) trivial ?_
  refine wpr_nil ?_
  refine nx_then ?_
  refine wpc_cond ((H == 0)) (by kernel_rfl) (fun h => ?_) (fun h => ?_)
  · rw [if_pos (eq_of_beq h)]
    refine wpc_seq ?_
    refine wpc_region [0] (by kernel_rfl) ?_
    refine wpr_run (l₂ := []) true [0] [] [(2, Value.int IntKind.i64 10), (0, Value.pointer (some { block := g, off := 0 }))] [Ch.blk g 24 [Value.int IntKind.i64 H, Value.slice a l.length c], row 3 1 a l.length c (ints l)] [] (by kernel_rfl) (by kernel_rfl) trivial ?_
    refine wpr_nil ?_
    refine nx_then ?_
    refine wpc_ret ?_
    refine nx_then_ret ?_
    refine nx_end (hp' := [Ch.blk g 24 [Value.int IntKind.i64 H, Value.slice a l.length c], row 3 1 a l.length c (ints l)]) (rest := []) [] ((Value.int IntKind.i64 10)) (by kernel_rfl) (by kernel_rfl) give_all (by first | ((repeat (first | exact trivial | refine ⟨trivial, ?_⟩)); done) | assumption) ?_ (.inr rfl)
    exact ⟨a, c, rfl, rfl⟩
  · rw [if_neg (fun e => by rw [e] at h; simp at h)]
    refine wpc_skip ?_
    refine nx_then ?_
    refine wpc_seq ?_
    refine wpc_region [0, 1, 2, 3] (by kernel_rfl) ?_
    refine wpr_run (l₂ := []) true [0, 1, 2, 3] [0] [(2, Value.int IntKind.i64 0)] [Ch.blk g 24 [Value.int IntKind.i64 0, Value.slice a l.length c], row 3 1 a l.length c (ints l)] [] (by kernel_rfl) (by kernel_rfl) trivial ?_
    refine wpr_nil ?_
    refine nx_then ?_
    refine wpc_seq ?_
    refine wpc_region [0] (by kernel_rfl) ?_
    refine wpr_run (l₂ := []) true [0] [] [(2, Value.int IntKind.i64 0)] [Ch.blk g 24 [Value.int IntKind.i64 0, Value.slice a l.length c], row 3 1 a l.length c (ints l)] [] (by kernel_rfl) (by kernel_rfl) trivial ?_
    refine wpr_nil ?_
    refine nx_then ?_
    refine wpc_ret ?_
    refine nx_end (hp' := [Ch.blk g 24 [Value.int IntKind.i64 0, Value.slice a l.length c], row 3 1 a l.length c (ints l)]) (rest := []) [] ((Value.int IntKind.i64 0)) (by kernel_rfl) (by kernel_rfl) give_all (by first | ((repeat (first | exact trivial | refine ⟨trivial, ?_⟩)); done) | assumption) ?_ (.inr rfl)
    exact ⟨a, c, rfl, rfl⟩
theorem doRelease (q : Nat) (x : Int) : DoesDo 34 [.pointer (some ⟨q, 0, none⟩)] [.blk q 3 [.int .i64 x]] (dRelease x) := by
  refine ⟨by kernel_rfl, fun g H a c l hl => ?_⟩
  unfold dRelease
  refine fn_enter Try.func34 rfl 13 rfl fun w0 h0 => ?_
  refine wpc_seq ?_
  refine wpc_region [0] (by kernel_rfl) ?_
  refine wpr_run (l₂ := []) true [0] [] [(3, Value.int IntKind.i64 0), (0, Value.pointer (some { block := g, off := 0 })), (1, Value.pointer (some { block := q, off := 0 }))] [Ch.blk g 24 [Value.int IntKind.i64 H, Value.slice a l.length c], row 3 1 a l.length c (ints l), Ch.blk q 3 [Value.int IntKind.i64 x]] [] (by kernel_rfl) (by kernel_rfl) trivial ?_
  refine wpr_nil ?_
  refine nx_then ?_
  refine wpc_seq ?_
  refine wpc_seq ?_
  refine wpc_draw (by kernel_rfl) [Ch.blk g 24 [Value.int IntKind.i64 H, Value.slice a l.length c], row 3 1 a l.length c (ints l), Ch.blk q 3 [Value.int IntKind.i64 x]] (sub_of [0, 1, 2] (by kernel_rfl)) 6 (by kernel_rfl) ?_
  refine wpa_take true [(0, []), (1, []), (2, []), (3, [0]), (4, [2]), (5, [])] [(9, Value.bool (H != x)), (3, Value.int IntKind.i64 0), (0, Value.pointer (some { block := g, off := 0 }))] (#[true, true, true, true, true, true]) [] (n := 0) (by kernel_rfl) (by kernel_rfl) (by kernel_rfl) trivial ?_
  refine wpa_done 0 (by kernel_rfl) ?_
  refine nx_then ?_
  refine wpc_cond ((H != x)) (by kernel_rfl) (fun h => ?_) (fun h => ?_)
  · rw [if_pos (by simpa using h)]
    refine wpc_seq ?_
    refine wpc_region [0] (by kernel_rfl) ?_
    refine wpr_run (l₂ := []) true [0] [] [(3, Value.int IntKind.i64 15), (0, Value.pointer (some { block := g, off := 0 }))] [Ch.blk g 24 [Value.int IntKind.i64 H, Value.slice a l.length c], row 3 1 a l.length c (ints l), Ch.blk q 3 [Value.int IntKind.i64 x]] [] (by kernel_rfl) (by kernel_rfl) trivial ?_
    refine wpr_nil ?_
    refine nx_then ?_
    refine wpc_ret ?_
    refine nx_then_ret ?_
    refine nx_end (hp' := [Ch.blk g 24 [Value.int IntKind.i64 H, Value.slice a l.length c], row 3 1 a l.length c (ints l), Ch.blk q 3 [Value.int IntKind.i64 x]]) (rest := []) [] ((Value.int IntKind.i64 15)) (by kernel_rfl) (by kernel_rfl) give_all (by first | ((repeat (first | exact trivial | refine ⟨trivial, ?_⟩)); done) | assumption) ?_ (.inr rfl)
    exact ⟨a, c, rfl, rfl⟩
  · rw [if_neg (by simpa using h)]
    refine wpc_skip ?_
    refine nx_then ?_
    refine wpc_seq ?_
    refine wpc_region [0, 1, 2, 3] (by kernel_rfl) ?_
    refine wpr_run (l₂ := []) true [0, 1, 2, 3] [0] [(3, Value.int IntKind.i64 0)] [Ch.blk g 24 [Value.int IntKind.i64 0, Value.slice a l.length c], row 3 1 a l.length c (ints l), Ch.blk q 3 [Value.int IntKind.i64 x]] [] (by kernel_rfl) (by kernel_rfl) trivial ?_
    refine wpr_nil ?_
    refine nx_then ?_
    refine wpc_seq ?_
    refine wpc_region [0] (by kernel_rfl) ?_
    refine wpr_run (l₂ := []) true [0] [] [(3, Value.int IntKind.i64 0)] [Ch.blk g 24 [Value.int IntKind.i64 0, Value.slice a l.length c], row 3 1 a l.length c (ints l), Ch.blk q 3 [Value.int IntKind.i64 x]] [] (by kernel_rfl) (by kernel_rfl) trivial ?_
    refine wpr_nil ?_
    refine nx_then ?_
    refine wpc_ret ?_
    refine nx_end (hp' := [Ch.blk g 24 [Value.int IntKind.i64 0, Value.slice a l.length c], row 3 1 a l.length c (ints l), Ch.blk q 3 [Value.int IntKind.i64 x]]) (rest := []) [] ((Value.int IntKind.i64 0)) (by kernel_rfl) (by kernel_rfl) give_all (by first | ((repeat (first | exact trivial | refine ⟨trivial, ?_⟩)); done) | assumption) ?_ (.inr rfl)
    exact ⟨a, c, rfl, rfl⟩
theorem doLeave (q : Nat) (x : Int) : DoesDo 35 [.pointer (some ⟨q, 0, none⟩)] [.blk q 3 [.int .i64 x]] (dLeave x) := by
  refine ⟨by kernel_rfl, fun g H a c l hl => ?_⟩
  unfold dLeave
  refine fn_enter Try.func35 rfl 16 rfl fun w0 h0 => ?_
  refine wpc_seq ?_
  refine wpc_region [0] (by kernel_rfl) ?_
  refine wpr_run (l₂ := []) true [0] [] [(3, Value.int IntKind.i64 0), (0, Value.pointer (some { block := g, off := 0 })), (1, Value.pointer (some { block := q, off := 0 }))] [Ch.blk g 24 [Value.int IntKind.i64 H, Value.slice a l.length c], row 3 1 a l.length c (ints l), Ch.blk q 3 [Value.int IntKind.i64 x]] [] (by kernel_rfl) (by kernel_rfl) trivial ?_
  refine wpr_nil ?_
  refine nx_then ?_
  refine wpc_seq ?_
  refine wpc_seq ?_
  refine wpc_draw (by kernel_rfl) [Ch.blk g 24 [Value.int IntKind.i64 H, Value.slice a l.length c], row 3 1 a l.length c (ints l), Ch.blk q 3 [Value.int IntKind.i64 x]] (sub_of [0, 1, 2] (by kernel_rfl)) 6 (by kernel_rfl) ?_
  refine wpa_take true [(0, []), (1, []), (2, []), (3, [0]), (4, [2]), (5, [])] [(9, Value.bool (H == x)), (3, Value.int IntKind.i64 0), (0, Value.pointer (some { block := g, off := 0 })), (1, Value.pointer (some { block := q, off := 0 }))] (#[true, true, true, true, true, true]) [] (n := 0) (by kernel_rfl) (by kernel_rfl) (by kernel_rfl) trivial ?_
  refine wpa_done 0 (by kernel_rfl) ?_
  refine nx_then ?_
  refine wpc_cond ((H == x)) (by kernel_rfl) (fun h => ?_) (fun h => ?_)
  · rw [if_pos (eq_of_beq h)]
    refine wpc_region [0, 1, 2, 3] (by kernel_rfl) ?_
    refine wpr_run (l₂ := []) true [0, 1, 2, 3] [0] [(3, Value.int IntKind.i64 0), (0, Value.pointer (some { block := g, off := 0 })), (1, Value.pointer (some { block := q, off := 0 }))] [Ch.blk g 24 [Value.int IntKind.i64 0, Value.slice a l.length c], row 3 1 a l.length c (ints l), Ch.blk q 3 [Value.int IntKind.i64 x]] [] (by kernel_rfl) (by kernel_rfl) trivial ?_
    refine wpr_nil ?_
    refine nx_then ?_
    refine wpc_seq ?_
    refine wpc_region [0, 1, 2] (by kernel_rfl) ?_
    refine wpr_run (l₂ := [2]) true [0, 1] [2] [(14, Value.int IntKind.i64 x), (13, Value.pointer (some { block := g, off := 0 })), (3, Value.int IntKind.i64 0)] [Ch.blk g 24 [Value.int IntKind.i64 0, Value.slice a l.length c], row 3 1 a l.length c (ints l), Ch.blk q 3 [Value.int IntKind.i64 x]] [] (by kernel_rfl) (by kernel_rfl) trivial ?_
    refine wpr_call (dst := some 15) (rest := [Ch.blk q 3 [Value.int IntKind.i64 x]]) (by kernel_rfl) (drop_spec g 0 a l.length c l x rfl (by omega)) (give [0, 0] (by kernel_rfl)) ?_
    rintro v hp' ⟨rfl, rfl⟩
    refine wpr_nil ?_
    refine nx_then ?_
    refine wpc_seq ?_
    refine wpc_region [0] (by kernel_rfl) ?_
    refine wpr_run (l₂ := []) true [0] [] [(3, Value.int IntKind.i64 0)] [Ch.blk g 24 [Value.int IntKind.i64 0, Value.slice a (l.erase x).length c], row 3 1 a (l.erase x).length c (ints (l.erase x)), Ch.blk q 3 [Value.int IntKind.i64 x]] [] (by kernel_rfl) (by kernel_rfl) trivial ?_
    refine wpr_nil ?_
    refine nx_then ?_
    refine wpc_ret ?_
    refine nx_end (hp' := [Ch.blk g 24 [Value.int IntKind.i64 0, Value.slice a (l.erase x).length c], row 3 1 a (l.erase x).length c (ints (l.erase x)), Ch.blk q 3 [Value.int IntKind.i64 x]]) (rest := []) [] ((Value.int IntKind.i64 0)) (by kernel_rfl) (by kernel_rfl) give_all (by first | ((repeat (first | exact trivial | refine ⟨trivial, ?_⟩)); done) | assumption) ?_ (.inr rfl)
    exact ⟨a, c, rfl, rfl⟩
  · rw [if_neg (fun e => by rw [e] at h; simp at h)]
    refine wpc_skip ?_
    refine nx_then ?_
    refine wpc_seq ?_
    refine wpc_region [0, 1, 2] (by kernel_rfl) ?_
    refine wpr_run (l₂ := [2]) true [0, 1] [2] [(14, Value.int IntKind.i64 x), (13, Value.pointer (some { block := g, off := 0 })), (3, Value.int IntKind.i64 0)] [Ch.blk g 24 [Value.int IntKind.i64 H, Value.slice a l.length c], row 3 1 a l.length c (ints l), Ch.blk q 3 [Value.int IntKind.i64 x]] [] (by kernel_rfl) (by kernel_rfl) trivial ?_
    refine wpr_call (dst := some 15) (rest := [Ch.blk q 3 [Value.int IntKind.i64 x]]) (by kernel_rfl) (drop_spec g H a l.length c l x rfl (by omega)) (give [0, 0] (by kernel_rfl)) ?_
    rintro v hp' ⟨rfl, rfl⟩
    refine wpr_nil ?_
    refine nx_then ?_
    refine wpc_seq ?_
    refine wpc_region [0] (by kernel_rfl) ?_
    refine wpr_run (l₂ := []) true [0] [] [(3, Value.int IntKind.i64 0)] [Ch.blk g 24 [Value.int IntKind.i64 H, Value.slice a (l.erase x).length c], row 3 1 a (l.erase x).length c (ints (l.erase x)), Ch.blk q 3 [Value.int IntKind.i64 x]] [] (by kernel_rfl) (by kernel_rfl) trivial ?_
    refine wpr_nil ?_
    refine nx_then ?_
    refine wpc_ret ?_
    refine nx_end (hp' := [Ch.blk g 24 [Value.int IntKind.i64 H, Value.slice a (l.erase x).length c], row 3 1 a (l.erase x).length c (ints (l.erase x)), Ch.blk q 3 [Value.int IntKind.i64 x]]) (rest := []) [] ((Value.int IntKind.i64 0)) (by kernel_rfl) (by kernel_rfl) give_all (by first | ((repeat (first | exact trivial | refine ⟨trivial, ?_⟩)); done) | assumption) ?_ (.inr rfl)
    exact ⟨a, c, rfl, rfl⟩

theorem Request_spec (H : Int) (a : Option Addr) (c : Nat) (l : List Int) (x : Int) (ha : a = none → l = []) (hl : l.length ≤ 1099511627776) (hc : l.length ≤ c) :
    Does Try.prog 9 [fl H a l.length c, .int .i64 x] [ro a (ints l)]
      (fun r hp' => ∃ a' c', r = .tuple #[fl (req H l x).2.1 a' (req H l x).2.2.length c', .int .i64 (req H l x).1] ∧ hp' = [row 3 1 a' (req H l x).2.2.length c' (ints (req H l x).2.2)]) := by
  have hE : askW (dReq x) H l x = req H l x := by
    unfold askW req dReq
    by_cases hb : bad H l x ≠ 0
    · rw [if_pos hb, if_pos hb]
    · rw [if_neg hb, if_neg hb]
      repeat' split
      all_goals first | rfl | simp_all
  refine fn_enter Try.func9 rfl 12 rfl fun w0 h0 => ?_
  refine wpc_seq ?_
  refine wpc_region [0, 1, 2, 3] (by kernel_rfl) ?_
  refine wpr_new (l₂ := [1, 2, 3]) true [0] [] (fun g1 => [(2, Value.pointer (some { block := g1, off := 0 })), (1, Value.int IntKind.i64 x)]) (fun g1 => [ro a (ints l), Ch.blk g1 24 [Value.int IntKind.i64 H, Value.slice a l.length c]]) (fun g1 => []) (fun g1 => by kernel_rfl) (fun g1 => by kernel_rfl) (fun g1 => trivial) fun g1 => ?_
  refine wpr_new (l₂ := [2, 3]) true [1] [] (fun g2 => [(3, Value.pointer (some { block := g2, off := 0 })), (2, Value.pointer (some { block := g1, off := 0 }))]) (fun g2 => [ro a (ints l), Ch.blk g1 24 [Value.int IntKind.i64 H, Value.slice a l.length c], Ch.blk g2 3 [Value.int IntKind.i64 x]]) (fun g2 => []) (fun g2 => by kernel_rfl) (fun g2 => by kernel_rfl) (fun g2 => trivial) fun g2 => ?_
  refine wpr_new (l₂ := [3]) true [2] [] (fun g3 => [(4, Value.pointer (some { block := g3, off := 0 })), (3, Value.pointer (some { block := g2, off := 0 })), (2, Value.pointer (some { block := g1, off := 0 }))]) (fun g3 => [ro a (ints l), Ch.blk g1 24 [Value.int IntKind.i64 H, Value.slice a l.length c], Ch.blk g2 3 [Value.int IntKind.i64 x], Ch.blk g3 24 [Value.int IntKind.i64 0, Value.slice none 0 0]]) (fun g3 => []) (fun g3 => by kernel_rfl) (fun g3 => by kernel_rfl) (fun g3 => trivial) fun g3 => ?_
  refine wpr_run (l₂ := []) true [3] [] [(5, Value.int IntKind.i64 0), (4, Value.pointer (some { block := g3, off := 0 })), (3, Value.pointer (some { block := g2, off := 0 })), (2, Value.pointer (some { block := g1, off := 0 }))] [ro a (ints l), Ch.blk g1 24 [Value.int IntKind.i64 H, Value.slice a l.length c], Ch.blk g2 3 [Value.int IntKind.i64 x], Ch.blk g3 24 [Value.int IntKind.i64 0, Value.slice none 0 0]] [] (by kernel_rfl) (by kernel_rfl) trivial ?_
  refine wpr_nil ?_
  refine nx_then ?_
  refine wpc_seq ?_
  refine wpc_region [0, 1, 2, 3, 4, 5, 6, 7] (by kernel_rfl) ?_
  refine wpr_run (l₂ := [3, 4, 5, 6, 7]) true [0, 1, 2] [1, 1, 2] [(8, Value.func (Fn.func 25) #[] #[Value.pointer (some { block := g2, off := 0 })]), (7, Value.int IntKind.i64 x), (6, Value.agg #[Value.int IntKind.i64 H, Value.slice a l.length c]), (5, Value.int IntKind.i64 0), (4, Value.pointer (some { block := g3, off := 0 }))] [ro a (ints l), Ch.blk g1 24 [Value.int IntKind.i64 H, Value.slice a l.length c], Ch.blk g2 3 [Value.int IntKind.i64 x], Ch.blk g3 24 [Value.int IntKind.i64 0, Value.slice none 0 0]] [] (by kernel_rfl) (by kernel_rfl) trivial ?_
  refine wpr_call (dst := some 9) (rest := [ro a (ints l), Ch.blk g1 24 [Value.int IntKind.i64 H, Value.slice a l.length c], Ch.blk g3 24 [Value.int IntKind.i64 0, Value.slice none 0 0]]) (by kernel_rfl) (ask_spec 25 g2 x (dReq x) (doReq g2 x) H a c l x ha hl hc) (Give.reorder (Give.view (c := (ro a (ints l))) (give (pre := [Ch.blk g2 3 [Value.int IntKind.i64 x]]) (rest := [ro a (ints l), Ch.blk g1 24 [Value.int IntKind.i64 H, Value.slice a l.length c], Ch.blk g3 24 [Value.int IntKind.i64 0, Value.slice none 0 0]]) [2] (by kernel_rfl)) 0 (by kernel_rfl) view_ro) [1, 0] (by kernel_rfl)) ?_
  rintro v hp' ⟨a1, c1, rfl, rfl⟩
  rw [hE]
  unfold fl
  refine wpr_run (l₂ := []) true [4, 5, 6, 7] [4, 4] [(5, Value.int IntKind.i64 (req H l x).fst), (4, Value.pointer (some { block := g3, off := 0 }))] [row 3 1 a1 (req H l x).snd.snd.length c1 (ints (req H l x).snd.snd), Ch.blk g2 3 [Value.int IntKind.i64 x], ro a (ints l), Ch.blk g1 24 [Value.int IntKind.i64 H, Value.slice a l.length c], Ch.blk g3 24 [Value.int IntKind.i64 (req H l x).snd.fst, Value.slice a1 (req H l x).snd.snd.length c1]] [] (by kernel_rfl) (by kernel_rfl) trivial ?_
  refine wpr_nil ?_
  refine nx_then ?_
  refine wpc_ret ?_
  refine nx_end (hp' := [row 3 1 a1 (req H l x).snd.snd.length c1 (ints (req H l x).snd.snd)]) (rest := [Ch.blk g2 3 [Value.int IntKind.i64 x], ro a (ints l), Ch.blk g1 24 [Value.int IntKind.i64 H, Value.slice a l.length c], Ch.blk g3 24 [Value.int IntKind.i64 (req H l x).snd.fst, Value.slice a1 (req H l x).snd.snd.length c1]]) [4, 4] ((Value.tuple #[Value.agg #[Value.int IntKind.i64 (req H l x).snd.fst, Value.slice a1 (req H l x).snd.snd.length c1], Value.int IntKind.i64 (req H l x).fst])) (by kernel_rfl) (by kernel_rfl) (give [0] (by kernel_rfl)) (by first | ((repeat (first | exact trivial | refine ⟨trivial, ?_⟩)); done) | assumption) ?_ (.inr rfl)
  exact ⟨a1, c1, rfl, rfl⟩

theorem Grant_spec (H : Int) (a : Option Addr) (c : Nat) (l : List Int) (x : Int) (ha : a = none → l = []) (hl : l.length ≤ 1099511627776) (hc : l.length ≤ c) :
    Does Try.prog 11 [fl H a l.length c, .int .i64 x] [ro a (ints l)]
      (fun r hp' => ∃ a' c', r = .tuple #[fl (grant H l x).2.1 a' (grant H l x).2.2.length c', .int .i64 (grant H l x).1] ∧ hp' = [row 3 1 a' (grant H l x).2.2.length c' (ints (grant H l x).2.2)]) := by
  have hE : askW (dGrant x) H l x = grant H l x := by
    unfold askW grant dGrant
    by_cases hb : bad H l x ≠ 0
    · rw [if_pos hb, if_pos hb]
    · rw [if_neg hb, if_neg hb]
      repeat' split
      all_goals first | rfl | simp_all
  refine fn_enter Try.func11 rfl 12 rfl fun w0 h0 => ?_
  refine wpc_seq ?_
  refine wpc_region [0, 1, 2, 3] (by kernel_rfl) ?_
  refine wpr_new (l₂ := [1, 2, 3]) true [0] [] (fun g1 => [(2, Value.pointer (some { block := g1, off := 0 })), (1, Value.int IntKind.i64 x)]) (fun g1 => [ro a (ints l), Ch.blk g1 24 [Value.int IntKind.i64 H, Value.slice a l.length c]]) (fun g1 => []) (fun g1 => by kernel_rfl) (fun g1 => by kernel_rfl) (fun g1 => trivial) fun g1 => ?_
  refine wpr_new (l₂ := [2, 3]) true [1] [] (fun g2 => [(3, Value.pointer (some { block := g2, off := 0 })), (2, Value.pointer (some { block := g1, off := 0 }))]) (fun g2 => [ro a (ints l), Ch.blk g1 24 [Value.int IntKind.i64 H, Value.slice a l.length c], Ch.blk g2 3 [Value.int IntKind.i64 x]]) (fun g2 => []) (fun g2 => by kernel_rfl) (fun g2 => by kernel_rfl) (fun g2 => trivial) fun g2 => ?_
  refine wpr_new (l₂ := [3]) true [2] [] (fun g3 => [(4, Value.pointer (some { block := g3, off := 0 })), (3, Value.pointer (some { block := g2, off := 0 })), (2, Value.pointer (some { block := g1, off := 0 }))]) (fun g3 => [ro a (ints l), Ch.blk g1 24 [Value.int IntKind.i64 H, Value.slice a l.length c], Ch.blk g2 3 [Value.int IntKind.i64 x], Ch.blk g3 24 [Value.int IntKind.i64 0, Value.slice none 0 0]]) (fun g3 => []) (fun g3 => by kernel_rfl) (fun g3 => by kernel_rfl) (fun g3 => trivial) fun g3 => ?_
  refine wpr_run (l₂ := []) true [3] [] [(5, Value.int IntKind.i64 0), (4, Value.pointer (some { block := g3, off := 0 })), (3, Value.pointer (some { block := g2, off := 0 })), (2, Value.pointer (some { block := g1, off := 0 }))] [ro a (ints l), Ch.blk g1 24 [Value.int IntKind.i64 H, Value.slice a l.length c], Ch.blk g2 3 [Value.int IntKind.i64 x], Ch.blk g3 24 [Value.int IntKind.i64 0, Value.slice none 0 0]] [] (by kernel_rfl) (by kernel_rfl) trivial ?_
  refine wpr_nil ?_
  refine nx_then ?_
  refine wpc_seq ?_
  refine wpc_region [0, 1, 2, 3, 4, 5, 6, 7] (by kernel_rfl) ?_
  refine wpr_run (l₂ := [3, 4, 5, 6, 7]) true [0, 1, 2] [1, 1, 2] [(8, Value.func (Fn.func 30) #[] #[Value.pointer (some { block := g2, off := 0 })]), (7, Value.int IntKind.i64 x), (6, Value.agg #[Value.int IntKind.i64 H, Value.slice a l.length c]), (5, Value.int IntKind.i64 0), (4, Value.pointer (some { block := g3, off := 0 }))] [ro a (ints l), Ch.blk g1 24 [Value.int IntKind.i64 H, Value.slice a l.length c], Ch.blk g2 3 [Value.int IntKind.i64 x], Ch.blk g3 24 [Value.int IntKind.i64 0, Value.slice none 0 0]] [] (by kernel_rfl) (by kernel_rfl) trivial ?_
  refine wpr_call (dst := some 9) (rest := [ro a (ints l), Ch.blk g1 24 [Value.int IntKind.i64 H, Value.slice a l.length c], Ch.blk g3 24 [Value.int IntKind.i64 0, Value.slice none 0 0]]) (by kernel_rfl) (ask_spec 30 g2 x (dGrant x) (doGrant g2 x) H a c l x ha hl hc) (Give.reorder (Give.view (c := (ro a (ints l))) (give (pre := [Ch.blk g2 3 [Value.int IntKind.i64 x]]) (rest := [ro a (ints l), Ch.blk g1 24 [Value.int IntKind.i64 H, Value.slice a l.length c], Ch.blk g3 24 [Value.int IntKind.i64 0, Value.slice none 0 0]]) [2] (by kernel_rfl)) 0 (by kernel_rfl) view_ro) [1, 0] (by kernel_rfl)) ?_
  rintro v hp' ⟨a1, c1, rfl, rfl⟩
  rw [hE]
  unfold fl
  refine wpr_run (l₂ := []) true [4, 5, 6, 7] [4, 4] [(5, Value.int IntKind.i64 (grant H l x).fst), (4, Value.pointer (some { block := g3, off := 0 }))] [row 3 1 a1 (grant H l x).snd.snd.length c1 (ints (grant H l x).snd.snd), Ch.blk g2 3 [Value.int IntKind.i64 x], ro a (ints l), Ch.blk g1 24 [Value.int IntKind.i64 H, Value.slice a l.length c], Ch.blk g3 24 [Value.int IntKind.i64 (grant H l x).snd.fst, Value.slice a1 (grant H l x).snd.snd.length c1]] [] (by kernel_rfl) (by kernel_rfl) trivial ?_
  refine wpr_nil ?_
  refine nx_then ?_
  refine wpc_ret ?_
  refine nx_end (hp' := [row 3 1 a1 (grant H l x).snd.snd.length c1 (ints (grant H l x).snd.snd)]) (rest := [Ch.blk g2 3 [Value.int IntKind.i64 x], ro a (ints l), Ch.blk g1 24 [Value.int IntKind.i64 H, Value.slice a l.length c], Ch.blk g3 24 [Value.int IntKind.i64 (grant H l x).snd.fst, Value.slice a1 (grant H l x).snd.snd.length c1]]) [4, 4] ((Value.tuple #[Value.agg #[Value.int IntKind.i64 (grant H l x).snd.fst, Value.slice a1 (grant H l x).snd.snd.length c1], Value.int IntKind.i64 (grant H l x).fst])) (by kernel_rfl) (by kernel_rfl) (give [0] (by kernel_rfl)) (by first | ((repeat (first | exact trivial | refine ⟨trivial, ?_⟩)); done) | assumption) ?_ (.inr rfl)
  exact ⟨a1, c1, rfl, rfl⟩

theorem Release_spec (H : Int) (a : Option Addr) (c : Nat) (l : List Int) (x : Int) (ha : a = none → l = []) (hl : l.length ≤ 1099511627776) (hc : l.length ≤ c) :
    Does Try.prog 18 [fl H a l.length c, .int .i64 x] [ro a (ints l)]
      (fun r hp' => ∃ a' c', r = .tuple #[fl (release H l x).2.1 a' (release H l x).2.2.length c', .int .i64 (release H l x).1] ∧ hp' = [row 3 1 a' (release H l x).2.2.length c' (ints (release H l x).2.2)]) := by
  have hE : askW (dRelease x) H l x = release H l x := by
    unfold askW release dRelease
    by_cases hb : bad H l x ≠ 0
    · rw [if_pos hb, if_pos hb]
    · rw [if_neg hb, if_neg hb]
      repeat' split
      all_goals first | rfl | simp_all
  refine fn_enter Try.func18 rfl 12 rfl fun w0 h0 => ?_
  refine wpc_seq ?_
  refine wpc_region [0, 1, 2, 3] (by kernel_rfl) ?_
  refine wpr_new (l₂ := [1, 2, 3]) true [0] [] (fun g1 => [(2, Value.pointer (some { block := g1, off := 0 })), (1, Value.int IntKind.i64 x)]) (fun g1 => [ro a (ints l), Ch.blk g1 24 [Value.int IntKind.i64 H, Value.slice a l.length c]]) (fun g1 => []) (fun g1 => by kernel_rfl) (fun g1 => by kernel_rfl) (fun g1 => trivial) fun g1 => ?_
  refine wpr_new (l₂ := [2, 3]) true [1] [] (fun g2 => [(3, Value.pointer (some { block := g2, off := 0 })), (2, Value.pointer (some { block := g1, off := 0 }))]) (fun g2 => [ro a (ints l), Ch.blk g1 24 [Value.int IntKind.i64 H, Value.slice a l.length c], Ch.blk g2 3 [Value.int IntKind.i64 x]]) (fun g2 => []) (fun g2 => by kernel_rfl) (fun g2 => by kernel_rfl) (fun g2 => trivial) fun g2 => ?_
  refine wpr_new (l₂ := [3]) true [2] [] (fun g3 => [(4, Value.pointer (some { block := g3, off := 0 })), (3, Value.pointer (some { block := g2, off := 0 })), (2, Value.pointer (some { block := g1, off := 0 }))]) (fun g3 => [ro a (ints l), Ch.blk g1 24 [Value.int IntKind.i64 H, Value.slice a l.length c], Ch.blk g2 3 [Value.int IntKind.i64 x], Ch.blk g3 24 [Value.int IntKind.i64 0, Value.slice none 0 0]]) (fun g3 => []) (fun g3 => by kernel_rfl) (fun g3 => by kernel_rfl) (fun g3 => trivial) fun g3 => ?_
  refine wpr_run (l₂ := []) true [3] [] [(5, Value.int IntKind.i64 0), (4, Value.pointer (some { block := g3, off := 0 })), (3, Value.pointer (some { block := g2, off := 0 })), (2, Value.pointer (some { block := g1, off := 0 }))] [ro a (ints l), Ch.blk g1 24 [Value.int IntKind.i64 H, Value.slice a l.length c], Ch.blk g2 3 [Value.int IntKind.i64 x], Ch.blk g3 24 [Value.int IntKind.i64 0, Value.slice none 0 0]] [] (by kernel_rfl) (by kernel_rfl) trivial ?_
  refine wpr_nil ?_
  refine nx_then ?_
  refine wpc_seq ?_
  refine wpc_region [0, 1, 2, 3, 4, 5, 6, 7] (by kernel_rfl) ?_
  refine wpr_run (l₂ := [3, 4, 5, 6, 7]) true [0, 1, 2] [1, 1, 2] [(8, Value.func (Fn.func 34) #[] #[Value.pointer (some { block := g2, off := 0 })]), (7, Value.int IntKind.i64 x), (6, Value.agg #[Value.int IntKind.i64 H, Value.slice a l.length c]), (5, Value.int IntKind.i64 0), (4, Value.pointer (some { block := g3, off := 0 }))] [ro a (ints l), Ch.blk g1 24 [Value.int IntKind.i64 H, Value.slice a l.length c], Ch.blk g2 3 [Value.int IntKind.i64 x], Ch.blk g3 24 [Value.int IntKind.i64 0, Value.slice none 0 0]] [] (by kernel_rfl) (by kernel_rfl) trivial ?_
  refine wpr_call (dst := some 9) (rest := [ro a (ints l), Ch.blk g1 24 [Value.int IntKind.i64 H, Value.slice a l.length c], Ch.blk g3 24 [Value.int IntKind.i64 0, Value.slice none 0 0]]) (by kernel_rfl) (ask_spec 34 g2 x (dRelease x) (doRelease g2 x) H a c l x ha hl hc) (Give.reorder (Give.view (c := (ro a (ints l))) (give (pre := [Ch.blk g2 3 [Value.int IntKind.i64 x]]) (rest := [ro a (ints l), Ch.blk g1 24 [Value.int IntKind.i64 H, Value.slice a l.length c], Ch.blk g3 24 [Value.int IntKind.i64 0, Value.slice none 0 0]]) [2] (by kernel_rfl)) 0 (by kernel_rfl) view_ro) [1, 0] (by kernel_rfl)) ?_
  rintro v hp' ⟨a1, c1, rfl, rfl⟩
  rw [hE]
  unfold fl
  refine wpr_run (l₂ := []) true [4, 5, 6, 7] [4, 4] [(5, Value.int IntKind.i64 (release H l x).fst), (4, Value.pointer (some { block := g3, off := 0 }))] [row 3 1 a1 (release H l x).snd.snd.length c1 (ints (release H l x).snd.snd), Ch.blk g2 3 [Value.int IntKind.i64 x], ro a (ints l), Ch.blk g1 24 [Value.int IntKind.i64 H, Value.slice a l.length c], Ch.blk g3 24 [Value.int IntKind.i64 (release H l x).snd.fst, Value.slice a1 (release H l x).snd.snd.length c1]] [] (by kernel_rfl) (by kernel_rfl) trivial ?_
  refine wpr_nil ?_
  refine nx_then ?_
  refine wpc_ret ?_
  refine nx_end (hp' := [row 3 1 a1 (release H l x).snd.snd.length c1 (ints (release H l x).snd.snd)]) (rest := [Ch.blk g2 3 [Value.int IntKind.i64 x], ro a (ints l), Ch.blk g1 24 [Value.int IntKind.i64 H, Value.slice a l.length c], Ch.blk g3 24 [Value.int IntKind.i64 (release H l x).snd.fst, Value.slice a1 (release H l x).snd.snd.length c1]]) [4, 4] ((Value.tuple #[Value.agg #[Value.int IntKind.i64 (release H l x).snd.fst, Value.slice a1 (release H l x).snd.snd.length c1], Value.int IntKind.i64 (release H l x).fst])) (by kernel_rfl) (by kernel_rfl) (give [0] (by kernel_rfl)) (by first | ((repeat (first | exact trivial | refine ⟨trivial, ?_⟩)); done) | assumption) ?_ (.inr rfl)
  exact ⟨a1, c1, rfl, rfl⟩

theorem Leave_spec (H : Int) (a : Option Addr) (c : Nat) (l : List Int) (x : Int) (ha : a = none → l = []) (hl : l.length ≤ 1099511627776) (hc : l.length ≤ c) :
    Does Try.prog 20 [fl H a l.length c, .int .i64 x] [ro a (ints l)]
      (fun r hp' => ∃ a' c', r = .tuple #[fl (leave H l x).2.1 a' (leave H l x).2.2.length c', .int .i64 (leave H l x).1] ∧ hp' = [row 3 1 a' (leave H l x).2.2.length c' (ints (leave H l x).2.2)]) := by
  have hE : askW (dLeave x) H l x = leave H l x := by
    unfold askW leave dLeave
    by_cases hb : bad H l x ≠ 0
    · rw [if_pos hb, if_pos hb]
    · rw [if_neg hb, if_neg hb]
      repeat' split
      all_goals first | rfl | simp_all
  refine fn_enter Try.func20 rfl 12 rfl fun w0 h0 => ?_
  refine wpc_seq ?_
  refine wpc_region [0, 1, 2, 3] (by kernel_rfl) ?_
  refine wpr_new (l₂ := [1, 2, 3]) true [0] [] (fun g1 => [(2, Value.pointer (some { block := g1, off := 0 })), (1, Value.int IntKind.i64 x)]) (fun g1 => [ro a (ints l), Ch.blk g1 24 [Value.int IntKind.i64 H, Value.slice a l.length c]]) (fun g1 => []) (fun g1 => by kernel_rfl) (fun g1 => by kernel_rfl) (fun g1 => trivial) fun g1 => ?_
  refine wpr_new (l₂ := [2, 3]) true [1] [] (fun g2 => [(3, Value.pointer (some { block := g2, off := 0 })), (2, Value.pointer (some { block := g1, off := 0 }))]) (fun g2 => [ro a (ints l), Ch.blk g1 24 [Value.int IntKind.i64 H, Value.slice a l.length c], Ch.blk g2 3 [Value.int IntKind.i64 x]]) (fun g2 => []) (fun g2 => by kernel_rfl) (fun g2 => by kernel_rfl) (fun g2 => trivial) fun g2 => ?_
  refine wpr_new (l₂ := [3]) true [2] [] (fun g3 => [(4, Value.pointer (some { block := g3, off := 0 })), (3, Value.pointer (some { block := g2, off := 0 })), (2, Value.pointer (some { block := g1, off := 0 }))]) (fun g3 => [ro a (ints l), Ch.blk g1 24 [Value.int IntKind.i64 H, Value.slice a l.length c], Ch.blk g2 3 [Value.int IntKind.i64 x], Ch.blk g3 24 [Value.int IntKind.i64 0, Value.slice none 0 0]]) (fun g3 => []) (fun g3 => by kernel_rfl) (fun g3 => by kernel_rfl) (fun g3 => trivial) fun g3 => ?_
  refine wpr_run (l₂ := []) true [3] [] [(5, Value.int IntKind.i64 0), (4, Value.pointer (some { block := g3, off := 0 })), (3, Value.pointer (some { block := g2, off := 0 })), (2, Value.pointer (some { block := g1, off := 0 }))] [ro a (ints l), Ch.blk g1 24 [Value.int IntKind.i64 H, Value.slice a l.length c], Ch.blk g2 3 [Value.int IntKind.i64 x], Ch.blk g3 24 [Value.int IntKind.i64 0, Value.slice none 0 0]] [] (by kernel_rfl) (by kernel_rfl) trivial ?_
  refine wpr_nil ?_
  refine nx_then ?_
  refine wpc_seq ?_
  refine wpc_region [0, 1, 2, 3, 4, 5, 6, 7] (by kernel_rfl) ?_
  refine wpr_run (l₂ := [3, 4, 5, 6, 7]) true [0, 1, 2] [1, 1, 2] [(8, Value.func (Fn.func 35) #[] #[Value.pointer (some { block := g2, off := 0 })]), (7, Value.int IntKind.i64 x), (6, Value.agg #[Value.int IntKind.i64 H, Value.slice a l.length c]), (5, Value.int IntKind.i64 0), (4, Value.pointer (some { block := g3, off := 0 }))] [ro a (ints l), Ch.blk g1 24 [Value.int IntKind.i64 H, Value.slice a l.length c], Ch.blk g2 3 [Value.int IntKind.i64 x], Ch.blk g3 24 [Value.int IntKind.i64 0, Value.slice none 0 0]] [] (by kernel_rfl) (by kernel_rfl) trivial ?_
  refine wpr_call (dst := some 9) (rest := [ro a (ints l), Ch.blk g1 24 [Value.int IntKind.i64 H, Value.slice a l.length c], Ch.blk g3 24 [Value.int IntKind.i64 0, Value.slice none 0 0]]) (by kernel_rfl) (ask_spec 35 g2 x (dLeave x) (doLeave g2 x) H a c l x ha hl hc) (Give.reorder (Give.view (c := (ro a (ints l))) (give (pre := [Ch.blk g2 3 [Value.int IntKind.i64 x]]) (rest := [ro a (ints l), Ch.blk g1 24 [Value.int IntKind.i64 H, Value.slice a l.length c], Ch.blk g3 24 [Value.int IntKind.i64 0, Value.slice none 0 0]]) [2] (by kernel_rfl)) 0 (by kernel_rfl) view_ro) [1, 0] (by kernel_rfl)) ?_
  rintro v hp' ⟨a1, c1, rfl, rfl⟩
  rw [hE]
  unfold fl
  refine wpr_run (l₂ := []) true [4, 5, 6, 7] [4, 4] [(5, Value.int IntKind.i64 (leave H l x).fst), (4, Value.pointer (some { block := g3, off := 0 }))] [row 3 1 a1 (leave H l x).snd.snd.length c1 (ints (leave H l x).snd.snd), Ch.blk g2 3 [Value.int IntKind.i64 x], ro a (ints l), Ch.blk g1 24 [Value.int IntKind.i64 H, Value.slice a l.length c], Ch.blk g3 24 [Value.int IntKind.i64 (leave H l x).snd.fst, Value.slice a1 (leave H l x).snd.snd.length c1]] [] (by kernel_rfl) (by kernel_rfl) trivial ?_
  refine wpr_nil ?_
  refine nx_then ?_
  refine wpc_ret ?_
  refine nx_end (hp' := [row 3 1 a1 (leave H l x).snd.snd.length c1 (ints (leave H l x).snd.snd)]) (rest := [Ch.blk g2 3 [Value.int IntKind.i64 x], ro a (ints l), Ch.blk g1 24 [Value.int IntKind.i64 H, Value.slice a l.length c], Ch.blk g3 24 [Value.int IntKind.i64 (leave H l x).snd.fst, Value.slice a1 (leave H l x).snd.snd.length c1]]) [4, 4] ((Value.tuple #[Value.agg #[Value.int IntKind.i64 (leave H l x).snd.fst, Value.slice a1 (leave H l x).snd.snd.length c1], Value.int IntKind.i64 (leave H l x).fst])) (by kernel_rfl) (by kernel_rfl) (give [0] (by kernel_rfl)) (by first | ((repeat (first | exact trivial | refine ⟨trivial, ?_⟩)); done) | assumption) ?_ (.inr rfl)
  exact ⟨a1, c1, rfl, rfl⟩

theorem Revoke_spec (H : Int) (a : Option Addr) (c : Nat) (l : List Int) (ha : a = none → l = []) (hl : l.length ≤ 1099511627776) (hc : l.length ≤ c) :
    Does Try.prog 13 [fl H a l.length c] [ro a (ints l)]
      (fun r hp' => ∃ a' c', r = .tuple #[fl (revoke H l).2.1 a' (revoke H l).2.2.length c', .int .i64 (revoke H l).1] ∧ hp' = [row 3 1 a' (revoke H l).2.2.length c' (ints (revoke H l).2.2)]) := by
  have hE : askW dRevoke H l 1 = revoke H l := by
    unfold askW revoke dRevoke
    by_cases hb : bad H l 1 ≠ 0
    · rw [if_pos hb, if_pos hb]
    · rw [if_neg hb, if_neg hb]
      repeat' split
      all_goals first | rfl | simp_all
  refine fn_enter Try.func13 rfl 8 rfl fun w0 h0 => ?_
  refine wpc_seq ?_
  refine wpc_region [0, 1, 2] (by kernel_rfl) ?_
  refine wpr_new (l₂ := [1, 2]) true [0] [] (fun g1 => [(1, Value.pointer (some { block := g1, off := 0 }))]) (fun g1 => [ro a (ints l), Ch.blk g1 24 [Value.int IntKind.i64 H, Value.slice a l.length c]]) (fun g1 => []) (fun g1 => by kernel_rfl) (fun g1 => by kernel_rfl) (fun g1 => trivial) fun g1 => ?_
  refine wpr_new (l₂ := [2]) true [1] [] (fun g2 => [(2, Value.pointer (some { block := g2, off := 0 })), (1, Value.pointer (some { block := g1, off := 0 }))]) (fun g2 => [ro a (ints l), Ch.blk g1 24 [Value.int IntKind.i64 H, Value.slice a l.length c], Ch.blk g2 24 [Value.int IntKind.i64 0, Value.slice none 0 0]]) (fun g2 => []) (fun g2 => by kernel_rfl) (fun g2 => by kernel_rfl) (fun g2 => trivial) fun g2 => ?_
  refine wpr_run (l₂ := []) true [2] [] [(3, Value.int IntKind.i64 0), (2, Value.pointer (some { block := g2, off := 0 })), (1, Value.pointer (some { block := g1, off := 0 }))] [ro a (ints l), Ch.blk g1 24 [Value.int IntKind.i64 H, Value.slice a l.length c], Ch.blk g2 24 [Value.int IntKind.i64 0, Value.slice none 0 0]] [] (by kernel_rfl) (by kernel_rfl) trivial ?_
  refine wpr_nil ?_
  refine nx_then ?_
  refine wpc_seq ?_
  refine wpc_region [0, 1, 2, 3, 4, 5] (by kernel_rfl) ?_
  refine wpr_run (l₂ := [1, 2, 3, 4, 5]) true [0] [1, 1] [(4, Value.agg #[Value.int IntKind.i64 H, Value.slice a l.length c]), (3, Value.int IntKind.i64 0), (2, Value.pointer (some { block := g2, off := 0 }))] [ro a (ints l), Ch.blk g1 24 [Value.int IntKind.i64 H, Value.slice a l.length c], Ch.blk g2 24 [Value.int IntKind.i64 0, Value.slice none 0 0]] [] (by kernel_rfl) (by kernel_rfl) trivial ?_
  refine wpr_call (dst := some 5) (rest := [ro a (ints l), Ch.blk g1 24 [Value.int IntKind.i64 H, Value.slice a l.length c], Ch.blk g2 24 [Value.int IntKind.i64 0, Value.slice none 0 0]]) (by kernel_rfl) (ask0_spec 32 dRevoke doRevoke H a c l 1 ha hl hc) (Give.view (c := (ro a (ints l))) (give (pre := []) (rest := [ro a (ints l), Ch.blk g1 24 [Value.int IntKind.i64 H, Value.slice a l.length c], Ch.blk g2 24 [Value.int IntKind.i64 0, Value.slice none 0 0]]) [] (by kernel_rfl)) 0 (by kernel_rfl) view_ro) ?_
  rintro v hp' ⟨a1, c1, rfl, rfl⟩
  rw [hE]
  unfold fl
  refine wpr_run (l₂ := []) true [2, 3, 4, 5] [3, 3] [(3, Value.int IntKind.i64 (revoke H l).fst), (2, Value.pointer (some { block := g2, off := 0 }))] [row 3 1 a1 (revoke H l).snd.snd.length c1 (ints (revoke H l).snd.snd), ro a (ints l), Ch.blk g1 24 [Value.int IntKind.i64 H, Value.slice a l.length c], Ch.blk g2 24 [Value.int IntKind.i64 (revoke H l).snd.fst, Value.slice a1 (revoke H l).snd.snd.length c1]] [] (by kernel_rfl) (by kernel_rfl) trivial ?_
  refine wpr_nil ?_
  refine nx_then ?_
  refine wpc_ret ?_
  refine nx_end (hp' := [row 3 1 a1 (revoke H l).snd.snd.length c1 (ints (revoke H l).snd.snd)]) (rest := [ro a (ints l), Ch.blk g1 24 [Value.int IntKind.i64 H, Value.slice a l.length c], Ch.blk g2 24 [Value.int IntKind.i64 (revoke H l).snd.fst, Value.slice a1 (revoke H l).snd.snd.length c1]]) [3, 3] ((Value.tuple #[Value.agg #[Value.int IntKind.i64 (revoke H l).snd.fst, Value.slice a1 (revoke H l).snd.snd.length c1], Value.int IntKind.i64 (revoke H l).fst])) (by kernel_rfl) (by kernel_rfl) (give [0] (by kernel_rfl)) (by first | ((repeat (first | exact trivial | refine ⟨trivial, ?_⟩)); done) | assumption) ?_ (.inr rfl)
  exact ⟨a1, c1, rfl, rfl⟩
end Go.Proofs.Ytoagfnobfbfdfaa
