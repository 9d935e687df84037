import Derived.Test.YtolmjhhldbnkdaaProg
import Derived.Test.YtolmjhhldbnkdaaX8
namespace Go.Proofs.Ytolmjhhldbnkdaa
open Go Go.Sx
set_option linter.unusedVariables false
set_option linter.unusedSimpArgs false

/-- The block of a disk. -/
def dblk (d : Nat) (a : Option Addr) (n c : Nat) (s : Int) : Ch := .blk d 46 [.bool true, .slice a n c, .int .i64 s]
/-- A box. -/
def box (t T : Nat) (v : Value) : Ch := .blk t T [v]
def ptr (t : Nat) : Value := .pointer (some ⟨t, 0, none⟩)

theorem New_spec : Does Try.prog 7 [] [] (fun v hp' => ∃ g, v = .pointer (some ⟨g,0,none⟩) ∧ hp' = [dblk g none 0 0 0]) := by
  refine fn_enter Try.func7 rfl 3 rfl fun w0 _ => ?_
  refine wpc_seq ?_
  refine wpc_region [0] (by kernel_rfl) ?_
  refine wpr_run (l₂ := []) true [0] [] [(0, Value.pointer none)] [] [] (by kernel_rfl) (by kernel_rfl) trivial ?_
  refine wpr_nil ?_
  refine nx_then ?_
  refine wpc_seq ?_
  refine wpc_region [0, 1, 2] (by kernel_rfl) ?_
  refine wpr_new (l₂ := [2]) true [0, 1] [] (fun g1 => [(2, Value.pointer (some { block := g1, off := 0 })), (0, Value.pointer none)]) (fun g1 => [Ch.blk g1 46 [Value.bool true, Value.slice none 0 0, Value.int IntKind.i64 0]]) (fun g1 => []) (fun g1 => by kernel_rfl) (fun g1 => by kernel_rfl) (fun g1 => trivial) fun g1 => ?_
  refine wpr_run (l₂ := []) true [2] [] [(0, Value.pointer (some { block := g1, off := 0 }))] [Ch.blk g1 46 [Value.bool true, Value.slice none 0 0, Value.int IntKind.i64 0]] [] (by kernel_rfl) (by kernel_rfl) trivial ?_
  refine wpr_nil ?_
  refine nx_then ?_
  refine wpc_ret ?_
  refine nx_end (hp' := [Ch.blk g1 46 [Value.bool true, Value.slice none 0 0, Value.int IntKind.i64 0]]) (rest := []) [] ((Value.pointer (some { block := g1, off := 0 }))) (by kernel_rfl) (by kernel_rfl) give_all (by first | ((repeat (first | exact trivial | refine ⟨trivial, ?_⟩)); done) | assumption) ?_ (.inr rfl)
  exact ⟨_, rfl, rfl⟩

theorem with22 (d : Nat) (a : Option Addr) (n c : Nat) (s : Int) (t0 t1 : Nat) (pre : Hp) (R : Hp → Prop) (hrw : ∀ hp', R hp' → AllRw hp')
    (h : Does Try.prog 22 [.pointer (some ⟨t0, 0, none⟩), .pointer (some ⟨t1, 0, none⟩)] (dblk d a n c s :: pre) (fun v hp' => v = .tuple #[] ∧ R hp')) :
    Does Try.prog 21 [.pointer (some ⟨d, 0, none⟩), .func (.func 22) #[] #[.pointer (some ⟨t0, 0, none⟩), .pointer (some ⟨t1, 0, none⟩)]] (dblk d a n c s :: pre) (fun v hp' => v = .int .i64 0 ∧ R hp') := by
  refine fn_enter Try.func21 rfl 16 rfl fun w0 _ => ?_
  unfold dblk
  refine wpc_seq ?_
  refine wpc_region [0] (by kernel_rfl) ?_
  refine wpr_run (l₂ := []) true [0] [] [(4, Value.int IntKind.i64 0), (0, Value.pointer (some { block := d, off := 0 })), (1, Value.func (Fn.func 22) #[] #[Value.pointer (some { block := t0, off := 0 }), Value.pointer (some { block := t1, off := 0 })])] (Ch.blk d 46 [Value.bool true, Value.slice a n c, Value.int IntKind.i64 s] :: pre) [] (by kernel_rfl) (by kernel_rfl) trivial ?_
  refine wpr_nil ?_
  refine nx_then ?_
  refine wpc_seq ?_
  refine wpc_seq ?_
  refine wpc_region [0, 1, 2, 3, 4, 5, 6, 7, 8] (by kernel_rfl) ?_
  refine wpr_run (l₂ := []) true [0, 1, 2, 3, 4, 5, 6, 7, 8] [0] [(13, Value.bool false), (4, Value.int IntKind.i64 0), (1, Value.func (Fn.func 22) #[] #[Value.pointer (some { block := t0, off := 0 }), Value.pointer (some { block := t1, off := 0 })])] (Ch.blk d 46 [Value.bool true, Value.slice a n c, Value.int IntKind.i64 s] :: pre) [] (by kernel_rfl) (by kernel_rfl) trivial ?_
  refine wpr_nil ?_
  refine nx_then ?_
  refine wpc_false (by kernel_rfl) ?_
  refine wpc_skip ?_
  refine nx_then ?_
  refine wpc_seq ?_
  refine wpc_region [0, 1] (by kernel_rfl) ?_
  refine wpr_run (l₂ := [1]) true [0] [] [(14, Value.func (Fn.func 22) #[] #[Value.pointer (some { block := t0, off := 0 }), Value.pointer (some { block := t1, off := 0 })]), (4, Value.int IntKind.i64 0)] (Ch.blk d 46 [Value.bool true, Value.slice a n c, Value.int IntKind.i64 s] :: pre) [] (by kernel_rfl) (by kernel_rfl) trivial ?_
  refine wpr_call_all (dst := some 15) (by kernel_rfl) (h) give_all ?_
  rintro v hp' ⟨rfl, hR⟩
  have hall := hrw _ hR
  refine wpr_nil ?_
  refine nx_then ?_
  refine wpc_seq ?_
  refine wpc_region [0] (by kernel_rfl) ?_
  refine wpr_run (l₂ := []) true [0] [] [(4, Value.int IntKind.i64 0)] (hp') [] (by kernel_rfl) (by kernel_rfl) trivial ?_
  refine wpr_nil ?_
  refine nx_then ?_
  refine wpc_ret ?_
  refine nx_end (hp' := (hp')) (rest := []) [] ((Value.int IntKind.i64 0)) (by kernel_rfl) (by kernel_rfl) give_all (by first | ((repeat (first | exact trivial | refine ⟨trivial, ?_⟩)); done) | assumption) ?_ (.inr rfl)
  exact ⟨rfl, hR⟩
theorem with22_nil (t0 t1 : Nat) :
    Does Try.prog 21 [.pointer none, .func (.func 22) #[] #[.pointer (some ⟨t0, 0, none⟩), .pointer (some ⟨t1, 0, none⟩)]] [] (fun v hp' => v = .int .i64 1 ∧ hp' = []) := by
  refine fn_enter Try.func21 rfl 16 rfl fun w0 _ => ?_
  refine wpc_seq ?_
  refine wpc_region [0] (by kernel_rfl) ?_
  refine wpr_run (l₂ := []) true [0] [] [(4, Value.int IntKind.i64 0), (0, Value.pointer none), (1, Value.func (Fn.func 22) #[] #[Value.pointer (some { block := t0, off := 0 }), Value.pointer (some { block := t1, off := 0 })])] [] [] (by kernel_rfl) (by kernel_rfl) trivial ?_
  refine wpr_nil ?_
  refine nx_then ?_
  refine wpc_seq ?_
  refine wpc_seq ?_
  refine wpc_region [0, 1, 2, 3, 4, 5, 6, 7, 8] (by kernel_rfl) ?_
  refine wpr_run (l₂ := []) true [0, 1, 2, 3, 4, 5, 6, 7, 8] [] [(13, Value.bool true), (4, Value.int IntKind.i64 0), (1, Value.func (Fn.func 22) #[] #[Value.pointer (some { block := t0, off := 0 }), Value.pointer (some { block := t1, off := 0 })])] [] [] (by kernel_rfl) (by kernel_rfl) trivial ?_
  refine wpr_nil ?_
  refine nx_then ?_
  refine wpc_true (by kernel_rfl) ?_
  refine wpc_seq ?_
  refine wpc_region [0] (by kernel_rfl) ?_
  refine wpr_run (l₂ := []) true [0] [] [(4, Value.int IntKind.i64 1), (1, Value.func (Fn.func 22) #[] #[Value.pointer (some { block := t0, off := 0 }), Value.pointer (some { block := t1, off := 0 })])] [] [] (by kernel_rfl) (by kernel_rfl) trivial ?_
  refine wpr_nil ?_
  refine nx_then ?_
  refine wpc_ret ?_
  refine nx_then_ret ?_
  refine nx_end (hp' := []) (rest := []) [] ((Value.int IntKind.i64 1)) (by kernel_rfl) (by kernel_rfl) give_all (by first | ((repeat (first | exact trivial | refine ⟨trivial, ?_⟩)); done) | assumption) ?_ (.inr rfl)
  exact ⟨rfl, rfl⟩
theorem with22_un (d : Nat) (t0 t1 : Nat) :
    Does Try.prog 21 [.pointer (some ⟨d, 0, none⟩), .func (.func 22) #[] #[.pointer (some ⟨t0, 0, none⟩), .pointer (some ⟨t1, 0, none⟩)]] [.blk d 46 [.bool false, .slice none 0 0, .int .i64 0]] (fun v hp' => v = .int .i64 1 ∧ hp' = [.blk d 46 [.bool false, .slice none 0 0, .int .i64 0]]) := by
  refine fn_enter Try.func21 rfl 16 rfl fun w0 _ => ?_
  refine wpc_seq ?_
  refine wpc_region [0] (by kernel_rfl) ?_
  refine wpr_run (l₂ := []) true [0] [] [(4, Value.int IntKind.i64 0), (0, Value.pointer (some { block := d, off := 0 })), (1, Value.func (Fn.func 22) #[] #[Value.pointer (some { block := t0, off := 0 }), Value.pointer (some { block := t1, off := 0 })])] [Ch.blk d 46 [Value.bool false, Value.slice none 0 0, Value.int IntKind.i64 0]] [] (by kernel_rfl) (by kernel_rfl) trivial ?_
  refine wpr_nil ?_
  refine nx_then ?_
  refine wpc_seq ?_
  refine wpc_seq ?_
  refine wpc_region [0, 1, 2, 3, 4, 5, 6, 7, 8] (by kernel_rfl) ?_
  refine wpr_run (l₂ := []) true [0, 1, 2, 3, 4, 5, 6, 7, 8] [0] [(13, Value.bool true), (4, Value.int IntKind.i64 0), (1, Value.func (Fn.func 22) #[] #[Value.pointer (some { block := t0, off := 0 }), Value.pointer (some { block := t1, off := 0 })])] [Ch.blk d 46 [Value.bool false, Value.slice none 0 0, Value.int IntKind.i64 0]] [] (by kernel_rfl) (by kernel_rfl) trivial ?_
  refine wpr_nil ?_
  refine nx_then ?_
  refine wpc_true (by kernel_rfl) ?_
  refine wpc_seq ?_
  refine wpc_region [0] (by kernel_rfl) ?_
  refine wpr_run (l₂ := []) true [0] [] [(4, Value.int IntKind.i64 1), (1, Value.func (Fn.func 22) #[] #[Value.pointer (some { block := t0, off := 0 }), Value.pointer (some { block := t1, off := 0 })])] [Ch.blk d 46 [Value.bool false, Value.slice none 0 0, Value.int IntKind.i64 0]] [] (by kernel_rfl) (by kernel_rfl) trivial ?_
  refine wpr_nil ?_
  refine nx_then ?_
  refine wpc_ret ?_
  refine nx_then_ret ?_
  refine nx_end (hp' := [Ch.blk d 46 [Value.bool false, Value.slice none 0 0, Value.int IntKind.i64 0]]) (rest := []) [] ((Value.int IntKind.i64 1)) (by kernel_rfl) (by kernel_rfl) give_all (by first | ((repeat (first | exact trivial | refine ⟨trivial, ?_⟩)); done) | assumption) ?_ (.inr rfl)
  exact ⟨rfl, rfl⟩

theorem with23 (d : Nat) (a : Option Addr) (n c : Nat) (s : Int) (t0 : Nat) (pre : Hp) (R : Hp → Prop) (hrw : ∀ hp', R hp' → AllRw hp')
    (h : Does Try.prog 23 [.pointer (some ⟨t0, 0, none⟩)] (dblk d a n c s :: pre) (fun v hp' => v = .tuple #[] ∧ R hp')) :
    Does Try.prog 21 [.pointer (some ⟨d, 0, none⟩), .func (.func 23) #[] #[.pointer (some ⟨t0, 0, none⟩)]] (dblk d a n c s :: pre) (fun v hp' => v = .int .i64 0 ∧ R hp') := by
  refine fn_enter Try.func21 rfl 16 rfl fun w0 _ => ?_
  unfold dblk
  refine wpc_seq ?_
  refine wpc_region [0] (by kernel_rfl) ?_
  refine wpr_run (l₂ := []) true [0] [] [(4, Value.int IntKind.i64 0), (0, Value.pointer (some { block := d, off := 0 })), (1, Value.func (Fn.func 23) #[] #[Value.pointer (some { block := t0, off := 0 })])] (Ch.blk d 46 [Value.bool true, Value.slice a n c, Value.int IntKind.i64 s] :: pre) [] (by kernel_rfl) (by kernel_rfl) trivial ?_
  refine wpr_nil ?_
  refine nx_then ?_
  refine wpc_seq ?_
  refine wpc_seq ?_
  refine wpc_region [0, 1, 2, 3, 4, 5, 6, 7, 8] (by kernel_rfl) ?_
  refine wpr_run (l₂ := []) true [0, 1, 2, 3, 4, 5, 6, 7, 8] [0] [(13, Value.bool false), (4, Value.int IntKind.i64 0), (1, Value.func (Fn.func 23) #[] #[Value.pointer (some { block := t0, off := 0 })])] (Ch.blk d 46 [Value.bool true, Value.slice a n c, Value.int IntKind.i64 s] :: pre) [] (by kernel_rfl) (by kernel_rfl) trivial ?_
  refine wpr_nil ?_
  refine nx_then ?_
  refine wpc_false (by kernel_rfl) ?_
  refine wpc_skip ?_
  refine nx_then ?_
  refine wpc_seq ?_
  refine wpc_region [0, 1] (by kernel_rfl) ?_
  refine wpr_run (l₂ := [1]) true [0] [] [(14, Value.func (Fn.func 23) #[] #[Value.pointer (some { block := t0, off := 0 })]), (4, Value.int IntKind.i64 0)] (Ch.blk d 46 [Value.bool true, Value.slice a n c, Value.int IntKind.i64 s] :: pre) [] (by kernel_rfl) (by kernel_rfl) trivial ?_
  refine wpr_call_all (dst := some 15) (by kernel_rfl) (h) give_all ?_
  rintro v hp' ⟨rfl, hR⟩
  have hall := hrw _ hR
  refine wpr_nil ?_
  refine nx_then ?_
  refine wpc_seq ?_
  refine wpc_region [0] (by kernel_rfl) ?_
  refine wpr_run (l₂ := []) true [0] [] [(4, Value.int IntKind.i64 0)] (hp') [] (by kernel_rfl) (by kernel_rfl) trivial ?_
  refine wpr_nil ?_
  refine nx_then ?_
  refine wpc_ret ?_
  refine nx_end (hp' := (hp')) (rest := []) [] ((Value.int IntKind.i64 0)) (by kernel_rfl) (by kernel_rfl) give_all (by first | ((repeat (first | exact trivial | refine ⟨trivial, ?_⟩)); done) | assumption) ?_ (.inr rfl)
  exact ⟨rfl, hR⟩
theorem with23_nil (t0 : Nat) :
    Does Try.prog 21 [.pointer none, .func (.func 23) #[] #[.pointer (some ⟨t0, 0, none⟩)]] [] (fun v hp' => v = .int .i64 1 ∧ hp' = []) := by
  refine fn_enter Try.func21 rfl 16 rfl fun w0 _ => ?_
  refine wpc_seq ?_
  refine wpc_region [0] (by kernel_rfl) ?_
  refine wpr_run (l₂ := []) true [0] [] [(4, Value.int IntKind.i64 0), (0, Value.pointer none), (1, Value.func (Fn.func 23) #[] #[Value.pointer (some { block := t0, off := 0 })])] [] [] (by kernel_rfl) (by kernel_rfl) trivial ?_
  refine wpr_nil ?_
  refine nx_then ?_
  refine wpc_seq ?_
  refine wpc_seq ?_
  refine wpc_region [0, 1, 2, 3, 4, 5, 6, 7, 8] (by kernel_rfl) ?_
  refine wpr_run (l₂ := []) true [0, 1, 2, 3, 4, 5, 6, 7, 8] [] [(13, Value.bool true), (4, Value.int IntKind.i64 0), (1, Value.func (Fn.func 23) #[] #[Value.pointer (some { block := t0, off := 0 })])] [] [] (by kernel_rfl) (by kernel_rfl) trivial ?_
  refine wpr_nil ?_
  refine nx_then ?_
  refine wpc_true (by kernel_rfl) ?_
  refine wpc_seq ?_
  refine wpc_region [0] (by kernel_rfl) ?_
  refine wpr_run (l₂ := []) true [0] [] [(4, Value.int IntKind.i64 1), (1, Value.func (Fn.func 23) #[] #[Value.pointer (some { block := t0, off := 0 })])] [] [] (by kernel_rfl) (by kernel_rfl) trivial ?_
  refine wpr_nil ?_
  refine nx_then ?_
  refine wpc_ret ?_
  refine nx_then_ret ?_
  refine nx_end (hp' := []) (rest := []) [] ((Value.int IntKind.i64 1)) (by kernel_rfl) (by kernel_rfl) give_all (by first | ((repeat (first | exact trivial | refine ⟨trivial, ?_⟩)); done) | assumption) ?_ (.inr rfl)
  exact ⟨rfl, rfl⟩
theorem with23_un (d : Nat) (t0 : Nat) :
    Does Try.prog 21 [.pointer (some ⟨d, 0, none⟩), .func (.func 23) #[] #[.pointer (some ⟨t0, 0, none⟩)]] [.blk d 46 [.bool false, .slice none 0 0, .int .i64 0]] (fun v hp' => v = .int .i64 1 ∧ hp' = [.blk d 46 [.bool false, .slice none 0 0, .int .i64 0]]) := by
  refine fn_enter Try.func21 rfl 16 rfl fun w0 _ => ?_
  refine wpc_seq ?_
  refine wpc_region [0] (by kernel_rfl) ?_
  refine wpr_run (l₂ := []) true [0] [] [(4, Value.int IntKind.i64 0), (0, Value.pointer (some { block := d, off := 0 })), (1, Value.func (Fn.func 23) #[] #[Value.pointer (some { block := t0, off := 0 })])] [Ch.blk d 46 [Value.bool false, Value.slice none 0 0, Value.int IntKind.i64 0]] [] (by kernel_rfl) (by kernel_rfl) trivial ?_
  refine wpr_nil ?_
  refine nx_then ?_
  refine wpc_seq ?_
  refine wpc_seq ?_
  refine wpc_region [0, 1, 2, 3, 4, 5, 6, 7, 8] (by kernel_rfl) ?_
  refine wpr_run (l₂ := []) true [0, 1, 2, 3, 4, 5, 6, 7, 8] [0] [(13, Value.bool true), (4, Value.int IntKind.i64 0), (1, Value.func (Fn.func 23) #[] #[Value.pointer (some { block := t0, off := 0 })])] [Ch.blk d 46 [Value.bool false, Value.slice none 0 0, Value.int IntKind.i64 0]] [] (by kernel_rfl) (by kernel_rfl) trivial ?_
  refine wpr_nil ?_
  refine nx_then ?_
  refine wpc_true (by kernel_rfl) ?_
  refine wpc_seq ?_
  refine wpc_region [0] (by kernel_rfl) ?_
  refine wpr_run (l₂ := []) true [0] [] [(4, Value.int IntKind.i64 1), (1, Value.func (Fn.func 23) #[] #[Value.pointer (some { block := t0, off := 0 })])] [Ch.blk d 46 [Value.bool false, Value.slice none 0 0, Value.int IntKind.i64 0]] [] (by kernel_rfl) (by kernel_rfl) trivial ?_
  refine wpr_nil ?_
  refine nx_then ?_
  refine wpc_ret ?_
  refine nx_then_ret ?_
  refine nx_end (hp' := [Ch.blk d 46 [Value.bool false, Value.slice none 0 0, Value.int IntKind.i64 0]]) (rest := []) [] ((Value.int IntKind.i64 1)) (by kernel_rfl) (by kernel_rfl) give_all (by first | ((repeat (first | exact trivial | refine ⟨trivial, ?_⟩)); done) | assumption) ?_ (.inr rfl)
  exact ⟨rfl, rfl⟩

theorem with24 (d : Nat) (a : Option Addr) (n c : Nat) (s : Int) (t0 t1 : Nat) (pre : Hp) (R : Hp → Prop) (hrw : ∀ hp', R hp' → AllRw hp')
    (h : Does Try.prog 24 [.pointer (some ⟨t0, 0, none⟩), .pointer (some ⟨t1, 0, none⟩)] (dblk d a n c s :: pre) (fun v hp' => v = .tuple #[] ∧ R hp')) :
    Does Try.prog 21 [.pointer (some ⟨d, 0, none⟩), .func (.func 24) #[] #[.pointer (some ⟨t0, 0, none⟩), .pointer (some ⟨t1, 0, none⟩)]] (dblk d a n c s :: pre) (fun v hp' => v = .int .i64 0 ∧ R hp') := by
  refine fn_enter Try.func21 rfl 16 rfl fun w0 _ => ?_
  unfold dblk
  refine wpc_seq ?_
  refine wpc_region [0] (by kernel_rfl) ?_
  refine wpr_run (l₂ := []) true [0] [] [(4, Value.int IntKind.i64 0), (0, Value.pointer (some { block := d, off := 0 })), (1, Value.func (Fn.func 24) #[] #[Value.pointer (some { block := t0, off := 0 }), Value.pointer (some { block := t1, off := 0 })])] (Ch.blk d 46 [Value.bool true, Value.slice a n c, Value.int IntKind.i64 s] :: pre) [] (by kernel_rfl) (by kernel_rfl) trivial ?_
  refine wpr_nil ?_
  refine nx_then ?_
  refine wpc_seq ?_
  refine wpc_seq ?_
  refine wpc_region [0, 1, 2, 3, 4, 5, 6, 7, 8] (by kernel_rfl) ?_
  refine wpr_run (l₂ := []) true [0, 1, 2, 3, 4, 5, 6, 7, 8] [0] [(13, Value.bool false), (4, Value.int IntKind.i64 0), (1, Value.func (Fn.func 24) #[] #[Value.pointer (some { block := t0, off := 0 }), Value.pointer (some { block := t1, off := 0 })])] (Ch.blk d 46 [Value.bool true, Value.slice a n c, Value.int IntKind.i64 s] :: pre) [] (by kernel_rfl) (by kernel_rfl) trivial ?_
  refine wpr_nil ?_
  refine nx_then ?_
  refine wpc_false (by kernel_rfl) ?_
  refine wpc_skip ?_
  refine nx_then ?_
  refine wpc_seq ?_
  refine wpc_region [0, 1] (by kernel_rfl) ?_
  refine wpr_run (l₂ := [1]) true [0] [] [(14, Value.func (Fn.func 24) #[] #[Value.pointer (some { block := t0, off := 0 }), Value.pointer (some { block := t1, off := 0 })]), (4, Value.int IntKind.i64 0)] (Ch.blk d 46 [Value.bool true, Value.slice a n c, Value.int IntKind.i64 s] :: pre) [] (by kernel_rfl) (by kernel_rfl) trivial ?_
  refine wpr_call_all (dst := some 15) (by kernel_rfl) (h) give_all ?_
  rintro v hp' ⟨rfl, hR⟩
  have hall := hrw _ hR
  refine wpr_nil ?_
  refine nx_then ?_
  refine wpc_seq ?_
  refine wpc_region [0] (by kernel_rfl) ?_
  refine wpr_run (l₂ := []) true [0] [] [(4, Value.int IntKind.i64 0)] (hp') [] (by kernel_rfl) (by kernel_rfl) trivial ?_
  refine wpr_nil ?_
  refine nx_then ?_
  refine wpc_ret ?_
  refine nx_end (hp' := (hp')) (rest := []) [] ((Value.int IntKind.i64 0)) (by kernel_rfl) (by kernel_rfl) give_all (by first | ((repeat (first | exact trivial | refine ⟨trivial, ?_⟩)); done) | assumption) ?_ (.inr rfl)
  exact ⟨rfl, hR⟩
theorem with24_nil (t0 t1 : Nat) :
    Does Try.prog 21 [.pointer none, .func (.func 24) #[] #[.pointer (some ⟨t0, 0, none⟩), .pointer (some ⟨t1, 0, none⟩)]] [] (fun v hp' => v = .int .i64 1 ∧ hp' = []) := by
  refine fn_enter Try.func21 rfl 16 rfl fun w0 _ => ?_
  refine wpc_seq ?_
  refine wpc_region [0] (by kernel_rfl) ?_
  refine wpr_run (l₂ := []) true [0] [] [(4, Value.int IntKind.i64 0), (0, Value.pointer none), (1, Value.func (Fn.func 24) #[] #[Value.pointer (some { block := t0, off := 0 }), Value.pointer (some { block := t1, off := 0 })])] [] [] (by kernel_rfl) (by kernel_rfl) trivial ?_
  refine wpr_nil ?_
  refine nx_then ?_
  refine wpc_seq ?_
  refine wpc_seq ?_
  refine wpc_region [0, 1, 2, 3, 4, 5, 6, 7, 8] (by kernel_rfl) ?_
  refine wpr_run (l₂ := []) true [0, 1, 2, 3, 4, 5, 6, 7, 8] [] [(13, Value.bool true), (4, Value.int IntKind.i64 0), (1, Value.func (Fn.func 24) #[] #[Value.pointer (some { block := t0, off := 0 }), Value.pointer (some { block := t1, off := 0 })])] [] [] (by kernel_rfl) (by kernel_rfl) trivial ?_
  refine wpr_nil ?_
  refine nx_then ?_
  refine wpc_true (by kernel_rfl) ?_
  refine wpc_seq ?_
  refine wpc_region [0] (by kernel_rfl) ?_
  refine wpr_run (l₂ := []) true [0] [] [(4, Value.int IntKind.i64 1), (1, Value.func (Fn.func 24) #[] #[Value.pointer (some { block := t0, off := 0 }), Value.pointer (some { block := t1, off := 0 })])] [] [] (by kernel_rfl) (by kernel_rfl) trivial ?_
  refine wpr_nil ?_
  refine nx_then ?_
  refine wpc_ret ?_
  refine nx_then_ret ?_
  refine nx_end (hp' := []) (rest := []) [] ((Value.int IntKind.i64 1)) (by kernel_rfl) (by kernel_rfl) give_all (by first | ((repeat (first | exact trivial | refine ⟨trivial, ?_⟩)); done) | assumption) ?_ (.inr rfl)
  exact ⟨rfl, rfl⟩
theorem with24_un (d : Nat) (t0 t1 : Nat) :
    Does Try.prog 21 [.pointer (some ⟨d, 0, none⟩), .func (.func 24) #[] #[.pointer (some ⟨t0, 0, none⟩), .pointer (some ⟨t1, 0, none⟩)]] [.blk d 46 [.bool false, .slice none 0 0, .int .i64 0]] (fun v hp' => v = .int .i64 1 ∧ hp' = [.blk d 46 [.bool false, .slice none 0 0, .int .i64 0]]) := by
  refine fn_enter Try.func21 rfl 16 rfl fun w0 _ => ?_
  refine wpc_seq ?_
  refine wpc_region [0] (by kernel_rfl) ?_
  refine wpr_run (l₂ := []) true [0] [] [(4, Value.int IntKind.i64 0), (0, Value.pointer (some { block := d, off := 0 })), (1, Value.func (Fn.func 24) #[] #[Value.pointer (some { block := t0, off := 0 }), Value.pointer (some { block := t1, off := 0 })])] [Ch.blk d 46 [Value.bool false, Value.slice none 0 0, Value.int IntKind.i64 0]] [] (by kernel_rfl) (by kernel_rfl) trivial ?_
  refine wpr_nil ?_
  refine nx_then ?_
  refine wpc_seq ?_
  refine wpc_seq ?_
  refine wpc_region [0, 1, 2, 3, 4, 5, 6, 7, 8] (by kernel_rfl) ?_
  refine wpr_run (l₂ := []) true [0, 1, 2, 3, 4, 5, 6, 7, 8] [0] [(13, Value.bool true), (4, Value.int IntKind.i64 0), (1, Value.func (Fn.func 24) #[] #[Value.pointer (some { block := t0, off := 0 }), Value.pointer (some { block := t1, off := 0 })])] [Ch.blk d 46 [Value.bool false, Value.slice none 0 0, Value.int IntKind.i64 0]] [] (by kernel_rfl) (by kernel_rfl) trivial ?_
  refine wpr_nil ?_
  refine nx_then ?_
  refine wpc_true (by kernel_rfl) ?_
  refine wpc_seq ?_
  refine wpc_region [0] (by kernel_rfl) ?_
  refine wpr_run (l₂ := []) true [0] [] [(4, Value.int IntKind.i64 1), (1, Value.func (Fn.func 24) #[] #[Value.pointer (some { block := t0, off := 0 }), Value.pointer (some { block := t1, off := 0 })])] [Ch.blk d 46 [Value.bool false, Value.slice none 0 0, Value.int IntKind.i64 0]] [] (by kernel_rfl) (by kernel_rfl) trivial ?_
  refine wpr_nil ?_
  refine nx_then ?_
  refine wpc_ret ?_
  refine nx_then_ret ?_
  refine nx_end (hp' := [Ch.blk d 46 [Value.bool false, Value.slice none 0 0, Value.int IntKind.i64 0]]) (rest := []) [] ((Value.int IntKind.i64 1)) (by kernel_rfl) (by kernel_rfl) give_all (by first | ((repeat (first | exact trivial | refine ⟨trivial, ?_⟩)); done) | assumption) ?_ (.inr rfl)
  exact ⟨rfl, rfl⟩

theorem with25 (d : Nat) (a : Option Addr) (n c : Nat) (s : Int) (t0 t1 : Nat) (pre : Hp) (R : Hp → Prop) (hrw : ∀ hp', R hp' → AllRw hp')
    (h : Does Try.prog 25 [.pointer (some ⟨t0, 0, none⟩), .pointer (some ⟨t1, 0, none⟩)] (dblk d a n c s :: pre) (fun v hp' => v = .tuple #[] ∧ R hp')) :
    Does Try.prog 21 [.pointer (some ⟨d, 0, none⟩), .func (.func 25) #[] #[.pointer (some ⟨t0, 0, none⟩), .pointer (some ⟨t1, 0, none⟩)]] (dblk d a n c s :: pre) (fun v hp' => v = .int .i64 0 ∧ R hp') := by
  refine fn_enter Try.func21 rfl 16 rfl fun w0 _ => ?_
  unfold dblk
  refine wpc_seq ?_
  refine wpc_region [0] (by kernel_rfl) ?_
  refine wpr_run (l₂ := []) true [0] [] [(4, Value.int IntKind.i64 0), (0, Value.pointer (some { block := d, off := 0 })), (1, Value.func (Fn.func 25) #[] #[Value.pointer (some { block := t0, off := 0 }), Value.pointer (some { block := t1, off := 0 })])] (Ch.blk d 46 [Value.bool true, Value.slice a n c, Value.int IntKind.i64 s] :: pre) [] (by kernel_rfl) (by kernel_rfl) trivial ?_
  refine wpr_nil ?_
  refine nx_then ?_
  refine wpc_seq ?_
  refine wpc_seq ?_
  refine wpc_region [0, 1, 2, 3, 4, 5, 6, 7, 8] (by kernel_rfl) ?_
  refine wpr_run (l₂ := []) true [0, 1, 2, 3, 4, 5, 6, 7, 8] [0] [(13, Value.bool false), (4, Value.int IntKind.i64 0), (1, Value.func (Fn.func 25) #[] #[Value.pointer (some { block := t0, off := 0 }), Value.pointer (some { block := t1, off := 0 })])] (Ch.blk d 46 [Value.bool true, Value.slice a n c, Value.int IntKind.i64 s] :: pre) [] (by kernel_rfl) (by kernel_rfl) trivial ?_
  refine wpr_nil ?_
  refine nx_then ?_
  refine wpc_false (by kernel_rfl) ?_
  refine wpc_skip ?_
  refine nx_then ?_
  refine wpc_seq ?_
  refine wpc_region [0, 1] (by kernel_rfl) ?_
  refine wpr_run (l₂ := [1]) true [0] [] [(14, Value.func (Fn.func 25) #[] #[Value.pointer (some { block := t0, off := 0 }), Value.pointer (some { block := t1, off := 0 })]), (4, Value.int IntKind.i64 0)] (Ch.blk d 46 [Value.bool true, Value.slice a n c, Value.int IntKind.i64 s] :: pre) [] (by kernel_rfl) (by kernel_rfl) trivial ?_
  refine wpr_call_all (dst := some 15) (by kernel_rfl) (h) give_all ?_
  rintro v hp' ⟨rfl, hR⟩
  have hall := hrw _ hR
  refine wpr_nil ?_
  refine nx_then ?_
  refine wpc_seq ?_
  refine wpc_region [0] (by kernel_rfl) ?_
  refine wpr_run (l₂ := []) true [0] [] [(4, Value.int IntKind.i64 0)] (hp') [] (by kernel_rfl) (by kernel_rfl) trivial ?_
  refine wpr_nil ?_
  refine nx_then ?_
  refine wpc_ret ?_
  refine nx_end (hp' := (hp')) (rest := []) [] ((Value.int IntKind.i64 0)) (by kernel_rfl) (by kernel_rfl) give_all (by first | ((repeat (first | exact trivial | refine ⟨trivial, ?_⟩)); done) | assumption) ?_ (.inr rfl)
  exact ⟨rfl, hR⟩
theorem with25_nil (t0 t1 : Nat) :
    Does Try.prog 21 [.pointer none, .func (.func 25) #[] #[.pointer (some ⟨t0, 0, none⟩), .pointer (some ⟨t1, 0, none⟩)]] [] (fun v hp' => v = .int .i64 1 ∧ hp' = []) := by
  refine fn_enter Try.func21 rfl 16 rfl fun w0 _ => ?_
  refine wpc_seq ?_
  refine wpc_region [0] (by kernel_rfl) ?_
  refine wpr_run (l₂ := []) true [0] [] [(4, Value.int IntKind.i64 0), (0, Value.pointer none), (1, Value.func (Fn.func 25) #[] #[Value.pointer (some { block := t0, off := 0 }), Value.pointer (some { block := t1, off := 0 })])] [] [] (by kernel_rfl) (by kernel_rfl) trivial ?_
  refine wpr_nil ?_
  refine nx_then ?_
  refine wpc_seq ?_
  refine wpc_seq ?_
  refine wpc_region [0, 1, 2, 3, 4, 5, 6, 7, 8] (by kernel_rfl) ?_
  refine wpr_run (l₂ := []) true [0, 1, 2, 3, 4, 5, 6, 7, 8] [] [(13, Value.bool true), (4, Value.int IntKind.i64 0), (1, Value.func (Fn.func 25) #[] #[Value.pointer (some { block := t0, off := 0 }), Value.pointer (some { block := t1, off := 0 })])] [] [] (by kernel_rfl) (by kernel_rfl) trivial ?_
  refine wpr_nil ?_
  refine nx_then ?_
  refine wpc_true (by kernel_rfl) ?_
  refine wpc_seq ?_
  refine wpc_region [0] (by kernel_rfl) ?_
  refine wpr_run (l₂ := []) true [0] [] [(4, Value.int IntKind.i64 1), (1, Value.func (Fn.func 25) #[] #[Value.pointer (some { block := t0, off := 0 }), Value.pointer (some { block := t1, off := 0 })])] [] [] (by kernel_rfl) (by kernel_rfl) trivial ?_
  refine wpr_nil ?_
  refine nx_then ?_
  refine wpc_ret ?_
  refine nx_then_ret ?_
  refine nx_end (hp' := []) (rest := []) [] ((Value.int IntKind.i64 1)) (by kernel_rfl) (by kernel_rfl) give_all (by first | ((repeat (first | exact trivial | refine ⟨trivial, ?_⟩)); done) | assumption) ?_ (.inr rfl)
  exact ⟨rfl, rfl⟩
theorem with25_un (d : Nat) (t0 t1 : Nat) :
    Does Try.prog 21 [.pointer (some ⟨d, 0, none⟩), .func (.func 25) #[] #[.pointer (some ⟨t0, 0, none⟩), .pointer (some ⟨t1, 0, none⟩)]] [.blk d 46 [.bool false, .slice none 0 0, .int .i64 0]] (fun v hp' => v = .int .i64 1 ∧ hp' = [.blk d 46 [.bool false, .slice none 0 0, .int .i64 0]]) := by
  refine fn_enter Try.func21 rfl 16 rfl fun w0 _ => ?_
  refine wpc_seq ?_
  refine wpc_region [0] (by kernel_rfl) ?_
  refine wpr_run (l₂ := []) true [0] [] [(4, Value.int IntKind.i64 0), (0, Value.pointer (some { block := d, off := 0 })), (1, Value.func (Fn.func 25) #[] #[Value.pointer (some { block := t0, off := 0 }), Value.pointer (some { block := t1, off := 0 })])] [Ch.blk d 46 [Value.bool false, Value.slice none 0 0, Value.int IntKind.i64 0]] [] (by kernel_rfl) (by kernel_rfl) trivial ?_
  refine wpr_nil ?_
  refine nx_then ?_
  refine wpc_seq ?_
  refine wpc_seq ?_
  refine wpc_region [0, 1, 2, 3, 4, 5, 6, 7, 8] (by kernel_rfl) ?_
  refine wpr_run (l₂ := []) true [0, 1, 2, 3, 4, 5, 6, 7, 8] [0] [(13, Value.bool true), (4, Value.int IntKind.i64 0), (1, Value.func (Fn.func 25) #[] #[Value.pointer (some { block := t0, off := 0 }), Value.pointer (some { block := t1, off := 0 })])] [Ch.blk d 46 [Value.bool false, Value.slice none 0 0, Value.int IntKind.i64 0]] [] (by kernel_rfl) (by kernel_rfl) trivial ?_
  refine wpr_nil ?_
  refine nx_then ?_
  refine wpc_true (by kernel_rfl) ?_
  refine wpc_seq ?_
  refine wpc_region [0] (by kernel_rfl) ?_
  refine wpr_run (l₂ := []) true [0] [] [(4, Value.int IntKind.i64 1), (1, Value.func (Fn.func 25) #[] #[Value.pointer (some { block := t0, off := 0 }), Value.pointer (some { block := t1, off := 0 })])] [Ch.blk d 46 [Value.bool false, Value.slice none 0 0, Value.int IntKind.i64 0]] [] (by kernel_rfl) (by kernel_rfl) trivial ?_
  refine wpr_nil ?_
  refine nx_then ?_
  refine wpc_ret ?_
  refine nx_then_ret ?_
  refine nx_end (hp' := [Ch.blk d 46 [Value.bool false, Value.slice none 0 0, Value.int IntKind.i64 0]]) (rest := []) [] ((Value.int IntKind.i64 1)) (by kernel_rfl) (by kernel_rfl) give_all (by first | ((repeat (first | exact trivial | refine ⟨trivial, ?_⟩)); done) | assumption) ?_ (.inr rfl)
  exact ⟨rfl, rfl⟩

theorem with27 (d : Nat) (a : Option Addr) (n c : Nat) (s : Int) (t0 t1 : Nat) (pre : Hp) (R : Hp → Prop) (hrw : ∀ hp', R hp' → AllRw hp')
    (h : Does Try.prog 27 [.pointer (some ⟨t0, 0, none⟩), .pointer (some ⟨t1, 0, none⟩)] (dblk d a n c s :: pre) (fun v hp' => v = .tuple #[] ∧ R hp')) :
    Does Try.prog 21 [.pointer (some ⟨d, 0, none⟩), .func (.func 27) #[] #[.pointer (some ⟨t0, 0, none⟩), .pointer (some ⟨t1, 0, none⟩)]] (dblk d a n c s :: pre) (fun v hp' => v = .int .i64 0 ∧ R hp') := by
  refine fn_enter Try.func21 rfl 16 rfl fun w0 _ => ?_
  unfold dblk
  refine wpc_seq ?_
  refine wpc_region [0] (by kernel_rfl) ?_
  refine wpr_run (l₂ := []) true [0] [] [(4, Value.int IntKind.i64 0), (0, Value.pointer (some { block := d, off := 0 })), (1, Value.func (Fn.func 27) #[] #[Value.pointer (some { block := t0, off := 0 }), Value.pointer (some { block := t1, off := 0 })])] (Ch.blk d 46 [Value.bool true, Value.slice a n c, Value.int IntKind.i64 s] :: pre) [] (by kernel_rfl) (by kernel_rfl) trivial ?_
  refine wpr_nil ?_
  refine nx_then ?_
  refine wpc_seq ?_
  refine wpc_seq ?_
  refine wpc_region [0, 1, 2, 3, 4, 5, 6, 7, 8] (by kernel_rfl) ?_
  refine wpr_run (l₂ := []) true [0, 1, 2, 3, 4, 5, 6, 7, 8] [0] [(13, Value.bool false), (4, Value.int IntKind.i64 0), (1, Value.func (Fn.func 27) #[] #[Value.pointer (some { block := t0, off := 0 }), Value.pointer (some { block := t1, off := 0 })])] (Ch.blk d 46 [Value.bool true, Value.slice a n c, Value.int IntKind.i64 s] :: pre) [] (by kernel_rfl) (by kernel_rfl) trivial ?_
  refine wpr_nil ?_
  refine nx_then ?_
  refine wpc_false (by kernel_rfl) ?_
  refine wpc_skip ?_
  refine nx_then ?_
  refine wpc_seq ?_
  refine wpc_region [0, 1] (by kernel_rfl) ?_
  refine wpr_run (l₂ := [1]) true [0] [] [(14, Value.func (Fn.func 27) #[] #[Value.pointer (some { block := t0, off := 0 }), Value.pointer (some { block := t1, off := 0 })]), (4, Value.int IntKind.i64 0)] (Ch.blk d 46 [Value.bool true, Value.slice a n c, Value.int IntKind.i64 s] :: pre) [] (by kernel_rfl) (by kernel_rfl) trivial ?_
  refine wpr_call_all (dst := some 15) (by kernel_rfl) (h) give_all ?_
  rintro v hp' ⟨rfl, hR⟩
  have hall := hrw _ hR
  refine wpr_nil ?_
  refine nx_then ?_
  refine wpc_seq ?_
  refine wpc_region [0] (by kernel_rfl) ?_
  refine wpr_run (l₂ := []) true [0] [] [(4, Value.int IntKind.i64 0)] (hp') [] (by kernel_rfl) (by kernel_rfl) trivial ?_
  refine wpr_nil ?_
  refine nx_then ?_
  refine wpc_ret ?_
  refine nx_end (hp' := (hp')) (rest := []) [] ((Value.int IntKind.i64 0)) (by kernel_rfl) (by kernel_rfl) give_all (by first | ((repeat (first | exact trivial | refine ⟨trivial, ?_⟩)); done) | assumption) ?_ (.inr rfl)
  exact ⟨rfl, hR⟩
theorem with27_nil (t0 t1 : Nat) :
    Does Try.prog 21 [.pointer none, .func (.func 27) #[] #[.pointer (some ⟨t0, 0, none⟩), .pointer (some ⟨t1, 0, none⟩)]] [] (fun v hp' => v = .int .i64 1 ∧ hp' = []) := by
  refine fn_enter Try.func21 rfl 16 rfl fun w0 _ => ?_
  refine wpc_seq ?_
  refine wpc_region [0] (by kernel_rfl) ?_
  refine wpr_run (l₂ := []) true [0] [] [(4, Value.int IntKind.i64 0), (0, Value.pointer none), (1, Value.func (Fn.func 27) #[] #[Value.pointer (some { block := t0, off := 0 }), Value.pointer (some { block := t1, off := 0 })])] [] [] (by kernel_rfl) (by kernel_rfl) trivial ?_
  refine wpr_nil ?_
  refine nx_then ?_
  refine wpc_seq ?_
  refine wpc_seq ?_
  refine wpc_region [0, 1, 2, 3, 4, 5, 6, 7, 8] (by kernel_rfl) ?_
  refine wpr_run (l₂ := []) true [0, 1, 2, 3, 4, 5, 6, 7, 8] [] [(13, Value.bool true), (4, Value.int IntKind.i64 0), (1, Value.func (Fn.func 27) #[] #[Value.pointer (some { block := t0, off := 0 }), Value.pointer (some { block := t1, off := 0 })])] [] [] (by kernel_rfl) (by kernel_rfl) trivial ?_
  refine wpr_nil ?_
  refine nx_then ?_
  refine wpc_true (by kernel_rfl) ?_
  refine wpc_seq ?_
  refine wpc_region [0] (by kernel_rfl) ?_
  refine wpr_run (l₂ := []) true [0] [] [(4, Value.int IntKind.i64 1), (1, Value.func (Fn.func 27) #[] #[Value.pointer (some { block := t0, off := 0 }), Value.pointer (some { block := t1, off := 0 })])] [] [] (by kernel_rfl) (by kernel_rfl) trivial ?_
  refine wpr_nil ?_
  refine nx_then ?_
  refine wpc_ret ?_
  refine nx_then_ret ?_
  refine nx_end (hp' := []) (rest := []) [] ((Value.int IntKind.i64 1)) (by kernel_rfl) (by kernel_rfl) give_all (by first | ((repeat (first | exact trivial | refine ⟨trivial, ?_⟩)); done) | assumption) ?_ (.inr rfl)
  exact ⟨rfl, rfl⟩
theorem with27_un (d : Nat) (t0 t1 : Nat) :
    Does Try.prog 21 [.pointer (some ⟨d, 0, none⟩), .func (.func 27) #[] #[.pointer (some ⟨t0, 0, none⟩), .pointer (some ⟨t1, 0, none⟩)]] [.blk d 46 [.bool false, .slice none 0 0, .int .i64 0]] (fun v hp' => v = .int .i64 1 ∧ hp' = [.blk d 46 [.bool false, .slice none 0 0, .int .i64 0]]) := by
  refine fn_enter Try.func21 rfl 16 rfl fun w0 _ => ?_
  refine wpc_seq ?_
  refine wpc_region [0] (by kernel_rfl) ?_
  refine wpr_run (l₂ := []) true [0] [] [(4, Value.int IntKind.i64 0), (0, Value.pointer (some { block := d, off := 0 })), (1, Value.func (Fn.func 27) #[] #[Value.pointer (some { block := t0, off := 0 }), Value.pointer (some { block := t1, off := 0 })])] [Ch.blk d 46 [Value.bool false, Value.slice none 0 0, Value.int IntKind.i64 0]] [] (by kernel_rfl) (by kernel_rfl) trivial ?_
  refine wpr_nil ?_
  refine nx_then ?_
  refine wpc_seq ?_
  refine wpc_seq ?_
  refine wpc_region [0, 1, 2, 3, 4, 5, 6, 7, 8] (by kernel_rfl) ?_
  refine wpr_run (l₂ := []) true [0, 1, 2, 3, 4, 5, 6, 7, 8] [0] [(13, Value.bool true), (4, Value.int IntKind.i64 0), (1, Value.func (Fn.func 27) #[] #[Value.pointer (some { block := t0, off := 0 }), Value.pointer (some { block := t1, off := 0 })])] [Ch.blk d 46 [Value.bool false, Value.slice none 0 0, Value.int IntKind.i64 0]] [] (by kernel_rfl) (by kernel_rfl) trivial ?_
  refine wpr_nil ?_
  refine nx_then ?_
  refine wpc_true (by kernel_rfl) ?_
  refine wpc_seq ?_
  refine wpc_region [0] (by kernel_rfl) ?_
  refine wpr_run (l₂ := []) true [0] [] [(4, Value.int IntKind.i64 1), (1, Value.func (Fn.func 27) #[] #[Value.pointer (some { block := t0, off := 0 }), Value.pointer (some { block := t1, off := 0 })])] [Ch.blk d 46 [Value.bool false, Value.slice none 0 0, Value.int IntKind.i64 0]] [] (by kernel_rfl) (by kernel_rfl) trivial ?_
  refine wpr_nil ?_
  refine nx_then ?_
  refine wpc_ret ?_
  refine nx_then_ret ?_
  refine nx_end (hp' := [Ch.blk d 46 [Value.bool false, Value.slice none 0 0, Value.int IntKind.i64 0]]) (rest := []) [] ((Value.int IntKind.i64 1)) (by kernel_rfl) (by kernel_rfl) give_all (by first | ((repeat (first | exact trivial | refine ⟨trivial, ?_⟩)); done) | assumption) ?_ (.inr rfl)
  exact ⟨rfl, rfl⟩

theorem with28 (d : Nat) (a : Option Addr) (n c : Nat) (s : Int) (t0 t1 t2 : Nat) (pre : Hp) (R : Hp → Prop) (hrw : ∀ hp', R hp' → AllRw hp')
    (h : Does Try.prog 28 [.pointer (some ⟨t0, 0, none⟩), .pointer (some ⟨t1, 0, none⟩), .pointer (some ⟨t2, 0, none⟩)] (dblk d a n c s :: pre) (fun v hp' => v = .tuple #[] ∧ R hp')) :
    Does Try.prog 21 [.pointer (some ⟨d, 0, none⟩), .func (.func 28) #[] #[.pointer (some ⟨t0, 0, none⟩), .pointer (some ⟨t1, 0, none⟩), .pointer (some ⟨t2, 0, none⟩)]] (dblk d a n c s :: pre) (fun v hp' => v = .int .i64 0 ∧ R hp') := by
  refine fn_enter Try.func21 rfl 16 rfl fun w0 _ => ?_
  unfold dblk
  refine wpc_seq ?_
  refine wpc_region [0] (by kernel_rfl) ?_
  refine wpr_run (l₂ := []) true [0] [] [(4, Value.int IntKind.i64 0), (0, Value.pointer (some { block := d, off := 0 })), (1, Value.func (Fn.func 28) #[] #[Value.pointer (some { block := t0, off := 0 }), Value.pointer (some { block := t1, off := 0 }), Value.pointer (some { block := t2, off := 0 })])] (Ch.blk d 46 [Value.bool true, Value.slice a n c, Value.int IntKind.i64 s] :: pre) [] (by kernel_rfl) (by kernel_rfl) trivial ?_
  refine wpr_nil ?_
  refine nx_then ?_
  refine wpc_seq ?_
  refine wpc_seq ?_
  refine wpc_region [0, 1, 2, 3, 4, 5, 6, 7, 8] (by kernel_rfl) ?_
  refine wpr_run (l₂ := []) true [0, 1, 2, 3, 4, 5, 6, 7, 8] [0] [(13, Value.bool false), (4, Value.int IntKind.i64 0), (1, Value.func (Fn.func 28) #[] #[Value.pointer (some { block := t0, off := 0 }), Value.pointer (some { block := t1, off := 0 }), Value.pointer (some { block := t2, off := 0 })])] (Ch.blk d 46 [Value.bool true, Value.slice a n c, Value.int IntKind.i64 s] :: pre) [] (by kernel_rfl) (by kernel_rfl) trivial ?_
  refine wpr_nil ?_
  refine nx_then ?_
  refine wpc_false (by kernel_rfl) ?_
  refine wpc_skip ?_
  refine nx_then ?_
  refine wpc_seq ?_
  refine wpc_region [0, 1] (by kernel_rfl) ?_
  refine wpr_run (l₂ := [1]) true [0] [] [(14, Value.func (Fn.func 28) #[] #[Value.pointer (some { block := t0, off := 0 }), Value.pointer (some { block := t1, off := 0 }), Value.pointer (some { block := t2, off := 0 })]), (4, Value.int IntKind.i64 0)] (Ch.blk d 46 [Value.bool true, Value.slice a n c, Value.int IntKind.i64 s] :: pre) [] (by kernel_rfl) (by kernel_rfl) trivial ?_
  refine wpr_call_all (dst := some 15) (by kernel_rfl) (h) give_all ?_
  rintro v hp' ⟨rfl, hR⟩
  have hall := hrw _ hR
  refine wpr_nil ?_
  refine nx_then ?_
  refine wpc_seq ?_
  refine wpc_region [0] (by kernel_rfl) ?_
  refine wpr_run (l₂ := []) true [0] [] [(4, Value.int IntKind.i64 0)] (hp') [] (by kernel_rfl) (by kernel_rfl) trivial ?_
  refine wpr_nil ?_
  refine nx_then ?_
  refine wpc_ret ?_
  refine nx_end (hp' := (hp')) (rest := []) [] ((Value.int IntKind.i64 0)) (by kernel_rfl) (by kernel_rfl) give_all (by first | ((repeat (first | exact trivial | refine ⟨trivial, ?_⟩)); done) | assumption) ?_ (.inr rfl)
  exact ⟨rfl, hR⟩
theorem with28_nil (t0 t1 t2 : Nat) :
    Does Try.prog 21 [.pointer none, .func (.func 28) #[] #[.pointer (some ⟨t0, 0, none⟩), .pointer (some ⟨t1, 0, none⟩), .pointer (some ⟨t2, 0, none⟩)]] [] (fun v hp' => v = .int .i64 1 ∧ hp' = []) := by
  refine fn_enter Try.func21 rfl 16 rfl fun w0 _ => ?_
  refine wpc_seq ?_
  refine wpc_region [0] (by kernel_rfl) ?_
  refine wpr_run (l₂ := []) true [0] [] [(4, Value.int IntKind.i64 0), (0, Value.pointer none), (1, Value.func (Fn.func 28) #[] #[Value.pointer (some { block := t0, off := 0 }), Value.pointer (some { block := t1, off := 0 }), Value.pointer (some { block := t2, off := 0 })])] [] [] (by kernel_rfl) (by kernel_rfl) trivial ?_
  refine wpr_nil ?_
  refine nx_then ?_
  refine wpc_seq ?_
  refine wpc_seq ?_
  refine wpc_region [0, 1, 2, 3, 4, 5, 6, 7, 8] (by kernel_rfl) ?_
  refine wpr_run (l₂ := []) true [0, 1, 2, 3, 4, 5, 6, 7, 8] [] [(13, Value.bool true), (4, Value.int IntKind.i64 0), (1, Value.func (Fn.func 28) #[] #[Value.pointer (some { block := t0, off := 0 }), Value.pointer (some { block := t1, off := 0 }), Value.pointer (some { block := t2, off := 0 })])] [] [] (by kernel_rfl) (by kernel_rfl) trivial ?_
  refine wpr_nil ?_
  refine nx_then ?_
  refine wpc_true (by kernel_rfl) ?_
  refine wpc_seq ?_
  refine wpc_region [0] (by kernel_rfl) ?_
  refine wpr_run (l₂ := []) true [0] [] [(4, Value.int IntKind.i64 1), (1, Value.func (Fn.func 28) #[] #[Value.pointer (some { block := t0, off := 0 }), Value.pointer (some { block := t1, off := 0 }), Value.pointer (some { block := t2, off := 0 })])] [] [] (by kernel_rfl) (by kernel_rfl) trivial ?_
  refine wpr_nil ?_
  refine nx_then ?_
  refine wpc_ret ?_
  refine nx_then_ret ?_
  refine nx_end (hp' := []) (rest := []) [] ((Value.int IntKind.i64 1)) (by kernel_rfl) (by kernel_rfl) give_all (by first | ((repeat (first | exact trivial | refine ⟨trivial, ?_⟩)); done) | assumption) ?_ (.inr rfl)
  exact ⟨rfl, rfl⟩
theorem with28_un (d : Nat) (t0 t1 t2 : Nat) :
    Does Try.prog 21 [.pointer (some ⟨d, 0, none⟩), .func (.func 28) #[] #[.pointer (some ⟨t0, 0, none⟩), .pointer (some ⟨t1, 0, none⟩), .pointer (some ⟨t2, 0, none⟩)]] [.blk d 46 [.bool false, .slice none 0 0, .int .i64 0]] (fun v hp' => v = .int .i64 1 ∧ hp' = [.blk d 46 [.bool false, .slice none 0 0, .int .i64 0]]) := by
  refine fn_enter Try.func21 rfl 16 rfl fun w0 _ => ?_
  refine wpc_seq ?_
  refine wpc_region [0] (by kernel_rfl) ?_
  refine wpr_run (l₂ := []) true [0] [] [(4, Value.int IntKind.i64 0), (0, Value.pointer (some { block := d, off := 0 })), (1, Value.func (Fn.func 28) #[] #[Value.pointer (some { block := t0, off := 0 }), Value.pointer (some { block := t1, off := 0 }), Value.pointer (some { block := t2, off := 0 })])] [Ch.blk d 46 [Value.bool false, Value.slice none 0 0, Value.int IntKind.i64 0]] [] (by kernel_rfl) (by kernel_rfl) trivial ?_
  refine wpr_nil ?_
  refine nx_then ?_
  refine wpc_seq ?_
  refine wpc_seq ?_
  refine wpc_region [0, 1, 2, 3, 4, 5, 6, 7, 8] (by kernel_rfl) ?_
  refine wpr_run (l₂ := []) true [0, 1, 2, 3, 4, 5, 6, 7, 8] [0] [(13, Value.bool true), (4, Value.int IntKind.i64 0), (1, Value.func (Fn.func 28) #[] #[Value.pointer (some { block := t0, off := 0 }), Value.pointer (some { block := t1, off := 0 }), Value.pointer (some { block := t2, off := 0 })])] [Ch.blk d 46 [Value.bool false, Value.slice none 0 0, Value.int IntKind.i64 0]] [] (by kernel_rfl) (by kernel_rfl) trivial ?_
  refine wpr_nil ?_
  refine nx_then ?_
  refine wpc_true (by kernel_rfl) ?_
  refine wpc_seq ?_
  refine wpc_region [0] (by kernel_rfl) ?_
  refine wpr_run (l₂ := []) true [0] [] [(4, Value.int IntKind.i64 1), (1, Value.func (Fn.func 28) #[] #[Value.pointer (some { block := t0, off := 0 }), Value.pointer (some { block := t1, off := 0 }), Value.pointer (some { block := t2, off := 0 })])] [Ch.blk d 46 [Value.bool false, Value.slice none 0 0, Value.int IntKind.i64 0]] [] (by kernel_rfl) (by kernel_rfl) trivial ?_
  refine wpr_nil ?_
  refine nx_then ?_
  refine wpc_ret ?_
  refine nx_then_ret ?_
  refine nx_end (hp' := [Ch.blk d 46 [Value.bool false, Value.slice none 0 0, Value.int IntKind.i64 0]]) (rest := []) [] ((Value.int IntKind.i64 1)) (by kernel_rfl) (by kernel_rfl) give_all (by first | ((repeat (first | exact trivial | refine ⟨trivial, ?_⟩)); done) | assumption) ?_ (.inr rfl)
  exact ⟨rfl, rfl⟩

theorem with29 (d : Nat) (a : Option Addr) (n c : Nat) (s : Int) (t0 t1 : Nat) (pre : Hp) (R : Hp → Prop) (hrw : ∀ hp', R hp' → AllRw hp')
    (h : Does Try.prog 29 [.pointer (some ⟨t0, 0, none⟩), .pointer (some ⟨t1, 0, none⟩)] (dblk d a n c s :: pre) (fun v hp' => v = .tuple #[] ∧ R hp')) :
    Does Try.prog 21 [.pointer (some ⟨d, 0, none⟩), .func (.func 29) #[] #[.pointer (some ⟨t0, 0, none⟩), .pointer (some ⟨t1, 0, none⟩)]] (dblk d a n c s :: pre) (fun v hp' => v = .int .i64 0 ∧ R hp') := by
  refine fn_enter Try.func21 rfl 16 rfl fun w0 _ => ?_
  unfold dblk
  refine wpc_seq ?_
  refine wpc_region [0] (by kernel_rfl) ?_
  refine wpr_run (l₂ := []) true [0] [] [(4, Value.int IntKind.i64 0), (0, Value.pointer (some { block := d, off := 0 })), (1, Value.func (Fn.func 29) #[] #[Value.pointer (some { block := t0, off := 0 }), Value.pointer (some { block := t1, off := 0 })])] (Ch.blk d 46 [Value.bool true, Value.slice a n c, Value.int IntKind.i64 s] :: pre) [] (by kernel_rfl) (by kernel_rfl) trivial ?_
  refine wpr_nil ?_
  refine nx_then ?_
  refine wpc_seq ?_
  refine wpc_seq ?_
  refine wpc_region [0, 1, 2, 3, 4, 5, 6, 7, 8] (by kernel_rfl) ?_
  refine wpr_run (l₂ := []) true [0, 1, 2, 3, 4, 5, 6, 7, 8] [0] [(13, Value.bool false), (4, Value.int IntKind.i64 0), (1, Value.func (Fn.func 29) #[] #[Value.pointer (some { block := t0, off := 0 }), Value.pointer (some { block := t1, off := 0 })])] (Ch.blk d 46 [Value.bool true, Value.slice a n c, Value.int IntKind.i64 s] :: pre) [] (by kernel_rfl) (by kernel_rfl) trivial ?_
  refine wpr_nil ?_
  refine nx_then ?_
  refine wpc_false (by kernel_rfl) ?_
  refine wpc_skip ?_
  refine nx_then ?_
  refine wpc_seq ?_
  refine wpc_region [0, 1] (by kernel_rfl) ?_
  refine wpr_run (l₂ := [1]) true [0] [] [(14, Value.func (Fn.func 29) #[] #[Value.pointer (some { block := t0, off := 0 }), Value.pointer (some { block := t1, off := 0 })]), (4, Value.int IntKind.i64 0)] (Ch.blk d 46 [Value.bool true, Value.slice a n c, Value.int IntKind.i64 s] :: pre) [] (by kernel_rfl) (by kernel_rfl) trivial ?_
  refine wpr_call_all (dst := some 15) (by kernel_rfl) (h) give_all ?_
  rintro v hp' ⟨rfl, hR⟩
  have hall := hrw _ hR
  refine wpr_nil ?_
  refine nx_then ?_
  refine wpc_seq ?_
  refine wpc_region [0] (by kernel_rfl) ?_
  refine wpr_run (l₂ := []) true [0] [] [(4, Value.int IntKind.i64 0)] (hp') [] (by kernel_rfl) (by kernel_rfl) trivial ?_
  refine wpr_nil ?_
  refine nx_then ?_
  refine wpc_ret ?_
  refine nx_end (hp' := (hp')) (rest := []) [] ((Value.int IntKind.i64 0)) (by kernel_rfl) (by kernel_rfl) give_all (by first | ((repeat (first | exact trivial | refine ⟨trivial, ?_⟩)); done) | assumption) ?_ (.inr rfl)
  exact ⟨rfl, hR⟩
theorem with29_nil (t0 t1 : Nat) :
    Does Try.prog 21 [.pointer none, .func (.func 29) #[] #[.pointer (some ⟨t0, 0, none⟩), .pointer (some ⟨t1, 0, none⟩)]] [] (fun v hp' => v = .int .i64 1 ∧ hp' = []) := by
  refine fn_enter Try.func21 rfl 16 rfl fun w0 _ => ?_
  refine wpc_seq ?_
  refine wpc_region [0] (by kernel_rfl) ?_
  refine wpr_run (l₂ := []) true [0] [] [(4, Value.int IntKind.i64 0), (0, Value.pointer none), (1, Value.func (Fn.func 29) #[] #[Value.pointer (some { block := t0, off := 0 }), Value.pointer (some { block := t1, off := 0 })])] [] [] (by kernel_rfl) (by kernel_rfl) trivial ?_
  refine wpr_nil ?_
  refine nx_then ?_
  refine wpc_seq ?_
  refine wpc_seq ?_
  refine wpc_region [0, 1, 2, 3, 4, 5, 6, 7, 8] (by kernel_rfl) ?_
  refine wpr_run (l₂ := []) true [0, 1, 2, 3, 4, 5, 6, 7, 8] [] [(13, Value.bool true), (4, Value.int IntKind.i64 0), (1, Value.func (Fn.func 29) #[] #[Value.pointer (some { block := t0, off := 0 }), Value.pointer (some { block := t1, off := 0 })])] [] [] (by kernel_rfl) (by kernel_rfl) trivial ?_
  refine wpr_nil ?_
  refine nx_then ?_
  refine wpc_true (by kernel_rfl) ?_
  refine wpc_seq ?_
  refine wpc_region [0] (by kernel_rfl) ?_
  refine wpr_run (l₂ := []) true [0] [] [(4, Value.int IntKind.i64 1), (1, Value.func (Fn.func 29) #[] #[Value.pointer (some { block := t0, off := 0 }), Value.pointer (some { block := t1, off := 0 })])] [] [] (by kernel_rfl) (by kernel_rfl) trivial ?_
  refine wpr_nil ?_
  refine nx_then ?_
  refine wpc_ret ?_
  refine nx_then_ret ?_
  refine nx_end (hp' := []) (rest := []) [] ((Value.int IntKind.i64 1)) (by kernel_rfl) (by kernel_rfl) give_all (by first | ((repeat (first | exact trivial | refine ⟨trivial, ?_⟩)); done) | assumption) ?_ (.inr rfl)
  exact ⟨rfl, rfl⟩
theorem with29_un (d : Nat) (t0 t1 : Nat) :
    Does Try.prog 21 [.pointer (some ⟨d, 0, none⟩), .func (.func 29) #[] #[.pointer (some ⟨t0, 0, none⟩), .pointer (some ⟨t1, 0, none⟩)]] [.blk d 46 [.bool false, .slice none 0 0, .int .i64 0]] (fun v hp' => v = .int .i64 1 ∧ hp' = [.blk d 46 [.bool false, .slice none 0 0, .int .i64 0]]) := by
  refine fn_enter Try.func21 rfl 16 rfl fun w0 _ => ?_
  refine wpc_seq ?_
  refine wpc_region [0] (by kernel_rfl) ?_
  refine wpr_run (l₂ := []) true [0] [] [(4, Value.int IntKind.i64 0), (0, Value.pointer (some { block := d, off := 0 })), (1, Value.func (Fn.func 29) #[] #[Value.pointer (some { block := t0, off := 0 }), Value.pointer (some { block := t1, off := 0 })])] [Ch.blk d 46 [Value.bool false, Value.slice none 0 0, Value.int IntKind.i64 0]] [] (by kernel_rfl) (by kernel_rfl) trivial ?_
  refine wpr_nil ?_
  refine nx_then ?_
  refine wpc_seq ?_
  refine wpc_seq ?_
  refine wpc_region [0, 1, 2, 3, 4, 5, 6, 7, 8] (by kernel_rfl) ?_
  refine wpr_run (l₂ := []) true [0, 1, 2, 3, 4, 5, 6, 7, 8] [0] [(13, Value.bool true), (4, Value.int IntKind.i64 0), (1, Value.func (Fn.func 29) #[] #[Value.pointer (some { block := t0, off := 0 }), Value.pointer (some { block := t1, off := 0 })])] [Ch.blk d 46 [Value.bool false, Value.slice none 0 0, Value.int IntKind.i64 0]] [] (by kernel_rfl) (by kernel_rfl) trivial ?_
  refine wpr_nil ?_
  refine nx_then ?_
  refine wpc_true (by kernel_rfl) ?_
  refine wpc_seq ?_
  refine wpc_region [0] (by kernel_rfl) ?_
  refine wpr_run (l₂ := []) true [0] [] [(4, Value.int IntKind.i64 1), (1, Value.func (Fn.func 29) #[] #[Value.pointer (some { block := t0, off := 0 }), Value.pointer (some { block := t1, off := 0 })])] [Ch.blk d 46 [Value.bool false, Value.slice none 0 0, Value.int IntKind.i64 0]] [] (by kernel_rfl) (by kernel_rfl) trivial ?_
  refine wpr_nil ?_
  refine nx_then ?_
  refine wpc_ret ?_
  refine nx_then_ret ?_
  refine nx_end (hp' := [Ch.blk d 46 [Value.bool false, Value.slice none 0 0, Value.int IntKind.i64 0]]) (rest := []) [] ((Value.int IntKind.i64 1)) (by kernel_rfl) (by kernel_rfl) give_all (by first | ((repeat (first | exact trivial | refine ⟨trivial, ?_⟩)); done) | assumption) ?_ (.inr rfl)
  exact ⟨rfl, rfl⟩
end Go.Proofs.Ytolmjhhldbnkdaa
