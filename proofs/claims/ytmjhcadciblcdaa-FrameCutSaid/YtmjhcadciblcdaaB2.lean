import Derived.Test.YtmjhcadciblcdaaB1
import Derived.Test.YtmjhcadciblcdaaX15
namespace Go.Proofs.Ytmjhcadciblcdaa
open Go Go.Sx
set_option linter.unusedVariables false
set_option linter.unusedSimpArgs false

/-- A word's bytes, the lowest first. -/
def lowB (c : BitVec 32) (j : Nat) : UInt8 := UInt8.ofNat (c.toNat / 2 ^ (8 * j) % 256)
def lowL (c : BitVec 32) : List UInt8 := [lowB c 0, lowB c 1, lowB c 2, lowB c 3]
def lbv (c : BitVec 32) (k : Nat) : Value := .int .u8 (IntKind.u8.wrap ((c.toNat : Int).fdiv (2 ^ min (Int.toNat (k : Int)) IntKind.u32.bits)))
theorem lbv_eq (c : BitVec 32) (j : Nat) (h : j < 4) : lbv c (8 * j) = .int .u8 ((lowB c j).toNat : Int) := by
  have e : min (Int.toNat ((8 * j : Nat) : Int)) IntKind.u32.bits = 8 * j := by
    have : IntKind.u32.bits = 32 := rfl
    omega
  unfold lbv lowB
  rw [e, u8_wrap, Int.fdiv_eq_ediv_of_nonneg _ (Int.le_of_lt (Int.pow_pos (by decide))), UInt8.toNat_ofNat']
  congr 1
  have : ((2 : Int) ^ (8 * j)) = ((2 ^ (8 * j) : Nat) : Int) := by simp
  rw [this]
  omega
theorem low_spec (c : BitVec 32) : Does Try.prog 24 [.int .u32 (c.toNat : Int)] [] (fun v hp' => v = .agg (u8s (lowL c)).toArray ∧ hp' = []) := by
  refine fn_enter Try.func24 rfl 17 rfl fun w0 h0 => ?_
  refine wpc_seq ?_
  refine wpc_region [0] (by kernel_rfl) ?_
  refine wpr_new (l₂ := []) true [0] [] (fun g1 => [(2, Value.pointer (some { block := g1, off := 0 })), (0, Value.int IntKind.u32 (↑c.toNat : Int))]) (fun g1 => [Ch.blk g1 56 [Value.int IntKind.u8 0, Value.int IntKind.u8 0, Value.int IntKind.u8 0, Value.int IntKind.u8 0]]) (fun g1 => []) (fun g1 => by kernel_rfl) (fun g1 => by kernel_rfl) (fun g1 => trivial) fun g1 => ?_
  refine wpr_nil ?_
  refine nx_then ?_
  refine wpc_seq ?_
  refine wpc_region [0] (by kernel_rfl) ?_
  refine wpr_new (l₂ := []) true [0] [] (fun g2 => [(3, Value.pointer (some { block := g2, off := 0 })), (2, Value.pointer (some { block := g1, off := 0 })), (0, Value.int IntKind.u32 (↑c.toNat : Int))]) (fun g2 => [Ch.blk g1 56 [Value.int IntKind.u8 0, Value.int IntKind.u8 0, Value.int IntKind.u8 0, Value.int IntKind.u8 0], Ch.blk g2 56 [Value.int IntKind.u8 0, Value.int IntKind.u8 0, Value.int IntKind.u8 0, Value.int IntKind.u8 0]]) (fun g2 => []) (fun g2 => by kernel_rfl) (fun g2 => by kernel_rfl) (fun g2 => trivial) fun g2 => ?_
  refine wpr_nil ?_
  refine nx_then ?_
  refine wpc_seq ?_
  refine wpc_seq ?_
  refine wpc_region [0] (by kernel_rfl) ?_
  refine wpr_run (l₂ := []) true [0] [] [(5, Value.int IntKind.i64 0), (3, Value.pointer (some { block := g2, off := 0 })), (2, Value.pointer (some { block := g1, off := 0 })), (0, Value.int IntKind.u32 (↑c.toNat : Int))] [Ch.blk g1 56 [Value.int IntKind.u8 0, Value.int IntKind.u8 0, Value.int IntKind.u8 0, Value.int IntKind.u8 0], Ch.blk g2 56 [Value.int IntKind.u8 0, Value.int IntKind.u8 0, Value.int IntKind.u8 0, Value.int IntKind.u8 0]] [] (by kernel_rfl) (by kernel_rfl) trivial ?_
  refine wpr_nil ?_
  refine nx_then ?_
  refine wpc_block ?_
  refine wpc_loop (X := {i : Nat // i ≤ 4}) (fun x => St.mk [(5, .int .i64 (x.1 : Int)), (3, .pointer (some ⟨g2, 0, none⟩)), (2, .pointer (some ⟨g1, 0, none⟩)), (0, .int .u32 (c.toNat : Int))]
    [.blk g1 56 [.int .u8 0, .int .u8 0, .int .u8 0, .int .u8 0], .blk g2 56 (match x.1 with | 0 => [.int .u8 0, .int .u8 0, .int .u8 0, .int .u8 0] | 1 => [lbv c 0, .int .u8 0, .int .u8 0, .int .u8 0] | 2 => [lbv c 0, lbv c 8, .int .u8 0, .int .u8 0] | 3 => [lbv c 0, lbv c 8, lbv c 16, .int .u8 0] | _ => [lbv c 0, lbv c 8, lbv c 16, lbv c 24])]) (fun x => 4 - x.1) ⟨0, by decide⟩ (ent_fr (by kernel_rfl)) ?_
  rintro ⟨i, hi⟩
  rcases i with _ | _ | _ | _ | i
  · dsimp only
    refine wpc_seq ?_
    refine wpc_region [0] (by kernel_rfl) ?_
    refine wpr_run (l₂ := []) true [0] [] [(6, Value.bool true), (5, Value.int IntKind.i64 0), (3, Value.pointer (some { block := g2, off := 0 })), (2, Value.pointer (some { block := g1, off := 0 })), (0, Value.int IntKind.u32 (↑c.toNat : Int))] [Ch.blk g1 56 [Value.int IntKind.u8 0, Value.int IntKind.u8 0, Value.int IntKind.u8 0, Value.int IntKind.u8 0], Ch.blk g2 56 [Value.int IntKind.u8 0, Value.int IntKind.u8 0, Value.int IntKind.u8 0, Value.int IntKind.u8 0]] [] (by kernel_rfl) (by kernel_rfl) trivial ?_
    refine wpr_nil ?_
    refine nx_then ?_
    refine wpc_seq ?_
    refine wpc_true (by kernel_rfl) ?_
    refine wpc_skip ?_
    refine nx_then ?_
    refine wpc_seq ?_
    refine wpc_block ?_
    refine wpc_seq ?_
    refine wpc_region [0, 1] (by kernel_rfl) ?_
    refine wpr_run (l₂ := []) true [0, 1] [] [(4, Value.int IntKind.i64 0), (5, Value.int IntKind.i64 0), (3, Value.pointer (some { block := g2, off := 0 })), (2, Value.pointer (some { block := g1, off := 0 })), (0, Value.int IntKind.u32 (↑c.toNat : Int))] [Ch.blk g1 56 [Value.int IntKind.u8 0, Value.int IntKind.u8 0, Value.int IntKind.u8 0, Value.int IntKind.u8 0], Ch.blk g2 56 [Value.int IntKind.u8 0, Value.int IntKind.u8 0, Value.int IntKind.u8 0, Value.int IntKind.u8 0]] [] (by kernel_rfl) (by kernel_rfl) trivial ?_
    refine wpr_nil ?_
    refine nx_then ?_
    refine wpc_region [0, 1, 2, 3, 4, 5, 6, 7] (by kernel_rfl) ?_
    refine wpr_run (l₂ := []) true [0, 1, 2, 3, 4, 5, 6, 7] [1] [(5, Value.int IntKind.i64 0), (3, Value.pointer (some { block := g2, off := 0 })), (2, Value.pointer (some { block := g1, off := 0 })), (0, Value.int IntKind.u32 (↑c.toNat : Int))] [Ch.blk g1 56 [Value.int IntKind.u8 0, Value.int IntKind.u8 0, Value.int IntKind.u8 0, Value.int IntKind.u8 0], Ch.blk g2 56 [Value.int IntKind.u8 (IntKind.u8.wrap ((↑c.toNat : Int).fdiv (2 ^ min (Int.toNat 0) IntKind.u32.bits))), Value.int IntKind.u8 0, Value.int IntKind.u8 0, Value.int IntKind.u8 0]] [inI64 ((8 : Int) * (0 : Int)), (0 : Int) ≤ (0 : Int)] (by kernel_rfl) (by kernel_rfl) ⟨by unfold inI64; omega, by omega, trivial⟩ ?_
    refine wpr_nil ?_
    refine nx_block ?_
    refine nx_then ?_
    refine wpc_region [0, 1] (by kernel_rfl) ?_
    refine wpr_run (l₂ := []) true [0, 1] [] [(5, Value.int IntKind.i64 1), (3, Value.pointer (some { block := g2, off := 0 })), (2, Value.pointer (some { block := g1, off := 0 })), (0, Value.int IntKind.u32 (↑c.toNat : Int))] [Ch.blk g1 56 [Value.int IntKind.u8 0, Value.int IntKind.u8 0, Value.int IntKind.u8 0, Value.int IntKind.u8 0], Ch.blk g2 56 [Value.int IntKind.u8 (IntKind.u8.wrap ((↑c.toNat : Int).fdiv (2 ^ min (Int.toNat 0) IntKind.u32.bits))), Value.int IntKind.u8 0, Value.int IntKind.u8 0, Value.int IntKind.u8 0]] ([inI64 ((0 : Int) + (1 : Int))]) (by kernel_rfl) (by kernel_rfl) ⟨by unfold inI64; omega, trivial⟩ ?_
    refine wpr_nil ?_
    exact fun a' w' hS' => ⟨⟨1, by decide⟩, by decide, ent_fr (by kernel_rfl) _ _ (ent_hp [0, 0] rfl _ _ hS')⟩
  · dsimp only
    refine wpc_seq ?_
    refine wpc_region [0] (by kernel_rfl) ?_
    refine wpr_run (l₂ := []) true [0] [] [(6, Value.bool true), (5, Value.int IntKind.i64 1), (3, Value.pointer (some { block := g2, off := 0 })), (2, Value.pointer (some { block := g1, off := 0 })), (0, Value.int IntKind.u32 (↑c.toNat : Int))] [Ch.blk g1 56 [Value.int IntKind.u8 0, Value.int IntKind.u8 0, Value.int IntKind.u8 0, Value.int IntKind.u8 0], Ch.blk g2 56 [Value.int IntKind.u8 (IntKind.u8.wrap ((↑c.toNat : Int).fdiv (2 ^ min 0 IntKind.u32.bits))), Value.int IntKind.u8 0, Value.int IntKind.u8 0, Value.int IntKind.u8 0]] [] (by kernel_rfl) (by kernel_rfl) trivial ?_
    refine wpr_nil ?_
    refine nx_then ?_
    refine wpc_seq ?_
    refine wpc_true (by kernel_rfl) ?_
    refine wpc_skip ?_
    refine nx_then ?_
    refine wpc_seq ?_
    refine wpc_block ?_
    refine wpc_seq ?_
    refine wpc_region [0, 1] (by kernel_rfl) ?_
    refine wpr_run (l₂ := []) true [0, 1] [] [(4, Value.int IntKind.i64 1), (5, Value.int IntKind.i64 1), (3, Value.pointer (some { block := g2, off := 0 })), (2, Value.pointer (some { block := g1, off := 0 })), (0, Value.int IntKind.u32 (↑c.toNat : Int))] [Ch.blk g1 56 [Value.int IntKind.u8 0, Value.int IntKind.u8 0, Value.int IntKind.u8 0, Value.int IntKind.u8 0], Ch.blk g2 56 [Value.int IntKind.u8 (IntKind.u8.wrap ((↑c.toNat : Int).fdiv (2 ^ min 0 IntKind.u32.bits))), Value.int IntKind.u8 0, Value.int IntKind.u8 0, Value.int IntKind.u8 0]] [] (by kernel_rfl) (by kernel_rfl) trivial ?_
    refine wpr_nil ?_
    refine nx_then ?_
    refine wpc_region [0, 1, 2, 3, 4, 5, 6, 7] (by kernel_rfl) ?_
    refine wpr_run (l₂ := []) true [0, 1, 2, 3, 4, 5, 6, 7] [1] [(5, Value.int IntKind.i64 1), (3, Value.pointer (some { block := g2, off := 0 })), (2, Value.pointer (some { block := g1, off := 0 })), (0, Value.int IntKind.u32 (↑c.toNat : Int))] [Ch.blk g1 56 [Value.int IntKind.u8 0, Value.int IntKind.u8 0, Value.int IntKind.u8 0, Value.int IntKind.u8 0], Ch.blk g2 56 [Value.int IntKind.u8 (IntKind.u8.wrap ((↑c.toNat : Int).fdiv (2 ^ min 0 IntKind.u32.bits))), Value.int IntKind.u8 (IntKind.u8.wrap ((↑c.toNat : Int).fdiv (2 ^ min (Int.toNat 8) IntKind.u32.bits))), Value.int IntKind.u8 0, Value.int IntKind.u8 0]] [inI64 ((8 : Int) * (1 : Int)), (0 : Int) ≤ (8 : Int)] (by kernel_rfl) (by kernel_rfl) ⟨by unfold inI64; omega, by omega, trivial⟩ ?_
    refine wpr_nil ?_
    refine nx_block ?_
    refine nx_then ?_
    refine wpc_region [0, 1] (by kernel_rfl) ?_
    refine wpr_run (l₂ := []) true [0, 1] [] [(5, Value.int IntKind.i64 2), (3, Value.pointer (some { block := g2, off := 0 })), (2, Value.pointer (some { block := g1, off := 0 })), (0, Value.int IntKind.u32 (↑c.toNat : Int))] [Ch.blk g1 56 [Value.int IntKind.u8 0, Value.int IntKind.u8 0, Value.int IntKind.u8 0, Value.int IntKind.u8 0], Ch.blk g2 56 [Value.int IntKind.u8 (IntKind.u8.wrap ((↑c.toNat : Int).fdiv (2 ^ min 0 IntKind.u32.bits))), Value.int IntKind.u8 (IntKind.u8.wrap ((↑c.toNat : Int).fdiv (2 ^ min (Int.toNat 8) IntKind.u32.bits))), Value.int IntKind.u8 0, Value.int IntKind.u8 0]] ([inI64 ((1 : Int) + (1 : Int))]) (by kernel_rfl) (by kernel_rfl) ⟨by unfold inI64; omega, trivial⟩ ?_
    refine wpr_nil ?_
    exact fun a' w' hS' => ⟨⟨2, by decide⟩, by decide, ent_fr (by kernel_rfl) _ _ (ent_hp [0, 0] rfl _ _ hS')⟩
  · dsimp only
    refine wpc_seq ?_
    refine wpc_region [0] (by kernel_rfl) ?_
    refine wpr_run (l₂ := []) true [0] [] [(6, Value.bool true), (5, Value.int IntKind.i64 2), (3, Value.pointer (some { block := g2, off := 0 })), (2, Value.pointer (some { block := g1, off := 0 })), (0, Value.int IntKind.u32 (↑c.toNat : Int))] [Ch.blk g1 56 [Value.int IntKind.u8 0, Value.int IntKind.u8 0, Value.int IntKind.u8 0, Value.int IntKind.u8 0], Ch.blk g2 56 [Value.int IntKind.u8 (IntKind.u8.wrap ((↑c.toNat : Int).fdiv (2 ^ min 0 IntKind.u32.bits))), Value.int IntKind.u8 (IntKind.u8.wrap ((↑c.toNat : Int).fdiv (2 ^ min 8 IntKind.u32.bits))), Value.int IntKind.u8 0, Value.int IntKind.u8 0]] [] (by kernel_rfl) (by kernel_rfl) trivial ?_
    refine wpr_nil ?_
    refine nx_then ?_
    refine wpc_seq ?_
    refine wpc_true (by kernel_rfl) ?_
    refine wpc_skip ?_
    refine nx_then ?_
    refine wpc_seq ?_
    refine wpc_block ?_
    refine wpc_seq ?_
    refine wpc_region [0, 1] (by kernel_rfl) ?_
    refine wpr_run (l₂ := []) true [0, 1] [] [(4, Value.int IntKind.i64 2), (5, Value.int IntKind.i64 2), (3, Value.pointer (some { block := g2, off := 0 })), (2, Value.pointer (some { block := g1, off := 0 })), (0, Value.int IntKind.u32 (↑c.toNat : Int))] [Ch.blk g1 56 [Value.int IntKind.u8 0, Value.int IntKind.u8 0, Value.int IntKind.u8 0, Value.int IntKind.u8 0], Ch.blk g2 56 [Value.int IntKind.u8 (IntKind.u8.wrap ((↑c.toNat : Int).fdiv (2 ^ min 0 IntKind.u32.bits))), Value.int IntKind.u8 (IntKind.u8.wrap ((↑c.toNat : Int).fdiv (2 ^ min 8 IntKind.u32.bits))), Value.int IntKind.u8 0, Value.int IntKind.u8 0]] [] (by kernel_rfl) (by kernel_rfl) trivial ?_
    refine wpr_nil ?_
    refine nx_then ?_
    refine wpc_region [0, 1, 2, 3, 4, 5, 6, 7] (by kernel_rfl) ?_
    refine wpr_run (l₂ := []) true [0, 1, 2, 3, 4, 5, 6, 7] [1] [(5, Value.int IntKind.i64 2), (3, Value.pointer (some { block := g2, off := 0 })), (2, Value.pointer (some { block := g1, off := 0 })), (0, Value.int IntKind.u32 (↑c.toNat : Int))] [Ch.blk g1 56 [Value.int IntKind.u8 0, Value.int IntKind.u8 0, Value.int IntKind.u8 0, Value.int IntKind.u8 0], Ch.blk g2 56 [Value.int IntKind.u8 (IntKind.u8.wrap ((↑c.toNat : Int).fdiv (2 ^ min 0 IntKind.u32.bits))), Value.int IntKind.u8 (IntKind.u8.wrap ((↑c.toNat : Int).fdiv (2 ^ min 8 IntKind.u32.bits))), Value.int IntKind.u8 (IntKind.u8.wrap ((↑c.toNat : Int).fdiv (2 ^ min (Int.toNat 16) IntKind.u32.bits))), Value.int IntKind.u8 0]] [inI64 ((8 : Int) * (2 : Int)), (0 : Int) ≤ (16 : Int)] (by kernel_rfl) (by kernel_rfl) ⟨by unfold inI64; omega, by omega, trivial⟩ ?_
    refine wpr_nil ?_
    refine nx_block ?_
    refine nx_then ?_
    refine wpc_region [0, 1] (by kernel_rfl) ?_
    refine wpr_run (l₂ := []) true [0, 1] [] [(5, Value.int IntKind.i64 3), (3, Value.pointer (some { block := g2, off := 0 })), (2, Value.pointer (some { block := g1, off := 0 })), (0, Value.int IntKind.u32 (↑c.toNat : Int))] [Ch.blk g1 56 [Value.int IntKind.u8 0, Value.int IntKind.u8 0, Value.int IntKind.u8 0, Value.int IntKind.u8 0], Ch.blk g2 56 [Value.int IntKind.u8 (IntKind.u8.wrap ((↑c.toNat : Int).fdiv (2 ^ min 0 IntKind.u32.bits))), Value.int IntKind.u8 (IntKind.u8.wrap ((↑c.toNat : Int).fdiv (2 ^ min 8 IntKind.u32.bits))), Value.int IntKind.u8 (IntKind.u8.wrap ((↑c.toNat : Int).fdiv (2 ^ min (Int.toNat 16) IntKind.u32.bits))), Value.int IntKind.u8 0]] ([inI64 ((2 : Int) + (1 : Int))]) (by kernel_rfl) (by kernel_rfl) ⟨by unfold inI64; omega, trivial⟩ ?_
    refine wpr_nil ?_
    exact fun a' w' hS' => ⟨⟨3, by decide⟩, by decide, ent_fr (by kernel_rfl) _ _ (ent_hp [0, 0] rfl _ _ hS')⟩
  · dsimp only
    refine wpc_seq ?_
    refine wpc_region [0] (by kernel_rfl) ?_
    refine wpr_run (l₂ := []) true [0] [] [(6, Value.bool true), (5, Value.int IntKind.i64 3), (3, Value.pointer (some { block := g2, off := 0 })), (2, Value.pointer (some { block := g1, off := 0 })), (0, Value.int IntKind.u32 (↑c.toNat : Int))] [Ch.blk g1 56 [Value.int IntKind.u8 0, Value.int IntKind.u8 0, Value.int IntKind.u8 0, Value.int IntKind.u8 0], Ch.blk g2 56 [Value.int IntKind.u8 (IntKind.u8.wrap ((↑c.toNat : Int).fdiv (2 ^ min 0 IntKind.u32.bits))), Value.int IntKind.u8 (IntKind.u8.wrap ((↑c.toNat : Int).fdiv (2 ^ min 8 IntKind.u32.bits))), Value.int IntKind.u8 (IntKind.u8.wrap ((↑c.toNat : Int).fdiv (2 ^ min 16 IntKind.u32.bits))), Value.int IntKind.u8 0]] [] (by kernel_rfl) (by kernel_rfl) trivial ?_
    refine wpr_nil ?_
    refine nx_then ?_
    refine wpc_seq ?_
    refine wpc_true (by kernel_rfl) ?_
    refine wpc_skip ?_
    refine nx_then ?_
    refine wpc_seq ?_
    refine wpc_block ?_
    refine wpc_seq ?_
    refine wpc_region [0, 1] (by kernel_rfl) ?_
    refine wpr_run (l₂ := []) true [0, 1] [] [(4, Value.int IntKind.i64 3), (5, Value.int IntKind.i64 3), (3, Value.pointer (some { block := g2, off := 0 })), (2, Value.pointer (some { block := g1, off := 0 })), (0, Value.int IntKind.u32 (↑c.toNat : Int))] [Ch.blk g1 56 [Value.int IntKind.u8 0, Value.int IntKind.u8 0, Value.int IntKind.u8 0, Value.int IntKind.u8 0], Ch.blk g2 56 [Value.int IntKind.u8 (IntKind.u8.wrap ((↑c.toNat : Int).fdiv (2 ^ min 0 IntKind.u32.bits))), Value.int IntKind.u8 (IntKind.u8.wrap ((↑c.toNat : Int).fdiv (2 ^ min 8 IntKind.u32.bits))), Value.int IntKind.u8 (IntKind.u8.wrap ((↑c.toNat : Int).fdiv (2 ^ min 16 IntKind.u32.bits))), Value.int IntKind.u8 0]] [] (by kernel_rfl) (by kernel_rfl) trivial ?_
    refine wpr_nil ?_
    refine nx_then ?_
    refine wpc_region [0, 1, 2, 3, 4, 5, 6, 7] (by kernel_rfl) ?_
    refine wpr_run (l₂ := []) true [0, 1, 2, 3, 4, 5, 6, 7] [1] [(5, Value.int IntKind.i64 3), (3, Value.pointer (some { block := g2, off := 0 })), (2, Value.pointer (some { block := g1, off := 0 })), (0, Value.int IntKind.u32 (↑c.toNat : Int))] [Ch.blk g1 56 [Value.int IntKind.u8 0, Value.int IntKind.u8 0, Value.int IntKind.u8 0, Value.int IntKind.u8 0], Ch.blk g2 56 [Value.int IntKind.u8 (IntKind.u8.wrap ((↑c.toNat : Int).fdiv (2 ^ min 0 IntKind.u32.bits))), Value.int IntKind.u8 (IntKind.u8.wrap ((↑c.toNat : Int).fdiv (2 ^ min 8 IntKind.u32.bits))), Value.int IntKind.u8 (IntKind.u8.wrap ((↑c.toNat : Int).fdiv (2 ^ min 16 IntKind.u32.bits))), Value.int IntKind.u8 (IntKind.u8.wrap ((↑c.toNat : Int).fdiv (2 ^ min (Int.toNat 24) IntKind.u32.bits)))]] [inI64 ((8 : Int) * (3 : Int)), (0 : Int) ≤ (24 : Int)] (by kernel_rfl) (by kernel_rfl) ⟨by unfold inI64; omega, by omega, trivial⟩ ?_
    refine wpr_nil ?_
    refine nx_block ?_
    refine nx_then ?_
    refine wpc_region [0, 1] (by kernel_rfl) ?_
    refine wpr_run (l₂ := []) true [0, 1] [] [(5, Value.int IntKind.i64 4), (3, Value.pointer (some { block := g2, off := 0 })), (2, Value.pointer (some { block := g1, off := 0 })), (0, Value.int IntKind.u32 (↑c.toNat : Int))] [Ch.blk g1 56 [Value.int IntKind.u8 0, Value.int IntKind.u8 0, Value.int IntKind.u8 0, Value.int IntKind.u8 0], Ch.blk g2 56 [Value.int IntKind.u8 (IntKind.u8.wrap ((↑c.toNat : Int).fdiv (2 ^ min 0 IntKind.u32.bits))), Value.int IntKind.u8 (IntKind.u8.wrap ((↑c.toNat : Int).fdiv (2 ^ min 8 IntKind.u32.bits))), Value.int IntKind.u8 (IntKind.u8.wrap ((↑c.toNat : Int).fdiv (2 ^ min 16 IntKind.u32.bits))), Value.int IntKind.u8 (IntKind.u8.wrap ((↑c.toNat : Int).fdiv (2 ^ min (Int.toNat 24) IntKind.u32.bits)))]] ([inI64 ((3 : Int) + (1 : Int))]) (by kernel_rfl) (by kernel_rfl) ⟨by unfold inI64; omega, trivial⟩ ?_
    refine wpr_nil ?_
    exact fun a' w' hS' => ⟨⟨4, by decide⟩, by decide, ent_fr (by kernel_rfl) _ _ (ent_hp [0, 0] rfl _ _ hS')⟩
  · have : i = 0 := by omega
    subst this
    dsimp only
    refine wpc_seq ?_
    refine wpc_region [0] (by kernel_rfl) ?_
    refine wpr_run (l₂ := []) true [0] [] [(6, Value.bool false), (5, Value.int IntKind.i64 4), (3, Value.pointer (some { block := g2, off := 0 })), (2, Value.pointer (some { block := g1, off := 0 })), (0, Value.int IntKind.u32 (↑c.toNat : Int))] [Ch.blk g1 56 [Value.int IntKind.u8 0, Value.int IntKind.u8 0, Value.int IntKind.u8 0, Value.int IntKind.u8 0], Ch.blk g2 56 [Value.int IntKind.u8 (IntKind.u8.wrap ((↑c.toNat : Int).fdiv (2 ^ min 0 IntKind.u32.bits))), Value.int IntKind.u8 (IntKind.u8.wrap ((↑c.toNat : Int).fdiv (2 ^ min 8 IntKind.u32.bits))), Value.int IntKind.u8 (IntKind.u8.wrap ((↑c.toNat : Int).fdiv (2 ^ min 16 IntKind.u32.bits))), Value.int IntKind.u8 (IntKind.u8.wrap ((↑c.toNat : Int).fdiv (2 ^ min 24 IntKind.u32.bits)))]] [] (by kernel_rfl) (by kernel_rfl) trivial ?_
    refine wpr_nil ?_
    refine nx_then ?_
    refine wpc_seq ?_
    refine wpc_false (by kernel_rfl) ?_
    refine wpc_exit ?_
    refine nx_then_exit ?_
    refine nx_then_exit ?_
    refine nx_block_here ?_
    refine nx_then ?_
    refine wpc_seq ?_
    refine wpc_region [0, 1] (by kernel_rfl) ?_
    refine wpr_run (l₂ := []) true [0, 1] [1, 1, 1, 1, 0, 0, 0, 0] [(2, Value.pointer (some { block := g1, off := 0 }))] [Ch.blk g1 56 [Value.int IntKind.u8 (IntKind.u8.wrap ((↑c.toNat : Int).fdiv (2 ^ min 0 IntKind.u32.bits))), Value.int IntKind.u8 (IntKind.u8.wrap ((↑c.toNat : Int).fdiv (2 ^ min 8 IntKind.u32.bits))), Value.int IntKind.u8 (IntKind.u8.wrap ((↑c.toNat : Int).fdiv (2 ^ min 16 IntKind.u32.bits))), Value.int IntKind.u8 (IntKind.u8.wrap ((↑c.toNat : Int).fdiv (2 ^ min 24 IntKind.u32.bits)))], Ch.blk g2 56 [Value.int IntKind.u8 (IntKind.u8.wrap ((↑c.toNat : Int).fdiv (2 ^ min 0 IntKind.u32.bits))), Value.int IntKind.u8 (IntKind.u8.wrap ((↑c.toNat : Int).fdiv (2 ^ min 8 IntKind.u32.bits))), Value.int IntKind.u8 (IntKind.u8.wrap ((↑c.toNat : Int).fdiv (2 ^ min 16 IntKind.u32.bits))), Value.int IntKind.u8 (IntKind.u8.wrap ((↑c.toNat : Int).fdiv (2 ^ min 24 IntKind.u32.bits)))]] [] (by kernel_rfl) (by kernel_rfl) trivial ?_
    refine wpr_nil ?_
    refine nx_then ?_
    refine wpc_ret ?_
    refine nx_end (hp' := []) (rest := [Ch.blk g1 56 [Value.int IntKind.u8 (IntKind.u8.wrap ((↑c.toNat : Int).fdiv (2 ^ min 0 IntKind.u32.bits))), Value.int IntKind.u8 (IntKind.u8.wrap ((↑c.toNat : Int).fdiv (2 ^ min 8 IntKind.u32.bits))), Value.int IntKind.u8 (IntKind.u8.wrap ((↑c.toNat : Int).fdiv (2 ^ min 16 IntKind.u32.bits))), Value.int IntKind.u8 (IntKind.u8.wrap ((↑c.toNat : Int).fdiv (2 ^ min 24 IntKind.u32.bits)))], Ch.blk g2 56 [Value.int IntKind.u8 (IntKind.u8.wrap ((↑c.toNat : Int).fdiv (2 ^ min 0 IntKind.u32.bits))), Value.int IntKind.u8 (IntKind.u8.wrap ((↑c.toNat : Int).fdiv (2 ^ min 8 IntKind.u32.bits))), Value.int IntKind.u8 (IntKind.u8.wrap ((↑c.toNat : Int).fdiv (2 ^ min 16 IntKind.u32.bits))), Value.int IntKind.u8 (IntKind.u8.wrap ((↑c.toNat : Int).fdiv (2 ^ min 24 IntKind.u32.bits)))]]) [0, 0, 0, 0] ((Value.agg #[Value.int IntKind.u8 (IntKind.u8.wrap ((↑c.toNat : Int).fdiv (2 ^ min 0 IntKind.u32.bits))), Value.int IntKind.u8 (IntKind.u8.wrap ((↑c.toNat : Int).fdiv (2 ^ min 8 IntKind.u32.bits))), Value.int IntKind.u8 (IntKind.u8.wrap ((↑c.toNat : Int).fdiv (2 ^ min 16 IntKind.u32.bits))), Value.int IntKind.u8 (IntKind.u8.wrap ((↑c.toNat : Int).fdiv (2 ^ min 24 IntKind.u32.bits)))])) (by kernel_rfl) (by kernel_rfl) (give [] (by kernel_rfl)) (by first | ((repeat (first | exact trivial | refine ⟨trivial, ?_⟩)); done) | assumption) ?_ (.inr rfl)
    refine ⟨?_, rfl⟩
    have h0 := lbv_eq c 0 (by decide)
    have h1 := lbv_eq c 1 (by decide)
    have h2 := lbv_eq c 2 (by decide)
    have h3 := lbv_eq c 3 (by decide)
    show Value.agg #[lbv c (8 * 0), lbv c (8 * 1), lbv c (8 * 2), lbv c (8 * 3)] = _
    rw [h0, h1, h2, h3]; rfl
theorem Clone_spec (a : Option Addr) (c : Nat) (l : List UInt8) (ha : a = none → l = []) (hl : l.length ≤ 1099511627776) :
    Does Try.prog 31 [.slice a l.length c] [ro a (u8s l)] (fun r hp' => ∃ a' c', (a' = none ↔ a = none) ∧ r = .slice a' l.length c' ∧ hp' = [row 5 1 a' l.length c' (u8s l)]) := by
  cases a with
  | none =>
    obtain rfl := ha rfl
    refine fn_enter Try.func31 rfl 8 rfl fun w0 h0 => ?_
    refine wpc_seq ?_
    refine wpc_region [0] (by kernel_rfl) ?_
    refine wpr_run (l₂ := []) true [0] [] [(2, Value.slice none 0 0), (0, Value.slice none 0 c)] [ro none (u8s [])] [] (by kernel_rfl) (by kernel_rfl) trivial ?_
    refine wpr_nil ?_
    refine nx_then ?_
    refine wpc_seq ?_
    refine wpc_seq ?_
    refine wpc_region [0, 1] (by kernel_rfl) ?_
    refine wpr_run (l₂ := []) true [0, 1] [] [(4, Value.bool true), (2, Value.slice none 0 0), (0, Value.slice none 0 c)] [ro none (u8s [])] [] (by kernel_rfl) (by kernel_rfl) trivial ?_
    refine wpr_nil ?_
    refine nx_then ?_
    refine wpc_true (by kernel_rfl) ?_
    refine wpc_seq ?_
    refine wpc_region [0] (by kernel_rfl) ?_
    refine wpr_run (l₂ := []) true [0] [] [(2, Value.slice none 0 0), (0, Value.slice none 0 c)] [ro none (u8s [])] [] (by kernel_rfl) (by kernel_rfl) trivial ?_
    refine wpr_nil ?_
    refine nx_then ?_
    refine wpc_ret ?_
    refine nx_then_ret ?_
    refine nx_ent (ent_nil 5 1) ?_
    refine nx_end (hp' := [row 5 1 none 0 0 []]) (rest := [ro none (u8s [])]) [] ((Value.slice none 0 0)) (by kernel_rfl) (by kernel_rfl) (give [0] (by kernel_rfl)) (by first | ((repeat (first | exact trivial | refine ⟨trivial, ?_⟩)); done) | assumption) ?_ (.inr rfl)
    exact ⟨none, 0, Iff.rfl, rfl, rfl⟩
  | some ad =>
    refine fn_enter Try.func31 rfl 8 rfl fun w0 h0 => ?_
    refine wpc_seq ?_
    refine wpc_region [0] (by kernel_rfl) ?_
    refine wpr_run (l₂ := []) true [0] [] [(2, Value.slice none 0 0), (0, Value.slice (some ad) l.length c)] [ro (some ad) (u8s l)] [] (by kernel_rfl) (by kernel_rfl) trivial ?_
    refine wpr_nil ?_
    refine nx_then ?_
    refine wpc_seq ?_
    refine wpc_seq ?_
    refine wpc_region [0, 1] (by kernel_rfl) ?_
    refine wpr_run (l₂ := []) true [0, 1] [] [(4, Value.bool false), (2, Value.slice none 0 0), (0, Value.slice (some ad) l.length c)] [ro (some ad) (u8s l)] [] (by kernel_rfl) (by kernel_rfl) trivial ?_
    refine wpr_nil ?_
    refine nx_then ?_
    refine wpc_false (by kernel_rfl) ?_
    refine wpc_skip ?_
    refine nx_then ?_
    refine wpc_seq ?_
    refine wpc_region [0, 1, 2, 3] (by kernel_rfl) ?_
    refine wpr_new (l₂ := [1, 2, 3]) true [0] [] (fun g1 => [(5, Value.slice (some { block := g1, off := 0 }) 0 0), (2, Value.slice none 0 0), (0, Value.slice (some ad) l.length c)]) (fun g1 => [ro (some ad) (u8s l), Ch.blk g1 5 []]) (fun g1 => []) (fun g1 => by kernel_rfl) (fun g1 => by kernel_rfl) (fun g1 => trivial) fun g1 => ?_
    refine wpr_run (l₂ := [2, 3]) true [1] [] [(6, Value.slice (some ad) l.length c), (5, Value.slice (some { block := g1, off := 0 }) 0 0), (2, Value.slice none 0 0)] [ro (some ad) (u8s l), Ch.blk g1 5 []] [] (by kernel_rfl) (by kernel_rfl) trivial ?_
    refine wpr_ent (ent_turn 1 (row 5 1 (some ⟨g1, 0, none⟩) 0 0 []) rfl (turn_blk rfl (by intro u hu; cases hu) (by simp)) rfl) ?_
    refine wpr_app (a := (some { block := g1, off := 0 })) (n := 0) (cap := 0) (x := (Value.slice (some ad) l.length c)) (t := 22) (xt := 22) (dst := some 7) (by kernel_rfl) (e := 5) (sz := 1) (bytes := 1) (by kernel_rfl) 1 (xs := []) (by kernel_rfl) (m := (l.length)) (news := (u8s l)) (fun w h => src_ro h 0 rfl (by simp [u8s_len]) (fun e => by cases e)) (by unfold maxLen; omega) (by omega) ?_
    intro a1 c1 hn
    simp only [List.nil_append, Nat.zero_add]
    refine wpr_run (l₂ := []) true [3] [] [(2, Value.slice a1 l.length c1)] [ro (some ad) (u8s l), row 5 1 a1 l.length c1 (u8s l)] [] (by kernel_rfl) (by kernel_rfl) trivial ?_
    refine wpr_nil ?_
    refine nx_then ?_
    refine wpc_ret ?_
    refine nx_end (hp' := [row 5 1 a1 l.length c1 (u8s l)]) (rest := [ro (some ad) (u8s l)]) [] ((Value.slice a1 l.length c1)) (by kernel_rfl) (by kernel_rfl) (give [1] (by kernel_rfl)) (by first | ((repeat (first | exact trivial | refine ⟨trivial, ?_⟩)); done) | assumption) ?_ (.inr rfl)
    exact ⟨a1, c1, ⟨fun e => (nomatch (hn.1 e).1), fun e => (nomatch e)⟩, rfl, rfl⟩
theorem Grow_spec (m : Nat) (hm : m ≤ 1099511627776) : Does Try.prog 35 [.slice none 0 0, .int .i64 (m : Int)] [] (fun v hp' => ∃ a c, v = .slice a 0 c ∧ hp' = [row 5 1 a 0 c []]) := by
  refine fn_enter Try.func35 rfl 27 rfl fun w0 h0 => ?_
  refine wpc_seq ?_
  refine wpc_region [0] (by kernel_rfl) ?_
  refine wpr_run (l₂ := []) true [0] [] [(4, Value.slice none 0 0), (0, Value.slice none 0 0), (1, Value.int IntKind.i64 (↑m : Int))] [] [] (by kernel_rfl) (by kernel_rfl) trivial ?_
  refine wpr_nil ?_
  refine nx_then ?_
  refine wpc_seq ?_
  refine wpc_seq ?_
  refine wpc_region [0, 1] (by kernel_rfl) ?_
  refine wpr_run (l₂ := []) true [0, 1] [] [(6, Value.bool false), (4, Value.slice none 0 0), (0, Value.slice none 0 0), (1, Value.int IntKind.i64 (↑m : Int))] [] [] (by kernel_rfl) (by kernel_rfl) trivial ?_
  refine wpr_nil ?_
  refine nx_then ?_
  refine wpc_false (by kernel_rfl) ?_
  refine wpc_skip ?_
  refine nx_then ?_
  refine wpc_seq ?_
  refine wpc_seq ?_
  refine wpc_region [0, 1, 2, 3, 4, 5, 6, 7] (by kernel_rfl) ?_
  refine wpr_run (l₂ := []) true [0, 1, 2, 3, 4, 5, 6, 7] [] [(1, Value.int IntKind.i64 ((↑m : Int) - 0)), (4, Value.slice none 0 0), (0, Value.slice none 0 0)] [] [inI64 ((0 : Int) - (0 : Int)), inI64 ((↑m : Int) - (0 : Int))] (by kernel_rfl) (by kernel_rfl) ⟨by unfold inI64; omega, by unfold inI64; omega, trivial⟩ ?_
  refine wpr_nil ?_
  refine nx_then ?_
  refine wpc_seq ?_
  refine wpc_region [0, 1] (by kernel_rfl) ?_
  refine wpr_run (l₂ := []) true [0, 1] [] [(16, Value.bool (decide ((↑m : Int) - 0 > 0))), (1, Value.int IntKind.i64 ((↑m : Int) - 0)), (4, Value.slice none 0 0), (0, Value.slice none 0 0)] [] [] (by kernel_rfl) (by kernel_rfl) trivial ?_
  refine wpr_nil ?_
  refine nx_then ?_
  by_cases h0 : m = 0
  · subst h0
    refine wpc_false (by kernel_rfl) ?_
    refine wpc_skip ?_
    refine nx_then ?_
    refine wpc_seq ?_
    refine wpc_region [0, 1] (by kernel_rfl) ?_
    refine wpr_run (l₂ := []) true [0, 1] [] [(4, Value.slice none 0 0)] [] [] (by kernel_rfl) (by kernel_rfl) trivial ?_
    refine wpr_nil ?_
    refine nx_then ?_
    refine wpc_ret ?_
    refine nx_ent (ent_nil 5 1) ?_
    refine nx_end (hp' := [row 5 1 none 0 0 []]) (rest := []) [] ((Value.slice none 0 0)) (by kernel_rfl) (by kernel_rfl) give_all (by first | ((repeat (first | exact trivial | refine ⟨trivial, ?_⟩)); done) | assumption) ?_ (.inr rfl)
    exact ⟨none, 0, rfl, rfl⟩
  refine wpc_ent (ent_set 16 (Value.bool (decide ((↑m : Int) - 0 > 0))) (Value.bool true) (by kernel_rfl) (congrArg _ (decide_eq_true (by omega)))) ?_
  refine wpc_true (by kernel_rfl) ?_
  refine wpc_region [0, 1, 2, 3, 4, 5, 6, 7, 8, 9] (by kernel_rfl) ?_
  refine wpr_run (l₂ := [5, 6, 7, 8, 9]) true [0, 1, 2, 3, 4] [] [(21, Value.int IntKind.i64 ((↑m : Int) - 0)), (20, Value.slice none 0 0), (4, Value.slice none 0 0), (0, Value.slice none 0 0)] [] [(0 : Int) ≤ (0 : Int) ∧ (0 : Int) ≤ (↑(0 : Nat) : Int)] (by kernel_rfl) (by kernel_rfl) ⟨by omega, trivial⟩ ?_
  refine wpr_ent (ent_set 21 (Value.int IntKind.i64 ((↑m : Int) - 0)) (Value.int .i64 (m : Int)) (by kernel_rfl) (by simp)) ?_
  refine wpr_appz (i := 5) (m := m) (k' := IntKind.i64) (t := 22) (xt := 3) (dst := some 22) (by kernel_rfl) (e := 5) (sz := 1) (bytes := 1) (by kernel_rfl) (by omega) (by omega) (by omega) ?_
  intro g cap zs
  refine wpr_ent (ent_turn 0 (row 5 1 (some ⟨g, 0, none⟩) 0 cap []) rfl (turn_cut (xs := zs) 0 cap (Nat.zero_le _) (Nat.zero_le _) (Nat.le_refl _)) rfl) ?_
  refine wpr_run (l₂ := []) true [6, 7, 8, 9] [] [(0, Value.slice (some { block := g, off := 0 }) 0 cap), (4, Value.slice none 0 0)] [row 5 1 (some { block := g, off := 0 }) 0 cap []] [(0 : Int) ≤ (0 : Int) ∧ (0 : Int) ≤ (↑cap : Int)] (by kernel_rfl) (by kernel_rfl) ⟨by omega, trivial⟩ ?_
  refine wpr_nil ?_
  refine nx_then ?_
  refine wpc_seq ?_
  refine wpc_region [0, 1] (by kernel_rfl) ?_
  refine wpr_run (l₂ := []) true [0, 1] [] [(4, Value.slice (some { block := g, off := 0 }) 0 cap)] [row 5 1 (some { block := g, off := 0 }) 0 cap []] [] (by kernel_rfl) (by kernel_rfl) trivial ?_
  refine wpr_nil ?_
  refine nx_then ?_
  refine wpc_ret ?_
  refine nx_end (hp' := [row 5 1 (some { block := g, off := 0 }) 0 cap []]) (rest := []) [] ((Value.slice (some { block := g, off := 0 }) 0 cap)) (by kernel_rfl) (by kernel_rfl) give_all (by first | ((repeat (first | exact trivial | refine ⟨trivial, ?_⟩)); done) | assumption) ?_ (.inr rfl)
  exact ⟨_, cap, rfl, rfl⟩

theorem u8s_nil' : u8s [] = [] := rfl
theorem u8s_app' (a b : List UInt8) : u8s (a ++ b) = u8s a ++ u8s b := by simp [u8s]
def cat4 (l0 l1 l2 l3 : List UInt8) : Nat → List UInt8 | 0 => [] | 1 => l0 | 2 => l0 ++ l1 | 3 => l0 ++ l1 ++ l2 | _ => l0 ++ l1 ++ l2 ++ l3
theorem Concat_spec (g : Nat) (a0 a1 a2 a3 : Option Addr) (c0 c1 c2 c3 : Nat) (l0 l1 l2 l3 : List UInt8) (n0 : a0 = none → l0 = []) (n1 : a1 = none → l1 = []) (n2 : a2 = none → l2 = []) (n3 : a3 = none → l3 = [])
    (hl : l0.length + l1.length + l2.length + l3.length ≤ 1099511627776) :
    Does Try.prog 25 [.slice (some ⟨g, 0, none⟩) 4 4] [.blk g 22 [.slice a0 l0.length c0, .slice a1 l1.length c1, .slice a2 l2.length c2, .slice a3 l3.length c3], ro a0 (u8s l0), ro a1 (u8s l1), ro a2 (u8s l2), ro a3 (u8s l3)]
      (fun v hp' => ∃ a c, v = .slice a (l0 ++ l1 ++ l2 ++ l3).length c ∧ hp' = [row 5 1 a (l0 ++ l1 ++ l2 ++ l3).length c (u8s (l0 ++ l1 ++ l2 ++ l3))]) := by
  refine fn_enter Try.func25 rfl 36 rfl fun w0 h0 => ?_
  refine wpc_seq ?_
  refine wpc_region [0] (by kernel_rfl) ?_
  refine wpr_run (l₂ := []) true [0] [] [(2, Value.slice none 0 0), (0, Value.slice (some { block := g, off := 0 }) 4 4)] [Ch.blk g 22 [Value.slice a0 l0.length c0, Value.slice a1 l1.length c1, Value.slice a2 l2.length c2, Value.slice a3 l3.length c3], ro a0 (u8s l0), ro a1 (u8s l1), ro a2 (u8s l2), ro a3 (u8s l3)] [] (by kernel_rfl) (by kernel_rfl) trivial ?_
  refine wpr_nil ?_
  refine nx_then ?_
  refine wpc_seq ?_
  refine wpc_region [0] (by kernel_rfl) ?_
  refine wpr_run (l₂ := []) true [0] [] [(3, Value.int IntKind.i64 0), (2, Value.slice none 0 0), (0, Value.slice (some { block := g, off := 0 }) 4 4)] [Ch.blk g 22 [Value.slice a0 l0.length c0, Value.slice a1 l1.length c1, Value.slice a2 l2.length c2, Value.slice a3 l3.length c3], ro a0 (u8s l0), ro a1 (u8s l1), ro a2 (u8s l2), ro a3 (u8s l3)] [] (by kernel_rfl) (by kernel_rfl) trivial ?_
  refine wpr_nil ?_
  refine nx_then ?_
  refine wpc_seq ?_
  refine wpc_seq ?_
  refine wpc_region [0, 1, 2] (by kernel_rfl) ?_
  refine wpr_run (l₂ := []) true [0, 1, 2] [] [(11, Value.int IntKind.i64 0), (10, Value.int IntKind.i64 4), (9, Value.slice (some { block := g, off := 0 }) 4 4), (3, Value.int IntKind.i64 0), (2, Value.slice none 0 0), (0, Value.slice (some { block := g, off := 0 }) 4 4)] [Ch.blk g 22 [Value.slice a0 l0.length c0, Value.slice a1 l1.length c1, Value.slice a2 l2.length c2, Value.slice a3 l3.length c3], ro a0 (u8s l0), ro a1 (u8s l1), ro a2 (u8s l2), ro a3 (u8s l3)] [] (by kernel_rfl) (by kernel_rfl) trivial ?_
  refine wpr_nil ?_
  refine nx_then ?_
  refine wpc_block ?_
  refine wpc_loop (X := {i : Nat // i ≤ 4}) (fun x => St.mk [(11, .int .i64 (x.1 : Int)), (10, .int .i64 4), (9, .slice (some ⟨g, 0, none⟩) 4 4), (3, .int .i64 ((match x.1 with | 0 => 0 | 1 => l0.length | 2 => l0.length + l1.length | 3 => l0.length + l1.length + l2.length | _ => l0.length + l1.length + l2.length + l3.length : Nat) : Int)), (2, .slice none 0 0), (0, .slice (some ⟨g, 0, none⟩) 4 4)]
    [.blk g 22 [.slice a0 l0.length c0, .slice a1 l1.length c1, .slice a2 l2.length c2, .slice a3 l3.length c3], ro a0 (u8s l0), ro a1 (u8s l1), ro a2 (u8s l2), ro a3 (u8s l3)]) (fun x => 4 - x.1) ⟨0, by decide⟩ (ent_fr (by kernel_rfl)) ?_
  rintro ⟨i, hi⟩
  rcases i with _ | _ | _ | _ | i
  · dsimp only
    refine wpc_seq ?_
    refine wpc_region [0] (by kernel_rfl) ?_
    refine wpr_run (l₂ := []) true [0] [] ([(12, Value.bool true), (11, Value.int IntKind.i64 0), (10, Value.int IntKind.i64 4), (9, Value.slice (some { block := g, off := 0 }) 4 4),
      (3,
        Value.int IntKind.i64
          (↑(match 0 with
              | 0 => 0
              | 1 => l0.length
              | 2 => l0.length + l1.length
              | 3 => l0.length + l1.length + l2.length
              | x => l0.length + l1.length + l2.length + l3.length) :
            Int)),
      (2, Value.slice none 0 0), (0, Value.slice (some { block := g, off := 0 }) 4 4)]) [Ch.blk g 22 [Value.slice a0 l0.length c0, Value.slice a1 l1.length c1, Value.slice a2 l2.length c2, Value.slice a3 l3.length c3], ro a0 (u8s l0), ro a1 (u8s l1), ro a2 (u8s l2), ro a3 (u8s l3)] [] (by kernel_rfl) (by kernel_rfl) trivial ?_
    refine wpr_nil ?_
    refine nx_then ?_
    refine wpc_seq ?_
    refine wpc_true (by kernel_rfl) ?_
    refine wpc_skip ?_
    refine nx_then ?_
    refine wpc_seq ?_
    refine wpc_block ?_
    refine wpc_seq ?_
    refine wpc_region [0, 1, 2] (by kernel_rfl) ?_
    refine wpr_run (l₂ := []) true [0, 1, 2] [0] [(5, Value.slice a0 l0.length c0), (11, Value.int IntKind.i64 0), (10, Value.int IntKind.i64 4), (9, Value.slice (some { block := g, off := 0 }) 4 4), (3, Value.int IntKind.i64 0), (2, Value.slice none 0 0), (0, Value.slice (some { block := g, off := 0 }) 4 4)] [Ch.blk g 22 [Value.slice a0 l0.length c0, Value.slice a1 l1.length c1, Value.slice a2 l2.length c2, Value.slice a3 l3.length c3], ro a0 (u8s l0), ro a1 (u8s l1), ro a2 (u8s l2), ro a3 (u8s l3)] [(0 : Int) ≤ (0 : Int) ∧ (0 : Int) < (↑(4 : Nat) : Int)] (by kernel_rfl) (by kernel_rfl) ⟨by omega, trivial⟩ ?_
    refine wpr_nil ?_
    refine nx_then ?_
    refine wpc_seq ?_
    refine wpc_region [0, 1, 2, 3, 4] (by kernel_rfl) ?_
    refine wpr_run (l₂ := []) true [0, 1, 2, 3, 4] [] ([(3, Value.int IntKind.i64 (0 + (↑l0.length : Int))), (11, Value.int IntKind.i64 0), (10, Value.int IntKind.i64 4), (9, Value.slice (some { block := g, off := 0 }) 4 4), (2, Value.slice none 0 0), (0, Value.slice (some { block := g, off := 0 }) 4 4)]) [Ch.blk g 22 [Value.slice a0 l0.length c0, Value.slice a1 l1.length c1, Value.slice a2 l2.length c2, Value.slice a3 l3.length c3], ro a0 (u8s l0), ro a1 (u8s l1), ro a2 (u8s l2), ro a3 (u8s l3)] ([inI64 ((0 : Int) + (↑l0.length : Int))]) (by kernel_rfl) (by kernel_rfl) ⟨by unfold inI64; omega, trivial⟩ ?_
    refine wpr_nil ?_
    refine nx_then ?_
    refine wpc_seq ?_
    refine wpc_region [0, 1] (by kernel_rfl) ?_
    refine wpr_run (l₂ := []) true [0, 1] [] ([(20, Value.bool false), (3, Value.int IntKind.i64 (0 + (↑l0.length : Int))), (11, Value.int IntKind.i64 0), (10, Value.int IntKind.i64 4), (9, Value.slice (some { block := g, off := 0 }) 4 4), (2, Value.slice none 0 0), (0, Value.slice (some { block := g, off := 0 }) 4 4)]) [Ch.blk g 22 [Value.slice a0 l0.length c0, Value.slice a1 l1.length c1, Value.slice a2 l2.length c2, Value.slice a3 l3.length c3], ro a0 (u8s l0), ro a1 (u8s l1), ro a2 (u8s l2), ro a3 (u8s l3)] [] (by kernel_rfl) (by kernel_rfl) trivial ?_
    refine wpr_nil ?_
    refine nx_then ?_
    refine wpc_false (by kernel_rfl) ?_
    refine wpc_skip ?_
    refine nx_block ?_
    refine nx_then ?_
    refine wpc_region [0, 1] (by kernel_rfl) ?_
    refine wpr_run (l₂ := []) true [0, 1] [] ([(11, Value.int IntKind.i64 1), (3, Value.int IntKind.i64 (0 + (↑l0.length : Int))), (10, Value.int IntKind.i64 4), (9, Value.slice (some { block := g, off := 0 }) 4 4), (2, Value.slice none 0 0), (0, Value.slice (some { block := g, off := 0 }) 4 4)]) [Ch.blk g 22 [Value.slice a0 l0.length c0, Value.slice a1 l1.length c1, Value.slice a2 l2.length c2, Value.slice a3 l3.length c3], ro a0 (u8s l0), ro a1 (u8s l1), ro a2 (u8s l2), ro a3 (u8s l3)] ([inI64 ((0 : Int) + (1 : Int))]) (by kernel_rfl) (by kernel_rfl) ⟨by unfold inI64; omega, trivial⟩ ?_
    refine wpr_nil ?_
    refine nx_ent (ent_set 3 (Value.int IntKind.i64 (0 + (↑l0.length : Int))) (Value.int .i64 ((l0.length : Nat) : Int)) (by kernel_rfl) (by simp)) ?_
    exact fun a' w' hS' => ⟨⟨1, by decide⟩, by dsimp only; omega, ent_fr (by kernel_rfl) _ _ (ent_hp [0, 0, 0, 0, 0] rfl _ _ hS')⟩
  · dsimp only
    refine wpc_seq ?_
    refine wpc_region [0] (by kernel_rfl) ?_
    refine wpr_run (l₂ := []) true [0] [] ([(12, Value.bool true), (11, Value.int IntKind.i64 1), (10, Value.int IntKind.i64 4), (9, Value.slice (some { block := g, off := 0 }) 4 4),
      (3,
        Value.int IntKind.i64
          (↑(match 0 + 1 with
              | 0 => 0
              | 1 => l0.length
              | 2 => l0.length + l1.length
              | 3 => l0.length + l1.length + l2.length
              | x => l0.length + l1.length + l2.length + l3.length) :
            Int)),
      (2, Value.slice none 0 0), (0, Value.slice (some { block := g, off := 0 }) 4 4)]) [Ch.blk g 22 [Value.slice a0 l0.length c0, Value.slice a1 l1.length c1, Value.slice a2 l2.length c2, Value.slice a3 l3.length c3], ro a0 (u8s l0), ro a1 (u8s l1), ro a2 (u8s l2), ro a3 (u8s l3)] [] (by kernel_rfl) (by kernel_rfl) trivial ?_
    refine wpr_nil ?_
    refine nx_then ?_
    refine wpc_seq ?_
    refine wpc_true (by kernel_rfl) ?_
    refine wpc_skip ?_
    refine nx_then ?_
    refine wpc_seq ?_
    refine wpc_block ?_
    refine wpc_seq ?_
    refine wpc_region [0, 1, 2] (by kernel_rfl) ?_
    refine wpr_run (l₂ := []) true [0, 1, 2] [0] [(5, Value.slice a1 l1.length c1), (11, Value.int IntKind.i64 1), (10, Value.int IntKind.i64 4), (9, Value.slice (some { block := g, off := 0 }) 4 4), (3, Value.int IntKind.i64 (↑l0.length : Int)), (2, Value.slice none 0 0), (0, Value.slice (some { block := g, off := 0 }) 4 4)] [Ch.blk g 22 [Value.slice a0 l0.length c0, Value.slice a1 l1.length c1, Value.slice a2 l2.length c2, Value.slice a3 l3.length c3], ro a0 (u8s l0), ro a1 (u8s l1), ro a2 (u8s l2), ro a3 (u8s l3)] [(0 : Int) ≤ (1 : Int) ∧ (1 : Int) < (↑(4 : Nat) : Int)] (by kernel_rfl) (by kernel_rfl) ⟨by omega, trivial⟩ ?_
    refine wpr_nil ?_
    refine nx_then ?_
    refine wpc_seq ?_
    refine wpc_region [0, 1, 2, 3, 4] (by kernel_rfl) ?_
    refine wpr_run (l₂ := []) true [0, 1, 2, 3, 4] [] ([(3, Value.int IntKind.i64 ((↑l0.length : Int) + (↑l1.length : Int))), (11, Value.int IntKind.i64 1), (10, Value.int IntKind.i64 4), (9, Value.slice (some { block := g, off := 0 }) 4 4), (2, Value.slice none 0 0), (0, Value.slice (some { block := g, off := 0 }) 4 4)]) [Ch.blk g 22 [Value.slice a0 l0.length c0, Value.slice a1 l1.length c1, Value.slice a2 l2.length c2, Value.slice a3 l3.length c3], ro a0 (u8s l0), ro a1 (u8s l1), ro a2 (u8s l2), ro a3 (u8s l3)] ([inI64 ((↑l0.length : Int) + (↑l1.length : Int))]) (by kernel_rfl) (by kernel_rfl) ⟨by unfold inI64; omega, trivial⟩ ?_
    refine wpr_nil ?_
    refine nx_then ?_
    refine wpc_seq ?_
    refine wpc_region [0, 1] (by kernel_rfl) ?_
    refine wpr_run (l₂ := []) true [0, 1] [] ([(20, Value.bool false), (3, Value.int IntKind.i64 ((↑l0.length : Int) + (↑l1.length : Int))), (11, Value.int IntKind.i64 1), (10, Value.int IntKind.i64 4), (9, Value.slice (some { block := g, off := 0 }) 4 4), (2, Value.slice none 0 0), (0, Value.slice (some { block := g, off := 0 }) 4 4)]) [Ch.blk g 22 [Value.slice a0 l0.length c0, Value.slice a1 l1.length c1, Value.slice a2 l2.length c2, Value.slice a3 l3.length c3], ro a0 (u8s l0), ro a1 (u8s l1), ro a2 (u8s l2), ro a3 (u8s l3)] [] (by kernel_rfl) (by kernel_rfl) trivial ?_
    refine wpr_nil ?_
    refine nx_then ?_
    refine wpc_false (by kernel_rfl) ?_
    refine wpc_skip ?_
    refine nx_block ?_
    refine nx_then ?_
    refine wpc_region [0, 1] (by kernel_rfl) ?_
    refine wpr_run (l₂ := []) true [0, 1] [] ([(11, Value.int IntKind.i64 2), (3, Value.int IntKind.i64 ((↑l0.length : Int) + (↑l1.length : Int))), (10, Value.int IntKind.i64 4), (9, Value.slice (some { block := g, off := 0 }) 4 4), (2, Value.slice none 0 0), (0, Value.slice (some { block := g, off := 0 }) 4 4)]) [Ch.blk g 22 [Value.slice a0 l0.length c0, Value.slice a1 l1.length c1, Value.slice a2 l2.length c2, Value.slice a3 l3.length c3], ro a0 (u8s l0), ro a1 (u8s l1), ro a2 (u8s l2), ro a3 (u8s l3)] ([inI64 ((1 : Int) + (1 : Int))]) (by kernel_rfl) (by kernel_rfl) ⟨by unfold inI64; omega, trivial⟩ ?_
    refine wpr_nil ?_
    refine nx_ent (ent_set 3 (Value.int IntKind.i64 ((↑l0.length : Int) + (↑l1.length : Int))) (Value.int .i64 ((l0.length + l1.length : Nat) : Int)) (by kernel_rfl) (by simp)) ?_
    exact fun a' w' hS' => ⟨⟨2, by decide⟩, by dsimp only; omega, ent_fr (by kernel_rfl) _ _ (ent_hp [0, 0, 0, 0, 0] rfl _ _ hS')⟩
  · dsimp only
    refine wpc_seq ?_
    refine wpc_region [0] (by kernel_rfl) ?_
    refine wpr_run (l₂ := []) true [0] [] ([(12, Value.bool true), (11, Value.int IntKind.i64 2), (10, Value.int IntKind.i64 4), (9, Value.slice (some { block := g, off := 0 }) 4 4),
      (3,
        Value.int IntKind.i64
          (↑(match 0 + 1 + 1 with
              | 0 => 0
              | 1 => l0.length
              | 2 => l0.length + l1.length
              | 3 => l0.length + l1.length + l2.length
              | x => l0.length + l1.length + l2.length + l3.length) :
            Int)),
      (2, Value.slice none 0 0), (0, Value.slice (some { block := g, off := 0 }) 4 4)]) [Ch.blk g 22 [Value.slice a0 l0.length c0, Value.slice a1 l1.length c1, Value.slice a2 l2.length c2, Value.slice a3 l3.length c3], ro a0 (u8s l0), ro a1 (u8s l1), ro a2 (u8s l2), ro a3 (u8s l3)] [] (by kernel_rfl) (by kernel_rfl) trivial ?_
    refine wpr_nil ?_
    refine nx_then ?_
    refine wpc_seq ?_
    refine wpc_true (by kernel_rfl) ?_
    refine wpc_skip ?_
    refine nx_then ?_
    refine wpc_seq ?_
    refine wpc_block ?_
    refine wpc_seq ?_
    refine wpc_region [0, 1, 2] (by kernel_rfl) ?_
    refine wpr_run (l₂ := []) true [0, 1, 2] [0] ([(5, Value.slice a2 l2.length c2), (11, Value.int IntKind.i64 2), (10, Value.int IntKind.i64 4), (9, Value.slice (some { block := g, off := 0 }) 4 4), (3, Value.int IntKind.i64 ((↑l0.length : Int) + (↑l1.length : Int))), (2, Value.slice none 0 0), (0, Value.slice (some { block := g, off := 0 }) 4 4)]) [Ch.blk g 22 [Value.slice a0 l0.length c0, Value.slice a1 l1.length c1, Value.slice a2 l2.length c2, Value.slice a3 l3.length c3], ro a0 (u8s l0), ro a1 (u8s l1), ro a2 (u8s l2), ro a3 (u8s l3)] [(0 : Int) ≤ (2 : Int) ∧ (2 : Int) < (↑(4 : Nat) : Int)] (by kernel_rfl) (by kernel_rfl) ⟨by omega, trivial⟩ ?_
    refine wpr_nil ?_
    refine nx_then ?_
    refine wpc_seq ?_
    refine wpc_region [0, 1, 2, 3, 4] (by kernel_rfl) ?_
    refine wpr_run (l₂ := []) true [0, 1, 2, 3, 4] [] ([(3, Value.int IntKind.i64 ((↑l0.length : Int) + (↑l1.length : Int) + (↑l2.length : Int))), (11, Value.int IntKind.i64 2), (10, Value.int IntKind.i64 4), (9, Value.slice (some { block := g, off := 0 }) 4 4), (2, Value.slice none 0 0), (0, Value.slice (some { block := g, off := 0 }) 4 4)]) [Ch.blk g 22 [Value.slice a0 l0.length c0, Value.slice a1 l1.length c1, Value.slice a2 l2.length c2, Value.slice a3 l3.length c3], ro a0 (u8s l0), ro a1 (u8s l1), ro a2 (u8s l2), ro a3 (u8s l3)] ([inI64 ((↑l0.length : Int) + (↑l1.length : Int) + (↑l2.length : Int))]) (by kernel_rfl) (by kernel_rfl) ⟨by unfold inI64; omega, trivial⟩ ?_
    refine wpr_nil ?_
    refine nx_then ?_
    refine wpc_seq ?_
    refine wpc_region [0, 1] (by kernel_rfl) ?_
    refine wpr_run (l₂ := []) true [0, 1] [] ([(20, Value.bool false), (3, Value.int IntKind.i64 ((↑l0.length : Int) + (↑l1.length : Int) + (↑l2.length : Int))), (11, Value.int IntKind.i64 2), (10, Value.int IntKind.i64 4), (9, Value.slice (some { block := g, off := 0 }) 4 4), (2, Value.slice none 0 0), (0, Value.slice (some { block := g, off := 0 }) 4 4)]) [Ch.blk g 22 [Value.slice a0 l0.length c0, Value.slice a1 l1.length c1, Value.slice a2 l2.length c2, Value.slice a3 l3.length c3], ro a0 (u8s l0), ro a1 (u8s l1), ro a2 (u8s l2), ro a3 (u8s l3)] [] (by kernel_rfl) (by kernel_rfl) trivial ?_
    refine wpr_nil ?_
    refine nx_then ?_
    refine wpc_false (by kernel_rfl) ?_
    refine wpc_skip ?_
    refine nx_block ?_
    refine nx_then ?_
    refine wpc_region [0, 1] (by kernel_rfl) ?_
    refine wpr_run (l₂ := []) true [0, 1] [] ([(11, Value.int IntKind.i64 3), (3, Value.int IntKind.i64 ((↑l0.length : Int) + (↑l1.length : Int) + (↑l2.length : Int))), (10, Value.int IntKind.i64 4), (9, Value.slice (some { block := g, off := 0 }) 4 4), (2, Value.slice none 0 0), (0, Value.slice (some { block := g, off := 0 }) 4 4)]) [Ch.blk g 22 [Value.slice a0 l0.length c0, Value.slice a1 l1.length c1, Value.slice a2 l2.length c2, Value.slice a3 l3.length c3], ro a0 (u8s l0), ro a1 (u8s l1), ro a2 (u8s l2), ro a3 (u8s l3)] ([inI64 ((2 : Int) + (1 : Int))]) (by kernel_rfl) (by kernel_rfl) ⟨by unfold inI64; omega, trivial⟩ ?_
    refine wpr_nil ?_
    refine nx_ent (ent_set 3 (Value.int IntKind.i64 ((↑l0.length : Int) + (↑l1.length : Int) + (↑l2.length : Int))) (Value.int .i64 ((l0.length + l1.length + l2.length : Nat) : Int)) (by kernel_rfl) (by simp)) ?_
    exact fun a' w' hS' => ⟨⟨3, by decide⟩, by dsimp only; omega, ent_fr (by kernel_rfl) _ _ (ent_hp [0, 0, 0, 0, 0] rfl _ _ hS')⟩
  · dsimp only
    refine wpc_seq ?_
    refine wpc_region [0] (by kernel_rfl) ?_
    refine wpr_run (l₂ := []) true [0] [] ([(12, Value.bool true), (11, Value.int IntKind.i64 3), (10, Value.int IntKind.i64 4), (9, Value.slice (some { block := g, off := 0 }) 4 4),
      (3,
        Value.int IntKind.i64
          (↑(match 0 + 1 + 1 + 1 with
              | 0 => 0
              | 1 => l0.length
              | 2 => l0.length + l1.length
              | 3 => l0.length + l1.length + l2.length
              | x => l0.length + l1.length + l2.length + l3.length) :
            Int)),
      (2, Value.slice none 0 0), (0, Value.slice (some { block := g, off := 0 }) 4 4)]) [Ch.blk g 22 [Value.slice a0 l0.length c0, Value.slice a1 l1.length c1, Value.slice a2 l2.length c2, Value.slice a3 l3.length c3], ro a0 (u8s l0), ro a1 (u8s l1), ro a2 (u8s l2), ro a3 (u8s l3)] [] (by kernel_rfl) (by kernel_rfl) trivial ?_
    refine wpr_nil ?_
    refine nx_then ?_
    refine wpc_seq ?_
    refine wpc_true (by kernel_rfl) ?_
    refine wpc_skip ?_
    refine nx_then ?_
    refine wpc_seq ?_
    refine wpc_block ?_
    refine wpc_seq ?_
    refine wpc_region [0, 1, 2] (by kernel_rfl) ?_
    refine wpr_run (l₂ := []) true [0, 1, 2] [0] ([(5, Value.slice a3 l3.length c3), (11, Value.int IntKind.i64 3), (10, Value.int IntKind.i64 4), (9, Value.slice (some { block := g, off := 0 }) 4 4), (3, Value.int IntKind.i64 ((↑l0.length : Int) + (↑l1.length : Int) + (↑l2.length : Int))), (2, Value.slice none 0 0), (0, Value.slice (some { block := g, off := 0 }) 4 4)]) [Ch.blk g 22 [Value.slice a0 l0.length c0, Value.slice a1 l1.length c1, Value.slice a2 l2.length c2, Value.slice a3 l3.length c3], ro a0 (u8s l0), ro a1 (u8s l1), ro a2 (u8s l2), ro a3 (u8s l3)] [(0 : Int) ≤ (3 : Int) ∧ (3 : Int) < (↑(4 : Nat) : Int)] (by kernel_rfl) (by kernel_rfl) ⟨by omega, trivial⟩ ?_
    refine wpr_nil ?_
    refine nx_then ?_
    refine wpc_seq ?_
    refine wpc_region [0, 1, 2, 3, 4] (by kernel_rfl) ?_
    refine wpr_run (l₂ := []) true [0, 1, 2, 3, 4] [] ([(3, Value.int IntKind.i64 ((↑l0.length : Int) + (↑l1.length : Int) + (↑l2.length : Int) + (↑l3.length : Int))), (11, Value.int IntKind.i64 3), (10, Value.int IntKind.i64 4), (9, Value.slice (some { block := g, off := 0 }) 4 4), (2, Value.slice none 0 0), (0, Value.slice (some { block := g, off := 0 }) 4 4)]) [Ch.blk g 22 [Value.slice a0 l0.length c0, Value.slice a1 l1.length c1, Value.slice a2 l2.length c2, Value.slice a3 l3.length c3], ro a0 (u8s l0), ro a1 (u8s l1), ro a2 (u8s l2), ro a3 (u8s l3)] ([inI64 ((↑l0.length : Int) + (↑l1.length : Int) + (↑l2.length : Int) + (↑l3.length : Int))]) (by kernel_rfl) (by kernel_rfl) ⟨by unfold inI64; omega, trivial⟩ ?_
    refine wpr_nil ?_
    refine nx_then ?_
    refine wpc_seq ?_
    refine wpc_region [0, 1] (by kernel_rfl) ?_
    refine wpr_run (l₂ := []) true [0, 1] [] ([(20, Value.bool false), (3, Value.int IntKind.i64 ((↑l0.length : Int) + (↑l1.length : Int) + (↑l2.length : Int) + (↑l3.length : Int))), (11, Value.int IntKind.i64 3), (10, Value.int IntKind.i64 4), (9, Value.slice (some { block := g, off := 0 }) 4 4), (2, Value.slice none 0 0), (0, Value.slice (some { block := g, off := 0 }) 4 4)]) [Ch.blk g 22 [Value.slice a0 l0.length c0, Value.slice a1 l1.length c1, Value.slice a2 l2.length c2, Value.slice a3 l3.length c3], ro a0 (u8s l0), ro a1 (u8s l1), ro a2 (u8s l2), ro a3 (u8s l3)] [] (by kernel_rfl) (by kernel_rfl) trivial ?_
    refine wpr_nil ?_
    refine nx_then ?_
    refine wpc_false (by kernel_rfl) ?_
    refine wpc_skip ?_
    refine nx_block ?_
    refine nx_then ?_
    refine wpc_region [0, 1] (by kernel_rfl) ?_
    refine wpr_run (l₂ := []) true [0, 1] [] ([(11, Value.int IntKind.i64 4), (3, Value.int IntKind.i64 ((↑l0.length : Int) + (↑l1.length : Int) + (↑l2.length : Int) + (↑l3.length : Int))), (10, Value.int IntKind.i64 4), (9, Value.slice (some { block := g, off := 0 }) 4 4), (2, Value.slice none 0 0), (0, Value.slice (some { block := g, off := 0 }) 4 4)]) [Ch.blk g 22 [Value.slice a0 l0.length c0, Value.slice a1 l1.length c1, Value.slice a2 l2.length c2, Value.slice a3 l3.length c3], ro a0 (u8s l0), ro a1 (u8s l1), ro a2 (u8s l2), ro a3 (u8s l3)] ([inI64 ((3 : Int) + (1 : Int))]) (by kernel_rfl) (by kernel_rfl) ⟨by unfold inI64; omega, trivial⟩ ?_
    refine wpr_nil ?_
    refine nx_ent (ent_set 3 (Value.int IntKind.i64 ((↑l0.length : Int) + (↑l1.length : Int) + (↑l2.length : Int) + (↑l3.length : Int))) (Value.int .i64 ((l0.length + l1.length + l2.length + l3.length : Nat) : Int)) (by kernel_rfl) (by simp)) ?_
    exact fun a' w' hS' => ⟨⟨4, by decide⟩, by dsimp only; omega, ent_fr (by kernel_rfl) _ _ (ent_hp [0, 0, 0, 0, 0] rfl _ _ hS')⟩
  have : i = 0 := by omega
  subst this
  dsimp only
  refine wpc_seq ?_
  refine wpc_region [0] (by kernel_rfl) ?_
  refine wpr_run (l₂ := []) true [0] [] ([(12, Value.bool false), (11, Value.int IntKind.i64 4), (10, Value.int IntKind.i64 4), (9, Value.slice (some { block := g, off := 0 }) 4 4),
    (3,
      Value.int IntKind.i64
        (↑(match 0 + 1 + 1 + 1 + 1 with
            | 0 => 0
            | 1 => l0.length
            | 2 => l0.length + l1.length
            | 3 => l0.length + l1.length + l2.length
            | x => l0.length + l1.length + l2.length + l3.length) :
          Int)),
    (2, Value.slice none 0 0), (0, Value.slice (some { block := g, off := 0 }) 4 4)]) [Ch.blk g 22 [Value.slice a0 l0.length c0, Value.slice a1 l1.length c1, Value.slice a2 l2.length c2, Value.slice a3 l3.length c3], ro a0 (u8s l0), ro a1 (u8s l1), ro a2 (u8s l2), ro a3 (u8s l3)] [] (by kernel_rfl) (by kernel_rfl) trivial ?_
  refine wpr_nil ?_
  refine nx_then ?_
  refine wpc_seq ?_
  refine wpc_false (by kernel_rfl) ?_
  refine wpc_exit ?_
  refine nx_then_exit ?_
  refine nx_then_exit ?_
  refine nx_block_here ?_
  refine nx_then ?_
  refine wpc_seq ?_
  refine wpc_region [0, 1, 2] (by kernel_rfl) ?_
  refine wpr_run (l₂ := [1, 2]) true [0] [] ([(23, Value.int IntKind.i64 ((↑l0.length : Int) + (↑l1.length : Int) + (↑l2.length : Int) + (↑l3.length : Int))), (2, Value.slice none 0 0), (0, Value.slice (some { block := g, off := 0 }) 4 4)]) [Ch.blk g 22 [Value.slice a0 l0.length c0, Value.slice a1 l1.length c1, Value.slice a2 l2.length c2, Value.slice a3 l3.length c3], ro a0 (u8s l0), ro a1 (u8s l1), ro a2 (u8s l2), ro a3 (u8s l3)] [] (by kernel_rfl) (by kernel_rfl) trivial ?_
  refine wpr_ent (ent_set 23 (Value.int IntKind.i64 ((↑l0.length : Int) + (↑l1.length : Int) + (↑l2.length : Int) + (↑l3.length : Int))) (Value.int .i64 ((l0.length + l1.length + l2.length + l3.length : Nat) : Int)) (by kernel_rfl) (by simp)) ?_
  refine wpr_call (dst := some 24) (rest := [Ch.blk g 22 [Value.slice a0 l0.length c0, Value.slice a1 l1.length c1, Value.slice a2 l2.length c2, Value.slice a3 l3.length c3], ro a0 (u8s l0), ro a1 (u8s l1), ro a2 (u8s l2), ro a3 (u8s l3)]) (by kernel_rfl) (Grow_spec _ hl) (give [] (by kernel_rfl)) ?_
  rintro v _ ⟨a, c, rfl, rfl⟩
  refine wpr_run (l₂ := []) true [2] [] [(6, Value.slice a 0 c), (2, Value.slice none 0 0), (0, Value.slice (some { block := g, off := 0 }) 4 4)] [row 5 1 a 0 c [], Ch.blk g 22 [Value.slice a0 l0.length c0, Value.slice a1 l1.length c1, Value.slice a2 l2.length c2, Value.slice a3 l3.length c3], ro a0 (u8s l0), ro a1 (u8s l1), ro a2 (u8s l2), ro a3 (u8s l3)] [] (by kernel_rfl) (by kernel_rfl) trivial ?_
  refine wpr_nil ?_
  refine nx_then ?_
  refine wpc_seq ?_
  refine wpc_seq ?_
  refine wpc_region [0, 1, 2] (by kernel_rfl) ?_
  refine wpr_run (l₂ := []) true [0, 1, 2] [] [(27, Value.int IntKind.i64 0), (26, Value.int IntKind.i64 4), (25, Value.slice (some { block := g, off := 0 }) 4 4), (6, Value.slice a 0 c), (2, Value.slice none 0 0)] [row 5 1 a 0 c [], Ch.blk g 22 [Value.slice a0 l0.length c0, Value.slice a1 l1.length c1, Value.slice a2 l2.length c2, Value.slice a3 l3.length c3], ro a0 (u8s l0), ro a1 (u8s l1), ro a2 (u8s l2), ro a3 (u8s l3)] [] (by kernel_rfl) (by kernel_rfl) trivial ?_
  refine wpr_nil ?_
  refine nx_then ?_
  refine wpc_block ?_
  refine wpc_loop (X := {x : Nat × Option Addr × Nat // x.1 ≤ 4}) (fun x => St.mk [(27, .int .i64 (x.1.1 : Int)), (26, .int .i64 4), (25, .slice (some ⟨g, 0, none⟩) 4 4), (6, .slice x.1.2.1 (cat4 l0 l1 l2 l3 x.1.1).length x.1.2.2), (2, .slice none 0 0)]
    [row 5 1 x.1.2.1 (cat4 l0 l1 l2 l3 x.1.1).length x.1.2.2 (u8s (cat4 l0 l1 l2 l3 x.1.1)), .blk g 22 [.slice a0 l0.length c0, .slice a1 l1.length c1, .slice a2 l2.length c2, .slice a3 l3.length c3], ro a0 (u8s l0), ro a1 (u8s l1), ro a2 (u8s l2), ro a3 (u8s l3)]) (fun x => 4 - x.1.1) ⟨(0, a, c), Nat.zero_le _⟩ (ent_fr (by kernel_rfl)) ?_
  rintro ⟨⟨i, a, c⟩, hi⟩
  dsimp only at hi
  have ee1 : (l0 ++ l1).length = l0.length + l1.length := by simp
  have ee2 : (l0 ++ l1 ++ l2).length = l0.length + l1.length + l2.length := by simp; omega
  rcases i with _ | _ | _ | _ | i
  · simp only [cat4, List.length_nil]
    refine wpc_seq ?_
    refine wpc_region [0] (by kernel_rfl) ?_
    refine wpr_run (l₂ := []) true [0] [] [(28, Value.bool true), (27, Value.int IntKind.i64 0), (26, Value.int IntKind.i64 4), (25, Value.slice (some { block := g, off := 0 }) 4 4), (6, Value.slice a 0 c), (2, Value.slice none 0 0)] [row 5 1 a 0 c (u8s []), Ch.blk g 22 [Value.slice a0 l0.length c0, Value.slice a1 l1.length c1, Value.slice a2 l2.length c2, Value.slice a3 l3.length c3], ro a0 (u8s l0), ro a1 (u8s l1), ro a2 (u8s l2), ro a3 (u8s l3)] [] (by kernel_rfl) (by kernel_rfl) trivial ?_
    refine wpr_nil ?_
    refine nx_then ?_
    refine wpc_seq ?_
    refine wpc_true (by kernel_rfl) ?_
    refine wpc_skip ?_
    refine nx_then ?_
    refine wpc_seq ?_
    refine wpc_block ?_
    refine wpc_seq ?_
    refine wpc_region [0, 1, 2] (by kernel_rfl) ?_
    refine wpr_run (l₂ := []) true [0, 1, 2] [1] [(8, Value.slice a0 l0.length c0), (27, Value.int IntKind.i64 0), (26, Value.int IntKind.i64 4), (25, Value.slice (some { block := g, off := 0 }) 4 4), (6, Value.slice a 0 c), (2, Value.slice none 0 0)] [row 5 1 a 0 c (u8s []), Ch.blk g 22 [Value.slice a0 l0.length c0, Value.slice a1 l1.length c1, Value.slice a2 l2.length c2, Value.slice a3 l3.length c3], ro a0 (u8s l0), ro a1 (u8s l1), ro a2 (u8s l2), ro a3 (u8s l3)] [(0 : Int) ≤ (0 : Int) ∧ (0 : Int) < (↑(4 : Nat) : Int)] (by kernel_rfl) (by kernel_rfl) ⟨by omega, trivial⟩ ?_
    refine wpr_nil ?_
    refine nx_then ?_
    refine wpc_region [0, 1, 2, 3] (by kernel_rfl) ?_
    refine wpr_run (l₂ := [2, 3]) true [0, 1] [] [(32, Value.slice a0 l0.length c0), (31, Value.slice a 0 c), (27, Value.int IntKind.i64 0), (26, Value.int IntKind.i64 4), (25, Value.slice (some { block := g, off := 0 }) 4 4), (6, Value.slice a 0 c), (2, Value.slice none 0 0)] [row 5 1 a 0 c (u8s []), Ch.blk g 22 [Value.slice a0 l0.length c0, Value.slice a1 l1.length c1, Value.slice a2 l2.length c2, Value.slice a3 l3.length c3], ro a0 (u8s l0), ro a1 (u8s l1), ro a2 (u8s l2), ro a3 (u8s l3)] [] (by kernel_rfl) (by kernel_rfl) trivial ?_
    refine wpr_app (a := a) (n := 0) (cap := c) (x := (Value.slice a0 l0.length c0)) (t := 22) (xt := 22) (dst := some 33) (by kernel_rfl) (e := 5) (sz := 1) (bytes := 1) (by kernel_rfl) 0 (xs := (u8s [])) (by kernel_rfl) (m := (l0.length)) (news := (u8s l0)) (fun w h => src_ro h 2 rfl (by rw [u8s_len, Nat.mul_one]) (fun e => by rw [n0 e]; rfl)) (by unfold maxLen; omega) (by omega) ?_
    intro b d hn
    simp only [u8s_nil', ← u8s_app', ← List.length_append, List.nil_append, Nat.zero_add]
    refine wpr_run (l₂ := []) true [3] [] [(6, Value.slice b l0.length d), (27, Value.int IntKind.i64 0), (26, Value.int IntKind.i64 4), (25, Value.slice (some { block := g, off := 0 }) 4 4), (2, Value.slice none 0 0)] [row 5 1 b l0.length d (u8s l0), Ch.blk g 22 [Value.slice a0 l0.length c0, Value.slice a1 l1.length c1, Value.slice a2 l2.length c2, Value.slice a3 l3.length c3], ro a0 (u8s l0), ro a1 (u8s l1), ro a2 (u8s l2), ro a3 (u8s l3)] [] (by kernel_rfl) (by kernel_rfl) trivial ?_
    refine wpr_nil ?_
    refine nx_block ?_
    refine nx_then ?_
    refine wpc_region [0, 1] (by kernel_rfl) ?_
    refine wpr_run (l₂ := []) true [0, 1] [] [(27, Value.int IntKind.i64 1), (6, Value.slice b l0.length d), (26, Value.int IntKind.i64 4), (25, Value.slice (some { block := g, off := 0 }) 4 4), (2, Value.slice none 0 0)] [row 5 1 b l0.length d (u8s l0), Ch.blk g 22 [Value.slice a0 l0.length c0, Value.slice a1 l1.length c1, Value.slice a2 l2.length c2, Value.slice a3 l3.length c3], ro a0 (u8s l0), ro a1 (u8s l1), ro a2 (u8s l2), ro a3 (u8s l3)] ([inI64 ((0 : Int) + (1 : Int))]) (by kernel_rfl) (by kernel_rfl) ⟨by unfold inI64; omega, trivial⟩ ?_
    refine wpr_nil ?_
    exact fun a' w' hS' => ⟨⟨(1, b, d), by dsimp only; omega⟩, by dsimp only; omega, ent_fr (by kernel_rfl) _ _ (ent_hp [0, 0, 0, 0, 0, 0] rfl _ _ hS')⟩
  · simp only [cat4, List.length_nil]
    refine wpc_seq ?_
    refine wpc_region [0] (by kernel_rfl) ?_
    refine wpr_run (l₂ := []) true [0] [] [(28, Value.bool true), (27, Value.int IntKind.i64 1), (26, Value.int IntKind.i64 4), (25, Value.slice (some { block := g, off := 0 }) 4 4), (6, Value.slice a l0.length c), (2, Value.slice none 0 0)] [row 5 1 a l0.length c (u8s l0), Ch.blk g 22 [Value.slice a0 l0.length c0, Value.slice a1 l1.length c1, Value.slice a2 l2.length c2, Value.slice a3 l3.length c3], ro a0 (u8s l0), ro a1 (u8s l1), ro a2 (u8s l2), ro a3 (u8s l3)] [] (by kernel_rfl) (by kernel_rfl) trivial ?_
    refine wpr_nil ?_
    refine nx_then ?_
    refine wpc_seq ?_
    refine wpc_true (by kernel_rfl) ?_
    refine wpc_skip ?_
    refine nx_then ?_
    refine wpc_seq ?_
    refine wpc_block ?_
    refine wpc_seq ?_
    refine wpc_region [0, 1, 2] (by kernel_rfl) ?_
    refine wpr_run (l₂ := []) true [0, 1, 2] [1] [(8, Value.slice a1 l1.length c1), (27, Value.int IntKind.i64 1), (26, Value.int IntKind.i64 4), (25, Value.slice (some { block := g, off := 0 }) 4 4), (6, Value.slice a l0.length c), (2, Value.slice none 0 0)] [row 5 1 a l0.length c (u8s l0), Ch.blk g 22 [Value.slice a0 l0.length c0, Value.slice a1 l1.length c1, Value.slice a2 l2.length c2, Value.slice a3 l3.length c3], ro a0 (u8s l0), ro a1 (u8s l1), ro a2 (u8s l2), ro a3 (u8s l3)] [(0 : Int) ≤ (1 : Int) ∧ (1 : Int) < (↑(4 : Nat) : Int)] (by kernel_rfl) (by kernel_rfl) ⟨by omega, trivial⟩ ?_
    refine wpr_nil ?_
    refine nx_then ?_
    refine wpc_region [0, 1, 2, 3] (by kernel_rfl) ?_
    refine wpr_run (l₂ := [2, 3]) true [0, 1] [] [(32, Value.slice a1 l1.length c1), (31, Value.slice a l0.length c), (27, Value.int IntKind.i64 1), (26, Value.int IntKind.i64 4), (25, Value.slice (some { block := g, off := 0 }) 4 4), (6, Value.slice a l0.length c), (2, Value.slice none 0 0)] [row 5 1 a l0.length c (u8s l0), Ch.blk g 22 [Value.slice a0 l0.length c0, Value.slice a1 l1.length c1, Value.slice a2 l2.length c2, Value.slice a3 l3.length c3], ro a0 (u8s l0), ro a1 (u8s l1), ro a2 (u8s l2), ro a3 (u8s l3)] [] (by kernel_rfl) (by kernel_rfl) trivial ?_
    refine wpr_app (a := a) (n := l0.length) (cap := c) (x := (Value.slice a1 l1.length c1)) (t := 22) (xt := 22) (dst := some 33) (by kernel_rfl) (e := 5) (sz := 1) (bytes := 1) (by kernel_rfl) 0 (xs := (u8s l0)) (by kernel_rfl) (m := (l1.length)) (news := (u8s l1)) (fun w h => src_ro h 3 rfl (by rw [u8s_len, Nat.mul_one]) (fun e => by rw [n1 e]; rfl)) (by unfold maxLen; omega) (by omega) ?_
    intro b d hn
    simp only [← u8s_app', ← List.length_append, List.nil_append, Nat.zero_add]
    refine wpr_run (l₂ := []) true [3] [] ([(6, Value.slice b (l0 ++ l1).length d), (27, Value.int IntKind.i64 1), (26, Value.int IntKind.i64 4), (25, Value.slice (some { block := g, off := 0 }) 4 4), (2, Value.slice none 0 0)]) ([row 5 1 b (l0 ++ l1).length d (u8s (l0 ++ l1)), Ch.blk g 22 [Value.slice a0 l0.length c0, Value.slice a1 l1.length c1, Value.slice a2 l2.length c2, Value.slice a3 l3.length c3], ro a0 (u8s l0), ro a1 (u8s l1), ro a2 (u8s l2), ro a3 (u8s l3)]) [] (by kernel_rfl) (by kernel_rfl) trivial ?_
    refine wpr_nil ?_
    refine nx_block ?_
    refine nx_then ?_
    refine wpc_region [0, 1] (by kernel_rfl) ?_
    refine wpr_run (l₂ := []) true [0, 1] [] ([(27, Value.int IntKind.i64 2), (6, Value.slice b (l0 ++ l1).length d), (26, Value.int IntKind.i64 4), (25, Value.slice (some { block := g, off := 0 }) 4 4), (2, Value.slice none 0 0)]) ([row 5 1 b (l0 ++ l1).length d (u8s (l0 ++ l1)), Ch.blk g 22 [Value.slice a0 l0.length c0, Value.slice a1 l1.length c1, Value.slice a2 l2.length c2, Value.slice a3 l3.length c3], ro a0 (u8s l0), ro a1 (u8s l1), ro a2 (u8s l2), ro a3 (u8s l3)]) ([inI64 ((1 : Int) + (1 : Int))]) (by kernel_rfl) (by kernel_rfl) ⟨by unfold inI64; omega, trivial⟩ ?_
    refine wpr_nil ?_
    exact fun a' w' hS' => ⟨⟨(2, b, d), by dsimp only; omega⟩, by dsimp only; omega, ent_fr (by kernel_rfl) _ _ (ent_hp [0, 0, 0, 0, 0, 0] rfl _ _ hS')⟩
  · simp only [cat4, List.length_nil]
    refine wpc_seq ?_
    refine wpc_region [0] (by kernel_rfl) ?_
    refine wpr_run (l₂ := []) true [0] [] ([(28, Value.bool true), (27, Value.int IntKind.i64 2), (26, Value.int IntKind.i64 4), (25, Value.slice (some { block := g, off := 0 }) 4 4), (6, Value.slice a (l0 ++ l1).length c), (2, Value.slice none 0 0)]) ([row 5 1 a (l0 ++ l1).length c (u8s (l0 ++ l1)), Ch.blk g 22 [Value.slice a0 l0.length c0, Value.slice a1 l1.length c1, Value.slice a2 l2.length c2, Value.slice a3 l3.length c3], ro a0 (u8s l0), ro a1 (u8s l1), ro a2 (u8s l2), ro a3 (u8s l3)]) [] (by kernel_rfl) (by kernel_rfl) trivial ?_
    refine wpr_nil ?_
    refine nx_then ?_
    refine wpc_seq ?_
    refine wpc_true (by kernel_rfl) ?_
    refine wpc_skip ?_
    refine nx_then ?_
    refine wpc_seq ?_
    refine wpc_block ?_
    refine wpc_seq ?_
    refine wpc_region [0, 1, 2] (by kernel_rfl) ?_
    refine wpr_run (l₂ := []) true [0, 1, 2] [1] ([(8, Value.slice a2 l2.length c2), (27, Value.int IntKind.i64 2), (26, Value.int IntKind.i64 4), (25, Value.slice (some { block := g, off := 0 }) 4 4), (6, Value.slice a (l0 ++ l1).length c), (2, Value.slice none 0 0)]) ([row 5 1 a (l0 ++ l1).length c (u8s (l0 ++ l1)), Ch.blk g 22 [Value.slice a0 l0.length c0, Value.slice a1 l1.length c1, Value.slice a2 l2.length c2, Value.slice a3 l3.length c3], ro a0 (u8s l0), ro a1 (u8s l1), ro a2 (u8s l2), ro a3 (u8s l3)]) [(0 : Int) ≤ (2 : Int) ∧ (2 : Int) < (↑(4 : Nat) : Int)] (by kernel_rfl) (by kernel_rfl) ⟨by omega, trivial⟩ ?_
    refine wpr_nil ?_
    refine nx_then ?_
    refine wpc_region [0, 1, 2, 3] (by kernel_rfl) ?_
    refine wpr_run (l₂ := [2, 3]) true [0, 1] [] ([(32, Value.slice a2 l2.length c2), (31, Value.slice a (l0 ++ l1).length c), (27, Value.int IntKind.i64 2), (26, Value.int IntKind.i64 4), (25, Value.slice (some { block := g, off := 0 }) 4 4), (6, Value.slice a (l0 ++ l1).length c), (2, Value.slice none 0 0)]) ([row 5 1 a (l0 ++ l1).length c (u8s (l0 ++ l1)), Ch.blk g 22 [Value.slice a0 l0.length c0, Value.slice a1 l1.length c1, Value.slice a2 l2.length c2, Value.slice a3 l3.length c3], ro a0 (u8s l0), ro a1 (u8s l1), ro a2 (u8s l2), ro a3 (u8s l3)]) [] (by kernel_rfl) (by kernel_rfl) trivial ?_
    refine wpr_app (a := a) (n := ((l0 ++ l1).length)) (cap := c) (x := (Value.slice a2 l2.length c2)) (t := 22) (xt := 22) (dst := some 33) (by kernel_rfl) (e := 5) (sz := 1) (bytes := 1) (by kernel_rfl) 0 (xs := (u8s (l0 ++ l1))) (by kernel_rfl) (m := (l2.length)) (news := (u8s l2)) (fun w h => src_ro h 4 rfl (by rw [u8s_len, Nat.mul_one]) (fun e => by rw [n2 e]; rfl)) (by unfold maxLen; omega) (by omega) ?_
    intro b d hn
    simp only [← u8s_app', ← List.length_append, List.nil_append, Nat.zero_add]
    refine wpr_run (l₂ := []) true [3] [] ([(6, Value.slice b (l0 ++ l1 ++ l2).length d), (27, Value.int IntKind.i64 2), (26, Value.int IntKind.i64 4), (25, Value.slice (some { block := g, off := 0 }) 4 4), (2, Value.slice none 0 0)]) ([row 5 1 b (l0 ++ l1 ++ l2).length d (u8s (l0 ++ l1 ++ l2)), Ch.blk g 22 [Value.slice a0 l0.length c0, Value.slice a1 l1.length c1, Value.slice a2 l2.length c2, Value.slice a3 l3.length c3], ro a0 (u8s l0), ro a1 (u8s l1), ro a2 (u8s l2), ro a3 (u8s l3)]) [] (by kernel_rfl) (by kernel_rfl) trivial ?_
    refine wpr_nil ?_
    refine nx_block ?_
    refine nx_then ?_
    refine wpc_region [0, 1] (by kernel_rfl) ?_
    refine wpr_run (l₂ := []) true [0, 1] [] ([(27, Value.int IntKind.i64 3), (6, Value.slice b (l0 ++ l1 ++ l2).length d), (26, Value.int IntKind.i64 4), (25, Value.slice (some { block := g, off := 0 }) 4 4), (2, Value.slice none 0 0)]) ([row 5 1 b (l0 ++ l1 ++ l2).length d (u8s (l0 ++ l1 ++ l2)), Ch.blk g 22 [Value.slice a0 l0.length c0, Value.slice a1 l1.length c1, Value.slice a2 l2.length c2, Value.slice a3 l3.length c3], ro a0 (u8s l0), ro a1 (u8s l1), ro a2 (u8s l2), ro a3 (u8s l3)]) ([inI64 ((2 : Int) + (1 : Int))]) (by kernel_rfl) (by kernel_rfl) ⟨by unfold inI64; omega, trivial⟩ ?_
    refine wpr_nil ?_
    exact fun a' w' hS' => ⟨⟨(3, b, d), by dsimp only; omega⟩, by dsimp only; omega, ent_fr (by kernel_rfl) _ _ (ent_hp [0, 0, 0, 0, 0, 0] rfl _ _ hS')⟩
  · simp only [cat4, List.length_nil]
    refine wpc_seq ?_
    refine wpc_region [0] (by kernel_rfl) ?_
    refine wpr_run (l₂ := []) true [0] [] ([(28, Value.bool true), (27, Value.int IntKind.i64 3), (26, Value.int IntKind.i64 4), (25, Value.slice (some { block := g, off := 0 }) 4 4), (6, Value.slice a (l0 ++ l1 ++ l2).length c), (2, Value.slice none 0 0)]) ([row 5 1 a (l0 ++ l1 ++ l2).length c (u8s (l0 ++ l1 ++ l2)), Ch.blk g 22 [Value.slice a0 l0.length c0, Value.slice a1 l1.length c1, Value.slice a2 l2.length c2, Value.slice a3 l3.length c3], ro a0 (u8s l0), ro a1 (u8s l1), ro a2 (u8s l2), ro a3 (u8s l3)]) [] (by kernel_rfl) (by kernel_rfl) trivial ?_
    refine wpr_nil ?_
    refine nx_then ?_
    refine wpc_seq ?_
    refine wpc_true (by kernel_rfl) ?_
    refine wpc_skip ?_
    refine nx_then ?_
    refine wpc_seq ?_
    refine wpc_block ?_
    refine wpc_seq ?_
    refine wpc_region [0, 1, 2] (by kernel_rfl) ?_
    refine wpr_run (l₂ := []) true [0, 1, 2] [1] ([(8, Value.slice a3 l3.length c3), (27, Value.int IntKind.i64 3), (26, Value.int IntKind.i64 4), (25, Value.slice (some { block := g, off := 0 }) 4 4), (6, Value.slice a (l0 ++ l1 ++ l2).length c), (2, Value.slice none 0 0)]) ([row 5 1 a (l0 ++ l1 ++ l2).length c (u8s (l0 ++ l1 ++ l2)), Ch.blk g 22 [Value.slice a0 l0.length c0, Value.slice a1 l1.length c1, Value.slice a2 l2.length c2, Value.slice a3 l3.length c3], ro a0 (u8s l0), ro a1 (u8s l1), ro a2 (u8s l2), ro a3 (u8s l3)]) [(0 : Int) ≤ (3 : Int) ∧ (3 : Int) < (↑(4 : Nat) : Int)] (by kernel_rfl) (by kernel_rfl) ⟨by omega, trivial⟩ ?_
    refine wpr_nil ?_
    refine nx_then ?_
    refine wpc_region [0, 1, 2, 3] (by kernel_rfl) ?_
    refine wpr_run (l₂ := [2, 3]) true [0, 1] [] ([(32, Value.slice a3 l3.length c3), (31, Value.slice a (l0 ++ l1 ++ l2).length c), (27, Value.int IntKind.i64 3), (26, Value.int IntKind.i64 4), (25, Value.slice (some { block := g, off := 0 }) 4 4), (6, Value.slice a (l0 ++ l1 ++ l2).length c), (2, Value.slice none 0 0)]) ([row 5 1 a (l0 ++ l1 ++ l2).length c (u8s (l0 ++ l1 ++ l2)), Ch.blk g 22 [Value.slice a0 l0.length c0, Value.slice a1 l1.length c1, Value.slice a2 l2.length c2, Value.slice a3 l3.length c3], ro a0 (u8s l0), ro a1 (u8s l1), ro a2 (u8s l2), ro a3 (u8s l3)]) [] (by kernel_rfl) (by kernel_rfl) trivial ?_
    refine wpr_app (a := a) (n := ((l0 ++ l1 ++ l2).length)) (cap := c) (x := (Value.slice a3 l3.length c3)) (t := 22) (xt := 22) (dst := some 33) (by kernel_rfl) (e := 5) (sz := 1) (bytes := 1) (by kernel_rfl) 0 (xs := (u8s (l0 ++ l1 ++ l2))) (by kernel_rfl) (m := (l3.length)) (news := (u8s l3)) (fun w h => src_ro h 5 rfl (by rw [u8s_len, Nat.mul_one]) (fun e => by rw [n3 e]; rfl)) (by unfold maxLen; omega) (by omega) ?_
    intro b d hn
    simp only [← u8s_app', ← List.length_append, List.nil_append, Nat.zero_add]
    refine wpr_run (l₂ := []) true [3] [] ([(6, Value.slice b (l0 ++ l1 ++ l2 ++ l3).length d), (27, Value.int IntKind.i64 3), (26, Value.int IntKind.i64 4), (25, Value.slice (some { block := g, off := 0 }) 4 4), (2, Value.slice none 0 0)]) ([row 5 1 b (l0 ++ l1 ++ l2 ++ l3).length d (u8s (l0 ++ l1 ++ l2 ++ l3)), Ch.blk g 22 [Value.slice a0 l0.length c0, Value.slice a1 l1.length c1, Value.slice a2 l2.length c2, Value.slice a3 l3.length c3], ro a0 (u8s l0), ro a1 (u8s l1), ro a2 (u8s l2), ro a3 (u8s l3)]) [] (by kernel_rfl) (by kernel_rfl) trivial ?_
    refine wpr_nil ?_
    refine nx_block ?_
    refine nx_then ?_
    refine wpc_region [0, 1] (by kernel_rfl) ?_
    refine wpr_run (l₂ := []) true [0, 1] [] ([(27, Value.int IntKind.i64 4), (6, Value.slice b (l0 ++ l1 ++ l2 ++ l3).length d), (26, Value.int IntKind.i64 4), (25, Value.slice (some { block := g, off := 0 }) 4 4), (2, Value.slice none 0 0)]) ([row 5 1 b (l0 ++ l1 ++ l2 ++ l3).length d (u8s (l0 ++ l1 ++ l2 ++ l3)), Ch.blk g 22 [Value.slice a0 l0.length c0, Value.slice a1 l1.length c1, Value.slice a2 l2.length c2, Value.slice a3 l3.length c3], ro a0 (u8s l0), ro a1 (u8s l1), ro a2 (u8s l2), ro a3 (u8s l3)]) ([inI64 ((3 : Int) + (1 : Int))]) (by kernel_rfl) (by kernel_rfl) ⟨by unfold inI64; omega, trivial⟩ ?_
    refine wpr_nil ?_
    exact fun a' w' hS' => ⟨⟨(4, b, d), by dsimp only; omega⟩, by dsimp only; omega, ent_fr (by kernel_rfl) _ _ (ent_hp [0, 0, 0, 0, 0, 0] rfl _ _ hS')⟩
  have : i = 0 := by omega
  subst this
  simp only [cat4]
  refine wpc_seq ?_
  refine wpc_region [0] (by kernel_rfl) ?_
  refine wpr_run (l₂ := []) true [0] [] ([(28, Value.bool false), (27, Value.int IntKind.i64 4), (26, Value.int IntKind.i64 4), (25, Value.slice (some { block := g, off := 0 }) 4 4), (6, Value.slice a (l0 ++ l1 ++ l2 ++ l3).length c), (2, Value.slice none 0 0)]) ([row 5 1 a (l0 ++ l1 ++ l2 ++ l3).length c (u8s (l0 ++ l1 ++ l2 ++ l3)), Ch.blk g 22 [Value.slice a0 l0.length c0, Value.slice a1 l1.length c1, Value.slice a2 l2.length c2, Value.slice a3 l3.length c3], ro a0 (u8s l0), ro a1 (u8s l1), ro a2 (u8s l2), ro a3 (u8s l3)]) [] (by kernel_rfl) (by kernel_rfl) trivial ?_
  refine wpr_nil ?_
  refine nx_then ?_
  refine wpc_seq ?_
  refine wpc_false (by kernel_rfl) ?_
  refine wpc_exit ?_
  refine nx_then_exit ?_
  refine nx_then_exit ?_
  refine nx_block_here ?_
  refine nx_then ?_
  refine wpc_seq ?_
  refine wpc_region [0, 1] (by kernel_rfl) ?_
  refine wpr_run (l₂ := []) true [0, 1] [] ([(2, Value.slice a (l0 ++ l1 ++ l2 ++ l3).length c)]) ([row 5 1 a (l0 ++ l1 ++ l2 ++ l3).length c (u8s (l0 ++ l1 ++ l2 ++ l3)), Ch.blk g 22 [Value.slice a0 l0.length c0, Value.slice a1 l1.length c1, Value.slice a2 l2.length c2, Value.slice a3 l3.length c3], ro a0 (u8s l0), ro a1 (u8s l1), ro a2 (u8s l2), ro a3 (u8s l3)]) [] (by kernel_rfl) (by kernel_rfl) trivial ?_
  refine wpr_nil ?_
  refine nx_then ?_
  refine wpc_ret ?_
  refine nx_end (hp' := ([row 5 1 a (l0 ++ l1 ++ l2 ++ l3).length c (u8s (l0 ++ l1 ++ l2 ++ l3))])) (rest := [Ch.blk g 22 [Value.slice a0 l0.length c0, Value.slice a1 l1.length c1, Value.slice a2 l2.length c2, Value.slice a3 l3.length c3], ro a0 (u8s l0), ro a1 (u8s l1), ro a2 (u8s l2), ro a3 (u8s l3)]) [] ((Value.slice a (l0 ++ l1 ++ l2 ++ l3).length c)) (by kernel_rfl) (by kernel_rfl) (give [0] (by kernel_rfl)) (by first | ((repeat (first | exact trivial | refine ⟨trivial, ?_⟩)); done) | assumption) ?_ (.inr rfl)
  exact ⟨a, c, rfl, rfl⟩
end Go.Proofs.Ytmjhcadciblcdaa
