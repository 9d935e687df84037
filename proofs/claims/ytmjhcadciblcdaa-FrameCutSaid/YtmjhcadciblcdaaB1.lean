import Derived.Test.YtmjhcadciblcdaaB0
import Derived.Test.YtmjhcadciblcdaaX13
namespace Go.Proofs.Ytmjhcadciblcdaa
open Go Go.Sx
set_option linter.unusedVariables false
set_option linter.unusedSimpArgs false

theorem More_spec (a : Option Addr) (k : Nat) (l : List UInt8) (c : BitVec 32) (ha : a = none → l = []) (hl : l.length ≤ 1099511627776) :
    Does Try.prog 13 [.int .u32 (c.toNat : Int), .slice a l.length k] [ro a (u8s l)] (fun v hp' => v = .int .u32 ((more c l).toNat : Int) ∧ hp' = []) := by
  refine fn_enter Try.func13 rfl 33 rfl fun w0 h0 => ?_
  refine wpc_seq ?_
  refine wpc_region [0] (by kernel_rfl) ?_
  refine wpr_run (l₂ := []) true [0] [] [(4, Value.int IntKind.u32 0), (0, Value.int IntKind.u32 (↑c.toNat : Int)), (1, Value.slice a l.length k)] [ro a (u8s l)] [] (by kernel_rfl) (by kernel_rfl) trivial ?_
  refine wpr_nil ?_
  refine nx_then ?_
  refine wpc_seq ?_
  refine wpc_region [0, 1, 2] (by kernel_rfl) ?_
  refine wpr_run (l₂ := []) true [0, 1, 2] [] [(5, Value.int IntKind.u32 (IntKind.u32.wrap (↑(BitVec.ofInt IntKind.u32.bits (if IntKind.u32.signed = true then -1 else IntKind.u32.max) ^^^ BitVec.ofInt IntKind.u32.bits (↑c.toNat : Int)).toNat : Int))), (4, Value.int IntKind.u32 0), (1, Value.slice a l.length k)] [ro a (u8s l)] [] (by kernel_rfl) (by kernel_rfl) trivial ?_
  refine wpr_nil ?_
  refine nx_then ?_
  refine wpc_seq ?_
  refine wpc_seq ?_
  refine wpc_region [0, 1, 2] (by kernel_rfl) ?_
  refine wpr_run (l₂ := []) true [0, 1, 2] [] [(12, Value.int IntKind.i64 0), (11, Value.int IntKind.i64 (↑l.length : Int)), (10, Value.slice a l.length k), (5, Value.int IntKind.u32 (IntKind.u32.wrap (↑(BitVec.ofInt IntKind.u32.bits (if IntKind.u32.signed = true then -1 else IntKind.u32.max) ^^^ BitVec.ofInt IntKind.u32.bits (↑c.toNat : Int)).toNat : Int))), (4, Value.int IntKind.u32 0)] [ro a (u8s l)] [] (by kernel_rfl) (by kernel_rfl) trivial ?_
  refine wpr_nil ?_
  refine nx_then ?_
  refine wpc_block ?_
  refine wpc_ent (ent_set 5 (Value.int IntKind.u32 (IntKind.u32.wrap (↑(BitVec.ofInt IntKind.u32.bits (if IntKind.u32.signed = true then -1 else IntKind.u32.max) ^^^ BitVec.ofInt IntKind.u32.bits (↑c.toNat : Int)).toNat : Int))) (Value.int .u32 ((~~~ c).toNat : Int)) (by kernel_rfl) (congrArg _ (not32 c))) ?_
  refine wpc_loop (X := {x : Nat × BitVec 32 // x.1 ≤ l.length ∧ crc x.2 (l.drop x.1) = crc (~~~ c) l}) (fun x => St.mk [(12, .int .i64 (x.1.1 : Int)), (11, .int .i64 (l.length : Int)), (10, .slice a l.length k), (5, .int .u32 (x.1.2.toNat : Int)), (4, .int .u32 0)] [ro a (u8s l)]) (fun x => l.length - x.1.1) ⟨(0, ~~~ c), Nat.zero_le _, rfl⟩ (ent_fr (by kernel_rfl)) ?_
  rintro ⟨⟨i, d⟩, hi, hd⟩
  dsimp only at hi hd ⊢
  refine wpc_seq ?_
  refine wpc_region [0] (by kernel_rfl) ?_
  refine wpr_run (l₂ := []) true [0] [] [(13, Value.bool (decide ((↑i : Int) < (↑l.length : Int)))), (12, Value.int IntKind.i64 (↑i : Int)), (11, Value.int IntKind.i64 (↑l.length : Int)), (10, Value.slice a l.length k), (5, Value.int IntKind.u32 (↑d.toNat : Int)), (4, Value.int IntKind.u32 0)] [ro a (u8s l)] [] (by kernel_rfl) (by kernel_rfl) trivial ?_
  refine wpr_nil ?_
  refine nx_then ?_
  refine wpc_seq ?_
  refine wpc_if (((↑i : Int) < (↑l.length : Int))) (by kernel_rfl) (fun hlt => ?_) (fun hlt => ?_)
  · have hil : i < l.length := by omega
    refine wpc_fact (fun w h => ro_addr h 0 rfl (by rw [u8s_len]; omega)) ?_
    rintro ⟨w1, o1, rfl⟩
    refine wpc_skip ?_
    refine nx_then ?_
    refine wpc_seq ?_
    refine wpc_block ?_
    refine wpc_seq ?_
    refine wpc_region [0, 1, 2] (by kernel_rfl) ?_
    refine wpr_run (l₂ := [1, 2]) true [0] [] ([(14, Value.pointer (some { block := w1, off := o1 + i * 1 })), (12, Value.int IntKind.i64 (↑i : Int)), (11, Value.int IntKind.i64 (↑l.length : Int)), (10, Value.slice (some { block := w1, off := o1 }) l.length k), (5, Value.int IntKind.u32 (↑d.toNat : Int)), (4, Value.int IntKind.u32 0)]) [ro (some { block := w1, off := o1 }) (u8s l)] [(0 : Int) ≤ (↑i : Int) ∧ (↑i : Int) < (↑l.length : Int)] (by kernel_rfl) (by kernel_rfl) ⟨by omega, trivial⟩ ?_
    refine wpr_eq (ld (t := 5) (a := ({ block := w1, off := o1 + i * 1 })) (dst := some 15) (by kernel_rfl) false 1 (by kernel_rfl) (by simp) [.int .u8 l[i].toNat] rfl (fun w h => ld_ro h 0 rfl (i * 1) (u8_at1 hil))) ?_
    refine wpr_run (l₂ := []) true [2] [] [(7, Value.int IntKind.u8 (↑l[i].toNat : Int)), (12, Value.int IntKind.i64 (↑i : Int)), (11, Value.int IntKind.i64 (↑l.length : Int)), (10, Value.slice (some { block := w1, off := o1 }) l.length k), (5, Value.int IntKind.u32 (↑d.toNat : Int)), (4, Value.int IntKind.u32 0)] [ro (some { block := w1, off := o1 }) (u8s l)] [] (by kernel_rfl) (by kernel_rfl) trivial ?_
    refine wpr_nil ?_
    refine nx_then ?_
    refine wpc_seq ?_
    refine wpc_region [0, 1, 2, 3, 4] (by kernel_rfl) ?_
    refine wpr_run (l₂ := []) true [0, 1, 2, 3, 4] [] [(5, Value.int IntKind.u32 (IntKind.u32.wrap (↑(BitVec.ofInt IntKind.u32.bits (↑d.toNat : Int) ^^^ BitVec.ofInt IntKind.u32.bits (IntKind.u32.wrap (↑l[i].toNat : Int))).toNat : Int))), (12, Value.int IntKind.i64 (↑i : Int)), (11, Value.int IntKind.i64 (↑l.length : Int)), (10, Value.slice (some { block := w1, off := o1 }) l.length k), (4, Value.int IntKind.u32 0)] [ro (some { block := w1, off := o1 }) (u8s l)] [] (by kernel_rfl) (by kernel_rfl) trivial ?_
    refine wpr_nil ?_
    refine nx_then ?_
    refine wpc_seq ?_
    refine wpc_region [0] (by kernel_rfl) ?_
    refine wpr_run (l₂ := []) true [0] [] [(20, Value.int IntKind.i64 0), (5, Value.int IntKind.u32 (IntKind.u32.wrap (↑(BitVec.ofInt IntKind.u32.bits (↑d.toNat : Int) ^^^ BitVec.ofInt IntKind.u32.bits (IntKind.u32.wrap (↑l[i].toNat : Int))).toNat : Int))), (12, Value.int IntKind.i64 (↑i : Int)), (11, Value.int IntKind.i64 (↑l.length : Int)), (10, Value.slice (some { block := w1, off := o1 }) l.length k), (4, Value.int IntKind.u32 0)] [ro (some { block := w1, off := o1 }) (u8s l)] [] (by kernel_rfl) (by kernel_rfl) trivial ?_
    refine wpr_nil ?_
    refine nx_then ?_
    refine wpc_block ?_
    refine wpc_ent (ent_set 5 (Value.int IntKind.u32 (IntKind.u32.wrap (↑(BitVec.ofInt IntKind.u32.bits (↑d.toNat : Int) ^^^ BitVec.ofInt IntKind.u32.bits (IntKind.u32.wrap (↑l[i].toNat : Int))).toNat : Int))) (Value.int .u32 ((d ^^^ BitVec.ofNat 32 l[i].toNat).toNat : Int)) (by kernel_rfl) (congrArg _ (by rw [byte32]; exact xor32 _ _))) ?_
    refine wpc_loop (X := {x : Nat × BitVec 32 // x.1 ≤ 8 ∧ stps (8 - x.1) x.2 = byt d l[i]}) (fun x => St.mk [(20, .int .i64 (x.1.1 : Int)), (12, .int .i64 (i : Int)), (11, .int .i64 (l.length : Int)), (10, .slice (some ⟨w1, o1, none⟩) l.length k), (5, .int .u32 (x.1.2.toNat : Int)), (4, .int .u32 0)] [ro (some ⟨w1, o1, none⟩) (u8s l)]) (fun x => 8 - x.1.1) ⟨(0, d ^^^ BitVec.ofNat 32 l[i].toNat), Nat.zero_le _, rfl⟩ (ent_fr (by kernel_rfl)) ?_
    rintro ⟨⟨j, e⟩, hj, he⟩
    dsimp only at hj he ⊢
    refine wpc_seq ?_
    refine wpc_region [0] (by kernel_rfl) ?_
    refine wpr_run (l₂ := []) true [0] [] [(21, Value.bool (decide ((↑j : Int) < 8))), (20, Value.int IntKind.i64 (↑j : Int)), (12, Value.int IntKind.i64 (↑i : Int)), (11, Value.int IntKind.i64 (↑l.length : Int)), (10, Value.slice (some { block := w1, off := o1 }) l.length k), (5, Value.int IntKind.u32 (↑e.toNat : Int)), (4, Value.int IntKind.u32 0)] [ro (some { block := w1, off := o1 }) (u8s l)] [] (by kernel_rfl) (by kernel_rfl) trivial ?_
    refine wpr_nil ?_
    refine nx_then ?_
    refine wpc_seq ?_
    refine wpc_if (((↑j : Int) < 8)) (by kernel_rfl) (fun hlt8 => ?_) (fun hlt8 => ?_)
    · refine wpc_skip ?_
      refine nx_then ?_
      refine wpc_seq ?_
      refine wpc_block ?_
      refine wpc_region [0, 1, 2, 3, 4, 5, 6, 7] (by kernel_rfl) ?_
      refine wpr_run (l₂ := []) true [0, 1, 2, 3, 4, 5, 6, 7] [] [(5, Value.int IntKind.u32 (IntKind.u32.wrap (↑(BitVec.ofInt IntKind.u32.bits ((↑e.toNat : Int).fdiv (2 ^ min (Int.toNat 1) IntKind.u32.bits)) ^^^ BitVec.ofInt IntKind.u32.bits (IntKind.u32.wrap (↑(BitVec.ofInt IntKind.u32.bits (IntKind.u32.wrap (0 - IntKind.u32.wrap (↑(BitVec.ofInt IntKind.u32.bits (↑e.toNat : Int) &&& BitVec.ofInt IntKind.u32.bits 1).toNat : Int))) &&& BitVec.ofInt IntKind.u32.bits 3988292384).toNat : Int))).toNat : Int))), (20, Value.int IntKind.i64 (↑j : Int)), (12, Value.int IntKind.i64 (↑i : Int)), (11, Value.int IntKind.i64 (↑l.length : Int)), (10, Value.slice (some { block := w1, off := o1 }) l.length k), (4, Value.int IntKind.u32 0)] [ro (some { block := w1, off := o1 }) (u8s l)] [(0 : Int) ≤ (1 : Int)] (by kernel_rfl) (by kernel_rfl) ⟨by omega, trivial⟩ ?_
      refine wpr_nil ?_
      refine nx_block ?_
      refine nx_then ?_
      refine wpc_region [0, 1] (by kernel_rfl) ?_
      refine wpr_run (l₂ := []) true [0, 1] [] ([(20, Value.int IntKind.i64 ((↑j : Int) + 1)), (5, Value.int IntKind.u32 (IntKind.u32.wrap (↑(BitVec.ofInt IntKind.u32.bits ((↑e.toNat : Int).fdiv (2 ^ min (Int.toNat 1) IntKind.u32.bits)) ^^^ BitVec.ofInt IntKind.u32.bits (IntKind.u32.wrap (↑(BitVec.ofInt IntKind.u32.bits (IntKind.u32.wrap (0 - IntKind.u32.wrap (↑(BitVec.ofInt IntKind.u32.bits (↑e.toNat : Int) &&& BitVec.ofInt IntKind.u32.bits 1).toNat : Int))) &&& BitVec.ofInt IntKind.u32.bits 3988292384).toNat : Int))).toNat : Int))), (12, Value.int IntKind.i64 (↑i : Int)), (11, Value.int IntKind.i64 (↑l.length : Int)), (10, Value.slice (some { block := w1, off := o1 }) l.length k), (4, Value.int IntKind.u32 0)]) [ro (some { block := w1, off := o1 }) (u8s l)] ([inI64 ((↑j : Int) + (1 : Int))]) (by kernel_rfl) (by kernel_rfl) ⟨by unfold inI64; omega, trivial⟩ ?_
      refine wpr_nil ?_
      refine nx_ent (ent_set 5 (Value.int IntKind.u32 (IntKind.u32.wrap (↑(BitVec.ofInt IntKind.u32.bits ((↑e.toNat : Int).fdiv (2 ^ min (Int.toNat 1) IntKind.u32.bits)) ^^^ BitVec.ofInt IntKind.u32.bits (IntKind.u32.wrap (↑(BitVec.ofInt IntKind.u32.bits (IntKind.u32.wrap (0 - IntKind.u32.wrap (↑(BitVec.ofInt IntKind.u32.bits (↑e.toNat : Int) &&& BitVec.ofInt IntKind.u32.bits 1).toNat : Int))) &&& BitVec.ofInt IntKind.u32.bits 3988292384).toNat : Int))).toNat : Int))) (Value.int .u32 ((stp e).toNat : Int)) (by kernel_rfl) (congrArg _ (step32 e))) ?_
      exact fun a' w' hS' => ⟨⟨(j + 1, stp e), by omega, by rw [← he, show 8 - j = (8 - (j + 1)) + 1 by omega]; rfl⟩, by dsimp only; omega, ent_fr (by kernel_rfl) _ _ (ent_hp [0] rfl _ _ hS')⟩
    · have e8 : j = 8 := by omega
      subst e8
      refine wpc_exit ?_
      refine nx_then_exit ?_
      refine nx_then_exit ?_
      refine nx_block_here ?_
      refine nx_block ?_
      refine nx_then ?_
      refine wpc_region [0, 1] (by kernel_rfl) ?_
      refine wpr_run (l₂ := []) true [0, 1] [] ([(12, Value.int IntKind.i64 ((↑i : Int) + 1)), (11, Value.int IntKind.i64 (↑l.length : Int)), (10, Value.slice (some { block := w1, off := o1 }) l.length k), (5, Value.int IntKind.u32 (↑e.toNat : Int)), (4, Value.int IntKind.u32 0)]) [ro (some { block := w1, off := o1 }) (u8s l)] ([inI64 ((↑i : Int) + (1 : Int))]) (by kernel_rfl) (by kernel_rfl) ⟨by unfold inI64; omega, trivial⟩ ?_
      refine wpr_nil ?_
      exact fun a' w' hS' => ⟨⟨(i + 1, e), by omega, by rw [← hd, List.drop_eq_getElem_cons hil]; show _ = crc (byt d l[i]) _; rw [← he]; rfl⟩, by dsimp only; omega, ent_fr (by kernel_rfl) _ _ (ent_hp [0] rfl _ _ hS')⟩
  refine wpc_exit ?_
  refine nx_then_exit ?_
  refine nx_then_exit ?_
  refine nx_block_here ?_
  refine nx_then ?_
  refine wpc_seq ?_
  refine wpc_region [0, 1, 2] (by kernel_rfl) ?_
  refine wpr_run (l₂ := []) true [0, 1, 2] [] [(4, Value.int IntKind.u32 (IntKind.u32.wrap (↑(BitVec.ofInt IntKind.u32.bits (if IntKind.u32.signed = true then -1 else IntKind.u32.max) ^^^ BitVec.ofInt IntKind.u32.bits (↑d.toNat : Int)).toNat : Int)))] [ro a (u8s l)] [] (by kernel_rfl) (by kernel_rfl) trivial ?_
  refine wpr_nil ?_
  refine nx_then ?_
  refine wpc_ret ?_
  refine nx_end (hp' := []) (rest := [ro a (u8s l)]) [] ((Value.int IntKind.u32 (IntKind.u32.wrap (↑(BitVec.ofInt IntKind.u32.bits (if IntKind.u32.signed = true then -1 else IntKind.u32.max) ^^^ BitVec.ofInt IntKind.u32.bits (↑d.toNat : Int)).toNat : Int)))) (by kernel_rfl) (by kernel_rfl) (give [] (by kernel_rfl)) (by first | ((repeat (first | exact trivial | refine ⟨trivial, ?_⟩)); done) | assumption) ?_ (.inr rfl)
  refine ⟨?_, rfl⟩
  have hn : l.drop i = [] := List.drop_eq_nil_of_le (by omega)
  rw [hn] at hd
  rw [not32, show d = crc (~~~ c) l from hd]; rfl
theorem rMore_spec (l : List UInt8) (c : BitVec 32) (hl : l.length ≤ 1099511627776) :
    Does Try.prog 14 [.int .u32 (c.toNat : Int), .string (mkS l)] [] (fun v hp' => v = .int .u32 ((more c l).toNat : Int) ∧ hp' = []) := by
  refine fn_enter Try.func14 rfl 37 rfl fun w0 h0 => ?_
  refine wpc_seq ?_
  refine wpc_region [0] (by kernel_rfl) ?_
  refine wpr_run (l₂ := []) true [0] [] [(4, Value.int IntKind.u32 0), (0, Value.int IntKind.u32 (↑c.toNat : Int)), (1, Value.string (mkS l))] [] [] (by kernel_rfl) (by kernel_rfl) trivial ?_
  refine wpr_nil ?_
  refine nx_then ?_
  refine wpc_seq ?_
  refine wpc_region [0, 1, 2] (by kernel_rfl) ?_
  refine wpr_run (l₂ := []) true [0, 1, 2] [] [(5, Value.int IntKind.u32 (IntKind.u32.wrap (↑(BitVec.ofInt IntKind.u32.bits (if IntKind.u32.signed = true then -1 else IntKind.u32.max) ^^^ BitVec.ofInt IntKind.u32.bits (↑c.toNat : Int)).toNat : Int))), (4, Value.int IntKind.u32 0), (1, Value.string (mkS l))] [] [] (by kernel_rfl) (by kernel_rfl) trivial ?_
  refine wpr_nil ?_
  refine nx_then ?_
  refine wpc_seq ?_
  refine wpc_seq ?_
  refine wpc_region [0] (by kernel_rfl) ?_
  refine wpr_run (l₂ := []) true [0] [] [(6, Value.int IntKind.i64 0), (5, Value.int IntKind.u32 (IntKind.u32.wrap (↑(BitVec.ofInt IntKind.u32.bits (if IntKind.u32.signed = true then -1 else IntKind.u32.max) ^^^ BitVec.ofInt IntKind.u32.bits (↑c.toNat : Int)).toNat : Int))), (4, Value.int IntKind.u32 0), (1, Value.string (mkS l))] [] [] (by kernel_rfl) (by kernel_rfl) trivial ?_
  refine wpr_nil ?_
  refine nx_then ?_
  refine wpc_block ?_
  refine wpc_ent (ent_set 5 (Value.int IntKind.u32 (IntKind.u32.wrap (↑(BitVec.ofInt IntKind.u32.bits (if IntKind.u32.signed = true then -1 else IntKind.u32.max) ^^^ BitVec.ofInt IntKind.u32.bits (↑c.toNat : Int)).toNat : Int))) (Value.int .u32 ((~~~ c).toNat : Int)) (by kernel_rfl) (congrArg _ (not32 c))) ?_
  refine wpc_loop (X := {x : Nat × BitVec 32 // x.1 ≤ l.length ∧ crc x.2 (l.drop x.1) = crc (~~~ c) l}) (fun x => St.mk [(6, .int .i64 (x.1.1 : Int)), (5, .int .u32 (x.1.2.toNat : Int)), (4, .int .u32 0), (1, .string (mkS l))] []) (fun x => l.length - x.1.1) ⟨(0, ~~~ c), Nat.zero_le _, rfl⟩ (ent_fr (by kernel_rfl)) ?_
  rintro ⟨⟨i, d⟩, hi, hd⟩
  dsimp only at hi hd ⊢
  refine wpc_seq ?_
  refine wpc_seq ?_
  refine wpc_region [0, 1, 2, 3] (by kernel_rfl) ?_
  refine wpr_run (l₂ := []) true [0, 1, 2, 3] [] [(14, Value.bool (decide ((↑i : Int) < (↑l.length : Int)))), (6, Value.int IntKind.i64 (↑i : Int)), (5, Value.int IntKind.u32 (↑d.toNat : Int)), (4, Value.int IntKind.u32 0), (1, Value.string (mkS l))] [] [] (by kernel_rfl) (by kernel_rfl) trivial ?_
  refine wpr_nil ?_
  refine nx_then ?_
  refine wpc_if (((↑i : Int) < (↑l.length : Int))) (by kernel_rfl) (fun hlt => ?_) (fun hlt => ?_)
  · have hil : i < l.length := by omega
    refine wpc_skip ?_
    refine nx_then ?_
    refine wpc_seq ?_
    refine wpc_block ?_
    refine wpc_seq ?_
    refine wpc_region [0, 1, 2, 3, 4, 5, 6] (by kernel_rfl) ?_
    refine wpr_run (l₂ := []) true [0, 1, 2, 3, 4, 5, 6] [] [(5, Value.int IntKind.u32 (IntKind.u32.wrap (↑(BitVec.ofInt IntKind.u32.bits (↑d.toNat : Int) ^^^ BitVec.ofInt IntKind.u32.bits (IntKind.u32.wrap (bt (mkS l) (↑i : Int)))).toNat : Int))), (6, Value.int IntKind.i64 (↑i : Int)), (4, Value.int IntKind.u32 0), (1, Value.string (mkS l))] [] [(0 : Int) ≤ (↑i : Int) ∧ (↑i : Int) < (↑l.length : Int)] (by kernel_rfl) (by kernel_rfl) ⟨by omega, trivial⟩ ?_
    refine wpr_nil ?_
    refine nx_then ?_
    refine wpc_seq ?_
    refine wpc_region [0] (by kernel_rfl) ?_
    refine wpr_run (l₂ := []) true [0] [] [(7, Value.int IntKind.i64 0), (5, Value.int IntKind.u32 (IntKind.u32.wrap (↑(BitVec.ofInt IntKind.u32.bits (↑d.toNat : Int) ^^^ BitVec.ofInt IntKind.u32.bits (IntKind.u32.wrap (bt (mkS l) (↑i : Int)))).toNat : Int))), (6, Value.int IntKind.i64 (↑i : Int)), (4, Value.int IntKind.u32 0), (1, Value.string (mkS l))] [] [] (by kernel_rfl) (by kernel_rfl) trivial ?_
    refine wpr_nil ?_
    refine nx_then ?_
    refine wpc_block ?_
    refine wpc_ent (ent_set 5 (Value.int IntKind.u32 (IntKind.u32.wrap (↑(BitVec.ofInt IntKind.u32.bits (↑d.toNat : Int) ^^^ BitVec.ofInt IntKind.u32.bits (IntKind.u32.wrap (bt (mkS l) (↑i : Int)))).toNat : Int))) (Value.int .u32 ((d ^^^ BitVec.ofNat 32 l[i].toNat).toNat : Int)) (by kernel_rfl) (congrArg _ (by rw [bt_at hil, byte32]; exact xor32 _ _))) ?_
    refine wpc_loop (X := {x : Nat × BitVec 32 // x.1 ≤ 8 ∧ stps (8 - x.1) x.2 = byt d l[i]}) (fun x => St.mk [(7, .int .i64 (x.1.1 : Int)), (6, .int .i64 (i : Int)), (5, .int .u32 (x.1.2.toNat : Int)), (4, .int .u32 0), (1, .string (mkS l))] []) (fun x => 8 - x.1.1) ⟨(0, d ^^^ BitVec.ofNat 32 l[i].toNat), Nat.zero_le _, rfl⟩ (ent_fr (by kernel_rfl)) ?_
    rintro ⟨⟨j, e⟩, hj, he⟩
    dsimp only at hj he ⊢
    refine wpc_seq ?_
    refine wpc_seq ?_
    refine wpc_region [0, 1] (by kernel_rfl) ?_
    refine wpr_run (l₂ := []) true [0, 1] [] [(24, Value.bool (decide ((↑j : Int) < 8))), (7, Value.int IntKind.i64 (↑j : Int)), (6, Value.int IntKind.i64 (↑i : Int)), (5, Value.int IntKind.u32 (↑e.toNat : Int)), (4, Value.int IntKind.u32 0), (1, Value.string (mkS l))] [] [] (by kernel_rfl) (by kernel_rfl) trivial ?_
    refine wpr_nil ?_
    refine nx_then ?_
    refine wpc_if (((↑j : Int) < 8)) (by kernel_rfl) (fun hlt8 => ?_) (fun hlt8 => ?_)
    · refine wpc_skip ?_
      refine nx_then ?_
      refine wpc_seq ?_
      refine wpc_block ?_
      refine wpc_seq ?_
      refine wpc_region [0, 1, 2] (by kernel_rfl) ?_
      refine wpr_run (l₂ := []) true [0, 1, 2] [] [(8, Value.int IntKind.u32 ((↑e.toNat : Int).tmod 2)), (7, Value.int IntKind.i64 (↑j : Int)), (6, Value.int IntKind.i64 (↑i : Int)), (5, Value.int IntKind.u32 (↑e.toNat : Int)), (4, Value.int IntKind.u32 0), (1, Value.string (mkS l))] [] [(2 : Int) ≠ (0 : Int)] (by kernel_rfl) (by kernel_rfl) ⟨by omega, trivial⟩ ?_
      refine wpr_nil ?_
      refine nx_then ?_
      refine wpc_seq ?_
      refine wpc_region [0, 1, 2] (by kernel_rfl) ?_
      refine wpr_run (l₂ := []) true [0, 1, 2] [] [(5, Value.int IntKind.u32 (IntKind.u32.wrap ((↑e.toNat : Int).tdiv 2))), (8, Value.int IntKind.u32 ((↑e.toNat : Int).tmod 2)), (7, Value.int IntKind.i64 (↑j : Int)), (6, Value.int IntKind.i64 (↑i : Int)), (4, Value.int IntKind.u32 0), (1, Value.string (mkS l))] [] [] (by kernel_rfl) (by kernel_rfl) trivial ?_
      refine wpr_nil ?_
      refine nx_then ?_
      refine wpc_seq ?_
      refine wpc_region [0, 1] (by kernel_rfl) ?_
      refine wpr_run (l₂ := []) true [0, 1] [] [(32, Value.bool ((↑e.toNat : Int).tmod 2 == 1)), (5, Value.int IntKind.u32 (IntKind.u32.wrap ((↑e.toNat : Int).tdiv 2))), (7, Value.int IntKind.i64 (↑j : Int)), (6, Value.int IntKind.i64 (↑i : Int)), (4, Value.int IntKind.u32 0), (1, Value.string (mkS l))] [] [] (by kernel_rfl) (by kernel_rfl) trivial ?_
      refine wpr_nil ?_
      refine nx_then ?_
      refine wpc_ent (ent_set 5 (Value.int IntKind.u32 (IntKind.u32.wrap ((↑e.toNat : Int).tdiv 2))) (Value.int .u32 ((e >>> 1).toNat : Int)) (by kernel_rfl) (congrArg _ (half32 e))) ?_
      cases hodd : e.getLsbD 0
      · refine wpc_ent (ent_set 32 (Value.bool ((↑e.toNat : Int).tmod 2 == 1)) (Value.bool false) (by kernel_rfl) (congrArg _ (by rw [odd32, hodd]))) ?_
        refine wpc_false (by kernel_rfl) ?_
        refine wpc_skip ?_
        refine nx_block ?_
        refine nx_then ?_
        refine wpc_region [0, 1, 2] (by kernel_rfl) ?_
        refine wpr_run (l₂ := []) true [0, 1, 2] [] ([(7, Value.int IntKind.i64 ((↑j : Int) + 1)), (5, Value.int IntKind.u32 (↑(e >>> 1).toNat : Int)), (6, Value.int IntKind.i64 (↑i : Int)), (4, Value.int IntKind.u32 0), (1, Value.string (mkS l))]) [] ([inI64 ((↑j : Int) + (1 : Int))]) (by kernel_rfl) (by kernel_rfl) ⟨by unfold inI64; omega, trivial⟩ ?_
        refine wpr_nil ?_
        refine nx_ent (ent_set 5 (Value.int IntKind.u32 (↑(e >>> 1).toNat : Int)) (Value.int .u32 ((stp e).toNat : Int)) (by kernel_rfl) (congrArg _ (by unfold stp; rw [hodd]; simp))) ?_
        exact fun a' w' hS' => ⟨⟨(j + 1, stp e), by omega, by rw [← he, show 8 - j = (8 - (j + 1)) + 1 by omega]; rfl⟩, by dsimp only; omega, ent_fr (by kernel_rfl) _ _ (ent_hp [] rfl _ _ hS')⟩
      · refine wpc_ent (ent_set 32 (Value.bool ((↑e.toNat : Int).tmod 2 == 1)) (Value.bool true) (by kernel_rfl) (congrArg _ (by rw [odd32, hodd]))) ?_
        refine wpc_true (by kernel_rfl) ?_
        refine wpc_region [0, 1, 2] (by kernel_rfl) ?_
        refine wpr_run (l₂ := []) true [0, 1, 2] [] [(5, Value.int IntKind.u32 (IntKind.u32.wrap (↑(BitVec.ofInt IntKind.u32.bits (↑(e >>> 1).toNat : Int) ^^^ BitVec.ofInt IntKind.u32.bits 3988292384).toNat : Int))), (7, Value.int IntKind.i64 (↑j : Int)), (6, Value.int IntKind.i64 (↑i : Int)), (4, Value.int IntKind.u32 0), (1, Value.string (mkS l))] [] [] (by kernel_rfl) (by kernel_rfl) trivial ?_
        refine wpr_nil ?_
        refine nx_block ?_
        refine nx_then ?_
        refine wpc_region [0, 1, 2] (by kernel_rfl) ?_
        refine wpr_run (l₂ := []) true [0, 1, 2] [] ([(7, Value.int IntKind.i64 ((↑j : Int) + 1)), (5, Value.int IntKind.u32 (IntKind.u32.wrap (↑(BitVec.ofInt IntKind.u32.bits (↑(e >>> 1).toNat : Int) ^^^ BitVec.ofInt IntKind.u32.bits 3988292384).toNat : Int))), (6, Value.int IntKind.i64 (↑i : Int)), (4, Value.int IntKind.u32 0), (1, Value.string (mkS l))]) [] ([inI64 ((↑j : Int) + (1 : Int))]) (by kernel_rfl) (by kernel_rfl) ⟨by unfold inI64; omega, trivial⟩ ?_
        refine wpr_nil ?_
        refine nx_ent (ent_set 5 (Value.int IntKind.u32 (IntKind.u32.wrap (↑(BitVec.ofInt IntKind.u32.bits (↑(e >>> 1).toNat : Int) ^^^ BitVec.ofInt IntKind.u32.bits 3988292384).toNat : Int))) (Value.int .u32 ((stp e).toNat : Int)) (by kernel_rfl) (congrArg _ (by rw [xpoly32]; unfold stp; rw [hodd]; rfl))) ?_
        exact fun a' w' hS' => ⟨⟨(j + 1, stp e), by omega, by rw [← he, show 8 - j = (8 - (j + 1)) + 1 by omega]; rfl⟩, by dsimp only; omega, ent_fr (by kernel_rfl) _ _ (ent_hp [] rfl _ _ hS')⟩
    · have e8 : j = 8 := by omega
      subst e8
      refine wpc_exit ?_
      refine nx_then_exit ?_
      refine nx_then_exit ?_
      refine nx_block_here ?_
      refine nx_block ?_
      refine nx_then ?_
      refine wpc_region [0, 1, 2] (by kernel_rfl) ?_
      refine wpr_run (l₂ := []) true [0, 1, 2] [] ([(6, Value.int IntKind.i64 ((↑i : Int) + 1)), (5, Value.int IntKind.u32 (↑e.toNat : Int)), (4, Value.int IntKind.u32 0), (1, Value.string (mkS l))]) [] ([inI64 ((↑i : Int) + (1 : Int))]) (by kernel_rfl) (by kernel_rfl) ⟨by unfold inI64; omega, trivial⟩ ?_
      refine wpr_nil ?_
      exact fun a' w' hS' => ⟨⟨(i + 1, e), by omega, by rw [← hd, List.drop_eq_getElem_cons hil]; show _ = crc (byt d l[i]) _; rw [← he]; rfl⟩, by dsimp only; omega, ent_fr (by kernel_rfl) _ _ (ent_hp [] rfl _ _ hS')⟩
  refine wpc_exit ?_
  refine nx_then_exit ?_
  refine nx_then_exit ?_
  refine nx_block_here ?_
  refine nx_then ?_
  refine wpc_seq ?_
  refine wpc_region [0, 1, 2] (by kernel_rfl) ?_
  refine wpr_run (l₂ := []) true [0, 1, 2] [] [(4, Value.int IntKind.u32 (IntKind.u32.wrap (↑(BitVec.ofInt IntKind.u32.bits (if IntKind.u32.signed = true then -1 else IntKind.u32.max) ^^^ BitVec.ofInt IntKind.u32.bits (↑d.toNat : Int)).toNat : Int)))] [] [] (by kernel_rfl) (by kernel_rfl) trivial ?_
  refine wpr_nil ?_
  refine nx_then ?_
  refine wpc_ret ?_
  refine nx_end (hp' := []) (rest := []) [] ((Value.int IntKind.u32 (IntKind.u32.wrap (↑(BitVec.ofInt IntKind.u32.bits (if IntKind.u32.signed = true then -1 else IntKind.u32.max) ^^^ BitVec.ofInt IntKind.u32.bits (↑d.toNat : Int)).toNat : Int)))) (by kernel_rfl) (by kernel_rfl) give_all (by first | ((repeat (first | exact trivial | refine ⟨trivial, ?_⟩)); done) | assumption) ?_ (.inr rfl)
  refine ⟨?_, rfl⟩
  have hn : l.drop i = [] := List.drop_eq_nil_of_le (by omega)
  rw [hn] at hd
  rw [not32, show d = crc (~~~ c) l from hd]; rfl

theorem Sum_spec (a : Option Addr) (k : Nat) (l : List UInt8) (ha : a = none → l = []) (hl : l.length ≤ 1099511627776) :
    Does Try.prog 10 [.slice a l.length k] [ro a (u8s l)] (fun v hp' => v = .int .u32 ((more 0 l).toNat : Int) ∧ hp' = []) := by
  refine fn_enter Try.func10 rfl 5 rfl fun w0 h0 => ?_
  refine wpc_seq ?_
  refine wpc_region [0] (by kernel_rfl) ?_
  refine wpr_run (l₂ := []) true [0] [] [(2, Value.int IntKind.u32 0), (0, Value.slice a l.length k)] [ro a (u8s l)] [] (by kernel_rfl) (by kernel_rfl) trivial ?_
  refine wpr_nil ?_
  refine nx_then ?_
  refine wpc_seq ?_
  refine wpc_region [0, 1, 2] (by kernel_rfl) ?_
  refine wpr_run (l₂ := [1, 2]) true [0] [] [(3, Value.slice a l.length k), (2, Value.int IntKind.u32 0)] [ro a (u8s l)] [] (by kernel_rfl) (by kernel_rfl) trivial ?_
  refine wpr_call (dst := some 4) (rest := [ro a (u8s l)]) (by kernel_rfl) (More_spec a k l 0 ha hl) (Give.view (c := (ro a (u8s l))) (give (pre := []) (rest := [ro a (u8s l)]) [] (by kernel_rfl)) 0 (by kernel_rfl) view_ro) ?_
  rintro v hp' ⟨rfl, rfl⟩
  refine wpr_run (l₂ := []) true [2] [] [(2, Value.int IntKind.u32 (↑(more 0 l).toNat : Int))] [ro a (u8s l)] [] (by kernel_rfl) (by kernel_rfl) trivial ?_
  refine wpr_nil ?_
  refine nx_then ?_
  refine wpc_ret ?_
  refine nx_end (hp' := []) (rest := [ro a (u8s l)]) [] ((Value.int IntKind.u32 (↑(more 0 l).toNat : Int))) (by kernel_rfl) (by kernel_rfl) (give [] (by kernel_rfl)) (by first | ((repeat (first | exact trivial | refine ⟨trivial, ?_⟩)); done) | assumption) ?_ (.inr rfl)
  exact ⟨rfl, rfl⟩
theorem rSum_spec (l : List UInt8) (hl : l.length ≤ 1099511627776) :
    Does Try.prog 12 [.string (mkS l)] [] (fun v hp' => v = .int .u32 ((more 0 l).toNat : Int) ∧ hp' = []) := by
  refine fn_enter Try.func12 rfl 5 rfl fun w0 h0 => ?_
  refine wpc_seq ?_
  refine wpc_region [0] (by kernel_rfl) ?_
  refine wpr_run (l₂ := []) true [0] [] [(2, Value.int IntKind.u32 0), (0, Value.string (mkS l))] [] [] (by kernel_rfl) (by kernel_rfl) trivial ?_
  refine wpr_nil ?_
  refine nx_then ?_
  refine wpc_seq ?_
  refine wpc_region [0, 1, 2] (by kernel_rfl) ?_
  refine wpr_run (l₂ := [1, 2]) true [0] [] [(3, Value.string (mkS l)), (2, Value.int IntKind.u32 0)] [] [] (by kernel_rfl) (by kernel_rfl) trivial ?_
  refine wpr_call_all (dst := some 4) (by kernel_rfl) (rMore_spec l 0 hl) give_all ?_
  rintro v hp' ⟨rfl, rfl⟩
  refine wpr_run (l₂ := []) true [2] [] [(2, Value.int IntKind.u32 (↑(more 0 l).toNat : Int))] [] [] (by kernel_rfl) (by kernel_rfl) trivial ?_
  refine wpr_nil ?_
  refine nx_then ?_
  refine wpc_ret ?_
  refine nx_end (hp' := []) (rest := []) [] ((Value.int IntKind.u32 (↑(more 0 l).toNat : Int))) (by kernel_rfl) (by kernel_rfl) give_all (by first | ((repeat (first | exact trivial | refine ⟨trivial, ?_⟩)); done) | assumption) ?_ (.inr rfl)
  exact ⟨rfl, rfl⟩
/-- Bytes in memory of their own. -/
theorem own_spec (a : Option Addr) (k : Nat) (l : List UInt8) (ha : a = none → l = []) (hl : l.length ≤ 1099511627776) :
    Does Try.prog 11 [.slice a l.length k] [ro a (u8s l)] (fun v hp' => ∃ a' c', (a' = none → l = []) ∧ v = .slice a' l.length c' ∧ hp' = [row 5 1 a' l.length c' (u8s l)]) := by
  refine fn_enter Try.func11 rfl 6 rfl fun w0 h0 => ?_
  refine wpc_seq ?_
  refine wpc_region [0] (by kernel_rfl) ?_
  refine wpr_run (l₂ := []) true [0] [] [(2, Value.slice none 0 0), (0, Value.slice a l.length k)] [ro a (u8s l)] [] (by kernel_rfl) (by kernel_rfl) trivial ?_
  refine wpr_nil ?_
  refine nx_then ?_
  refine wpc_seq ?_
  refine wpc_region [0, 1, 2, 3] (by kernel_rfl) ?_
  refine wpr_new (l₂ := [1, 2, 3]) true [0] [] (fun g1 => [(3, Value.slice (some { block := g1, off := 0 }) 0 0), (2, Value.slice none 0 0), (0, Value.slice a l.length k)]) (fun g1 => [ro a (u8s l), Ch.blk g1 5 []]) (fun g1 => []) (fun g1 => by kernel_rfl) (fun g1 => by kernel_rfl) (fun g1 => trivial) fun g1 => ?_
  refine wpr_run (l₂ := [2, 3]) true [1] [] [(4, Value.slice a l.length k), (3, Value.slice (some { block := g1, off := 0 }) 0 0), (2, Value.slice none 0 0)] [ro a (u8s l), Ch.blk g1 5 []] [] (by kernel_rfl) (by kernel_rfl) trivial ?_
  refine wpr_ent (ent_turn 1 (row 5 1 (some ⟨g1, 0, none⟩) 0 0 []) rfl (turn_blk rfl (by intro u hu; cases hu) (by simp)) rfl) ?_
  refine wpr_app (a := (some { block := g1, off := 0 })) (n := 0) (cap := 0) (x := (Value.slice a l.length k)) (t := 22) (xt := 22) (dst := some 5) (by kernel_rfl) (e := 5) (sz := 1) (bytes := 1) (by kernel_rfl) 1 (xs := []) (by kernel_rfl) (m := (l.length)) (news := (u8s l)) (fun w h => src_ro h 0 rfl (by simp [u8s_len]) (fun e => by rw [ha e]; rfl)) (by unfold maxLen; omega) (by omega) ?_
  intro a1 c1 hn
  simp only [List.nil_append, Nat.zero_add]
  refine wpr_run (l₂ := []) true [3] [] [(2, Value.slice a1 l.length c1)] [ro a (u8s l), row 5 1 a1 l.length c1 (u8s l)] [] (by kernel_rfl) (by kernel_rfl) trivial ?_
  refine wpr_nil ?_
  refine nx_then ?_
  refine wpc_ret ?_
  refine nx_end (hp' := [row 5 1 a1 l.length c1 (u8s l)]) (rest := [ro a (u8s l)]) [] ((Value.slice a1 l.length c1)) (by kernel_rfl) (by kernel_rfl) (give [1] (by kernel_rfl)) (by first | ((repeat (first | exact trivial | refine ⟨trivial, ?_⟩)); done) | assumption) ?_ (.inr rfl)
  exact ⟨a1, c1, (fun e => nomatch (hn.1 e).1), rfl, rfl⟩
end Go.Proofs.Ytmjhcadciblcdaa
