import Derived.Test.YtmjhcadciblcdaaB8
import Derived.Test.YtmjhcadciblcdaaX16
namespace Go.Proofs.Ytmjhcadciblcdaa
open Go Go.Sx
set_option linter.unusedVariables false
set_option linter.unusedSimpArgs false

theorem crc_append (c : BitVec 32) (a b : List UInt8) : crc c (a ++ b) = crc (crc c a) b := by simp [crc]
theorem more_append (c : BitVec 32) (a b : List UInt8) : more c (a ++ b) = more (more c a) b := by
  unfold more; rw [crc_append, BitVec.not_not]
def lby (c : BitVec 32) (k : Int) : UInt8 := UInt8.ofNat (IntKind.u8.wrap ((c.toNat : Int).fdiv (2 ^ min (Int.toNat k) IntKind.u32.bits))).toNat
theorem lby_eq (c : BitVec 32) (j : Nat) (h : j < 4) : lby c ((8 * j : Nat) : Int) = lowB c j := by
  have h1 := lbv_eq c j h
  unfold lbv at h1
  simp only [Value.int.injEq, true_and] at h1
  unfold lby
  rw [h1]; simp
theorem lb0_eq (c : BitVec 32) : UInt8.ofNat (IntKind.u8.wrap (c.toNat : Int)).toNat = lowB c 0 := by
  rw [u8_wrap]; unfold lowB
  congr 1; simp; omega
theorem low_push (c : BitVec 32) : ((((ByteArray.empty.push (UInt8.ofNat (IntKind.u8.wrap (c.toNat : Int)).toNat)).push (lby c 8)).push (lby c 16)).push (lby c 24)).data.toList = lowL c := by
  rw [lb0_eq, show (8 : Int) = ((8 * 1 : Nat) : Int) from rfl, show (16 : Int) = ((8 * 2 : Nat) : Int) from rfl, show (24 : Int) = ((8 * 3 : Nat) : Int) from rfl, lby_eq c 1 (by decide), lby_eq c 2 (by decide), lby_eq c 3 (by decide)]
  rfl
theorem low_size (c : BitVec 32) : ((((ByteArray.empty.push (UInt8.ofNat (IntKind.u8.wrap (c.toNat : Int)).toNat)).push (lby c 8)).push (lby c 16)).push (lby c 24)).size = 4 := rfl
theorem rFrame_spec (l : List UInt8) (hl : l.length ≤ 1048576) : Does Try.prog 26 [.string (mkS l)] [] (fun v hp' => v = .string (mkS (frameL l)) ∧ hp' = []) := by
  refine fn_enter Try.func26 rfl 27 rfl fun w0 h0 => ?_
  refine wpc_seq ?_
  refine wpc_region [0] (by kernel_rfl) ?_
  refine wpr_run (l₂ := []) true [0] [] [(2, Value.string { data := #[] }), (0, Value.string (mkS l))] [] [] (by kernel_rfl) (by kernel_rfl) trivial ?_
  refine wpr_nil ?_
  refine nx_then ?_
  refine wpc_seq ?_
  refine wpc_region [0, 1, 2, 3, 4, 5] (by kernel_rfl) ?_
  refine wpr_run (l₂ := [2, 3, 4, 5]) true [0, 1] [] [(6, Value.int IntKind.i64 (↑l.length : Int)), (2, Value.string { data := #[] }), (0, Value.string (mkS l))] [] [] (by kernel_rfl) (by kernel_rfl) trivial ?_
  refine wpr_call_all (dst := some 7) (by kernel_rfl) (RInt_spec (l.length : Int) (by omega) (by omega)) give_all ?_
  rintro v _ ⟨rfl, rfl⟩
  have hE := encI_len (n := (l.length : Int)) (by omega) (by omega)
  refine wpr_run (l₂ := []) true [3, 4, 5] [] ([(3, Value.string (mkS (encI (↑l.length : Int) ++ l))), (2, Value.string { data := #[] })]) [] ([(encI (↑l.length : Int)).length + l.length ≤ (9223372036854775807 : Nat)]) (by kernel_rfl) (by kernel_rfl) ⟨by omega, trivial⟩ ?_
  refine wpr_nil ?_
  refine nx_then ?_
  refine wpc_seq ?_
  refine wpc_region [0, 1, 2] (by kernel_rfl) ?_
  refine wpr_run (l₂ := [1, 2]) true [0] [] ([(10, Value.string (mkS (encI (↑l.length : Int) ++ l))), (3, Value.string (mkS (encI (↑l.length : Int) ++ l))), (2, Value.string { data := #[] })]) [] [] (by kernel_rfl) (by kernel_rfl) trivial ?_
  have eE : (encI (l.length : Int) ++ l).length = (encI (l.length : Int)).length + l.length := by simp
  have hp := low_push (more 0 (encI l.length ++ l))
  have h4 := low_size (more 0 (encI l.length ++ l))
  unfold lby at hp h4
  refine wpr_call_all (dst := some 11) (by kernel_rfl) (rSum_spec (encI l.length ++ l) (by omega)) give_all ?_
  rintro v _ ⟨rfl, rfl⟩
  refine wpr_run (l₂ := []) true [2] [] ([(4, Value.int IntKind.u32 (↑(more 0 (encI (↑l.length : Int) ++ l)).toNat : Int)), (3, Value.string (mkS (encI (↑l.length : Int) ++ l))), (2, Value.string { data := #[] })]) [] [] (by kernel_rfl) (by kernel_rfl) trivial ?_
  refine wpr_nil ?_
  refine nx_then ?_
  refine wpc_seq ?_
  refine wpc_region [0, 1, 2, 3, 4, 5, 6, 7, 8, 9, 10, 11, 12, 13, 14, 15] (by kernel_rfl) ?_
  refine wpr_new (l₂ := [13, 14, 15]) true [0, 1, 2, 3, 4, 5, 6, 7, 8, 9, 10, 11, 12] [] (fun g1 => ([(24, Value.slice (some { block := g1, off := 0 }) 4 4), (12, Value.string (mkS (encI (↑l.length : Int) ++ l))), (2, Value.string { data := #[] })])) (fun g1 => ([Ch.blk g1 5 [Value.int IntKind.u8 (IntKind.u8.wrap (↑(more 0 (encI (↑l.length : Int) ++ l)).toNat : Int)), Value.int IntKind.u8 (IntKind.u8.wrap ((↑(more 0 (encI (↑l.length : Int) ++ l)).toNat : Int).fdiv (2 ^ min (Int.toNat 8) IntKind.u32.bits))), Value.int IntKind.u8 (IntKind.u8.wrap ((↑(more 0 (encI (↑l.length : Int) ++ l)).toNat : Int).fdiv (2 ^ min (Int.toNat 16) IntKind.u32.bits))), Value.int IntKind.u8 (IntKind.u8.wrap ((↑(more 0 (encI (↑l.length : Int) ++ l)).toNat : Int).fdiv (2 ^ min (Int.toNat 24) IntKind.u32.bits)))]])) (fun g1 => [(0 : Int) ≤ (8 : Int), (0 : Int) ≤ (16 : Int), (0 : Int) ≤ (24 : Int)]) (fun g1 => by kernel_rfl) (fun g1 => by kernel_rfl) (fun g1 => ⟨by omega, by omega, by omega, trivial⟩) fun g1 => ?_
  refine wpr_run (l₂ := []) true [13, 14, 15] [0, 0, 0, 0] ([(2, Value.string (mkS (encI (↑l.length : Int) ++ l ++ ((((ByteArray.empty.push (UInt8.ofNat (IntKind.u8.wrap (↑(more 0 (encI (↑l.length : Int) ++ l)).toNat : Int)).toNat)).push (UInt8.ofNat (IntKind.u8.wrap ((↑(more 0 (encI (↑l.length : Int) ++ l)).toNat : Int).fdiv (2 ^ min (Int.toNat 8) IntKind.u32.bits))).toNat)).push (UInt8.ofNat (IntKind.u8.wrap ((↑(more 0 (encI (↑l.length : Int) ++ l)).toNat : Int).fdiv (2 ^ min (Int.toNat 16) IntKind.u32.bits))).toNat)).push (UInt8.ofNat (IntKind.u8.wrap ((↑(more 0 (encI (↑l.length : Int) ++ l)).toNat : Int).fdiv (2 ^ min (Int.toNat 24) IntKind.u32.bits))).toNat)).data.toList)))]) ([Ch.blk g1 5 [Value.int IntKind.u8 (IntKind.u8.wrap (↑(more 0 (encI (↑l.length : Int) ++ l)).toNat : Int)), Value.int IntKind.u8 (IntKind.u8.wrap ((↑(more 0 (encI (↑l.length : Int) ++ l)).toNat : Int).fdiv (2 ^ min (Int.toNat 8) IntKind.u32.bits))), Value.int IntKind.u8 (IntKind.u8.wrap ((↑(more 0 (encI (↑l.length : Int) ++ l)).toNat : Int).fdiv (2 ^ min (Int.toNat 16) IntKind.u32.bits))), Value.int IntKind.u8 (IntKind.u8.wrap ((↑(more 0 (encI (↑l.length : Int) ++ l)).toNat : Int).fdiv (2 ^ min (Int.toNat 24) IntKind.u32.bits)))]]) ([(encI (↑l.length : Int) ++ l).length + ((((ByteArray.empty.push (UInt8.ofNat (IntKind.u8.wrap (↑(more (0 : BitVec (32 : Nat)) (encI (↑l.length : Int) ++ l)).toNat : Int)).toNat)).push (UInt8.ofNat (IntKind.u8.wrap ((↑(more (0 : BitVec (32 : Nat)) (encI (↑l.length : Int) ++ l)).toNat : Int).fdiv ((2 : Int) ^ min (Int.toNat (8 : Int)) IntKind.u32.bits))).toNat)).push (UInt8.ofNat (IntKind.u8.wrap ((↑(more (0 : BitVec (32 : Nat)) (encI (↑l.length : Int) ++ l)).toNat : Int).fdiv ((2 : Int) ^ min (Int.toNat (16 : Int)) IntKind.u32.bits))).toNat)).push (UInt8.ofNat (IntKind.u8.wrap ((↑(more (0 : BitVec (32 : Nat)) (encI (↑l.length : Int) ++ l)).toNat : Int).fdiv ((2 : Int) ^ min (Int.toNat (24 : Int)) IntKind.u32.bits))).toNat)).size ≤ (9223372036854775807 : Nat)]) (by kernel_rfl) (by kernel_rfl) ⟨by omega, trivial⟩ ?_
  refine wpr_nil ?_
  refine nx_then ?_
  refine wpc_ret ?_
  refine nx_end (hp' := []) (rest := ([Ch.blk g1 5 [Value.int IntKind.u8 (IntKind.u8.wrap (↑(more 0 (encI (↑l.length : Int) ++ l)).toNat : Int)), Value.int IntKind.u8 (IntKind.u8.wrap ((↑(more 0 (encI (↑l.length : Int) ++ l)).toNat : Int).fdiv (2 ^ min (Int.toNat 8) IntKind.u32.bits))), Value.int IntKind.u8 (IntKind.u8.wrap ((↑(more 0 (encI (↑l.length : Int) ++ l)).toNat : Int).fdiv (2 ^ min (Int.toNat 16) IntKind.u32.bits))), Value.int IntKind.u8 (IntKind.u8.wrap ((↑(more 0 (encI (↑l.length : Int) ++ l)).toNat : Int).fdiv (2 ^ min (Int.toNat 24) IntKind.u32.bits)))]])) [] ((Value.string (mkS (encI (↑l.length : Int) ++ l ++ ((((ByteArray.empty.push (UInt8.ofNat (IntKind.u8.wrap (↑(more 0 (encI (↑l.length : Int) ++ l)).toNat : Int)).toNat)).push (UInt8.ofNat (IntKind.u8.wrap ((↑(more 0 (encI (↑l.length : Int) ++ l)).toNat : Int).fdiv (2 ^ min (Int.toNat 8) IntKind.u32.bits))).toNat)).push (UInt8.ofNat (IntKind.u8.wrap ((↑(more 0 (encI (↑l.length : Int) ++ l)).toNat : Int).fdiv (2 ^ min (Int.toNat 16) IntKind.u32.bits))).toNat)).push (UInt8.ofNat (IntKind.u8.wrap ((↑(more 0 (encI (↑l.length : Int) ++ l)).toNat : Int).fdiv (2 ^ min (Int.toNat 24) IntKind.u32.bits))).toNat)).data.toList)))) (by kernel_rfl) (by kernel_rfl) (give [] (by kernel_rfl)) (by first | ((repeat (first | exact trivial | refine ⟨trivial, ?_⟩)); done) | assumption) ?_ (.inr rfl)
  refine ⟨?_, rfl⟩
  rw [hp, more_append]; rfl
end Go.Proofs.Ytmjhcadciblcdaa
