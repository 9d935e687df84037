import Derived.Test.YtmjhcadciblcdaaW5
namespace Go.Proofs.Ytmjhcadciblcdaa
open Go Go.Sx
set_option linter.unusedVariables false
set_option linter.unusedSimpArgs false

/-! The sum of bytes: a register of 32 bits, a step a bit. -/
def poly : BitVec 32 := 0xedb88320#32
def stp (c : BitVec 32) : BitVec 32 := (c >>> 1) ^^^ (if c.getLsbD 0 then poly else 0#32)
def stps : Nat → BitVec 32 → BitVec 32
  | 0, c => c
  | n + 1, c => stps n (stp c)
def byt (c : BitVec 32) (x : UInt8) : BitVec 32 := stps 8 (c ^^^ BitVec.ofNat 32 x.toNat)
def crc (c : BitVec 32) (l : List UInt8) : BitVec 32 := l.foldl byt c
def more (c : BitVec 32) (l : List UInt8) : BitVec 32 := ~~~ (crc (~~~ c) l)

theorem u32_wrap (x : Int) : IntKind.u32.wrap x = x % 4294967296 := by simp [IntKind.wrap, IntKind.signed, IntKind.bits]
theorem ofInt32 (x : Int) : (BitVec.ofInt IntKind.u32.bits x).toNat = (x % 4294967296).toNat := by rw [BitVec.toNat_ofInt]; rfl
theorem toN32 (c : BitVec 32) : (((c.toNat : Nat) : Int) % 4294967296).toNat = c.toNat := by have := c.isLt; omega
theorem wrap32 (c : BitVec 32) : IntKind.u32.wrap (c.toNat : Int) = (c.toNat : Int) := by
  rw [u32_wrap]; have := c.isLt; omega
theorem xor32 (a b : BitVec 32) : IntKind.u32.wrap ↑(BitVec.ofInt IntKind.u32.bits ↑a.toNat ^^^ BitVec.ofInt IntKind.u32.bits ↑b.toNat).toNat = ((a ^^^ b).toNat : Int) := by
  rw [BitVec.toNat_xor, ofInt32, ofInt32, toN32, toN32, ← BitVec.toNat_xor]; exact wrap32 _
theorem and32 (a b : BitVec 32) : IntKind.u32.wrap ↑(BitVec.ofInt IntKind.u32.bits ↑a.toNat &&& BitVec.ofInt IntKind.u32.bits ↑b.toNat).toNat = ((a &&& b).toNat : Int) := by
  rw [BitVec.toNat_and, ofInt32, ofInt32, toN32, toN32, ← BitVec.toNat_and]; exact wrap32 _
theorem not32 (c : BitVec 32) : IntKind.u32.wrap ↑(BitVec.ofInt IntKind.u32.bits (if IntKind.u32.signed = true then -1 else IntKind.u32.max) ^^^ BitVec.ofInt IntKind.u32.bits ↑c.toNat).toNat = ((~~~ c).toNat : Int) := by
  have e : (if IntKind.u32.signed = true then -1 else IntKind.u32.max) = ((BitVec.allOnes 32).toNat : Int) := by decide
  rw [e, xor32]
  have e2 : BitVec.allOnes 32 ^^^ c = ~~~ c := by rw [BitVec.xor_comm, BitVec.xor_allOnes]
  rw [e2]
theorem byte32 (x : UInt8) : IntKind.u32.wrap (x.toNat : Int) = ((BitVec.ofNat 32 x.toNat).toNat : Int) := by
  rw [u32_wrap, BitVec.toNat_ofNat]; have := x.toNat_lt; omega
theorem lsb_mod (c : BitVec 32) : c.getLsbD 0 = decide (c.toNat % 2 = 1) := by
  rw [BitVec.getLsbD, Nat.testBit_zero]
theorem shr1 (c : BitVec 32) : (c >>> 1).toNat = c.toNat / 2 := by simp [BitVec.toNat_ushiftRight, Nat.shiftRight_eq_div_pow]
theorem and_one (e : BitVec 32) : (e &&& 1#32).toNat = e.toNat % 2 := by
  rw [BitVec.toNat_and, show (1#32).toNat = 1 from rfl, Nat.and_one_is_mod]
theorem neg_lsb (e : BitVec 32) : IntKind.u32.wrap (0 - ((e &&& 1#32).toNat : Int)) = ((if e.getLsbD 0 then BitVec.allOnes 32 else 0#32).toNat : Int) := by
  rw [and_one, lsb_mod, u32_wrap]
  rcases Nat.mod_two_eq_zero_or_one e.toNat with h | h
  · rw [h]; rfl
  · rw [h]; rfl
theorem fdiv1 (e : BitVec 32) : ((e.toNat : Int)).fdiv (2 ^ min (Int.toNat 1) IntKind.u32.bits) = ((e >>> 1).toNat : Int) := by
  have e2 : (2 : Int) ^ min (Int.toNat 1) IntKind.u32.bits = 2 := by decide
  rw [e2, Int.fdiv_eq_ediv_of_nonneg _ (by omega), shr1]; omega
theorem step32 (e : BitVec 32) : (IntKind.u32.wrap
      ↑(BitVec.ofInt IntKind.u32.bits ((↑e.toNat : Int).fdiv (2 ^ min (Int.toNat 1) IntKind.u32.bits)) ^^^
            BitVec.ofInt IntKind.u32.bits
              (IntKind.u32.wrap
                ↑(BitVec.ofInt IntKind.u32.bits
                        (IntKind.u32.wrap
                          (0 -
                            IntKind.u32.wrap
                              ↑(BitVec.ofInt IntKind.u32.bits ↑e.toNat &&& BitVec.ofInt IntKind.u32.bits 1).toNat)) &&&
                      BitVec.ofInt IntKind.u32.bits 3988292384).toNat)).toNat) = ((stp e).toNat : Int) := by
  have h1 : IntKind.u32.wrap ↑(BitVec.ofInt IntKind.u32.bits ↑e.toNat &&& BitVec.ofInt IntKind.u32.bits 1).toNat = ((e &&& 1#32).toNat : Int) := and32 e 1#32
  rw [h1, neg_lsb, fdiv1]
  have h2 := and32 (if e.getLsbD 0 then BitVec.allOnes 32 else 0#32) poly
  have hp : ((poly.toNat : Nat) : Int) = 3988292384 := by decide
  rw [hp] at h2
  rw [h2, xor32]
  congr 2
  unfold stp
  congr 1
  split
  · rw [BitVec.and_comm, BitVec.and_allOnes]
  · simp
theorem half32 (e : BitVec 32) : IntKind.u32.wrap ((e.toNat : Int).tdiv 2) = ((e >>> 1).toNat : Int) := by
  rw [Int.tdiv_eq_ediv_of_nonneg (by omega), shr1, u32_wrap]; have := e.isLt; omega
theorem odd32 (e : BitVec 32) : ((e.toNat : Int).tmod 2 == 1) = e.getLsbD 0 := by
  rw [Int.tmod_eq_emod_of_nonneg (by omega), lsb_mod]
  rcases Nat.mod_two_eq_zero_or_one e.toNat with h | h
  · rw [show ((e.toNat : Int) % 2) = 0 by omega, h]; rfl
  · rw [show ((e.toNat : Int) % 2) = 1 by omega, h]; rfl
theorem xpoly32 (e : BitVec 32) : IntKind.u32.wrap ↑(BitVec.ofInt IntKind.u32.bits ↑e.toNat ^^^ BitVec.ofInt IntKind.u32.bits 3988292384).toNat = ((e ^^^ poly).toNat : Int) := xor32 e poly
end Go.Proofs.Ytmjhcadciblcdaa
