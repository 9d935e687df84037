import Derived.Test.YtpfhleghgkeemaaGreatDoorX11
/-! X12: numbers of 64 bits. -/
namespace Go.Sx
open Go
def foldN (n : Int) : Int := if n < 0 then -2 * n - 1 else 2 * n
theorem u64_wrap (x : Int) : IntKind.u64.wrap x = x % 18446744073709551616 := by simp [IntKind.wrap, IntKind.signed, IntKind.bits]
theorem i64_wrap (x : Int) : IntKind.i64.wrap x = if 9223372036854775808 ≤ x % 18446744073709551616 then x % 18446744073709551616 - 18446744073709551616 else x % 18446744073709551616 := by simp [IntKind.wrap, IntKind.signed, IntKind.bits]; done
theorem ofInt_toNat (x : Int) (h : 0 ≤ x) (h2 : x < 18446744073709551616) : ((BitVec.ofInt 64 x).toNat : Int) = x := by
  rw [BitVec.toNat_ofInt]; omega
theorem fold_math (n : Int) (h1 : -9223372036854775808 ≤ n) (h2 : n ≤ 9223372036854775807) : (IntKind.u64.wrap
      ↑(BitVec.ofInt IntKind.u64.bits
              (IntKind.u64.wrap (IntKind.u64.wrap n * 2 ^ min (Int.toNat 1) IntKind.u64.bits)) ^^^
            BitVec.ofInt IntKind.u64.bits
              (IntKind.u64.wrap (n.fdiv (2 ^ min (Int.toNat 63) IntKind.i64.bits)))).toNat) = foldN n := by
  have e64 : IntKind.u64.bits = 64 := rfl
  have e1 : (2 : Int) ^ min (Int.toNat 1) IntKind.u64.bits = 2 := by decide
  have e63 : (2 : Int) ^ min (Int.toNat 63) IntKind.i64.bits = 9223372036854775808 := by decide
  rw [e1, e63, e64]
  simp only [u64_wrap]
  rw [Int.fdiv_eq_ediv_of_nonneg _ (by omega)]
  unfold foldN
  split
  · rename_i h
    have hd : n / 9223372036854775808 = -1 := by omega
    have hA : n % 18446744073709551616 * 2 % 18446744073709551616 = 2 * n + 18446744073709551616 := by omega
    rw [hd, hA]
    have hB : BitVec.ofInt 64 (-1 % 18446744073709551616) = BitVec.allOnes 64 := by decide
    rw [hB, BitVec.xor_allOnes, BitVec.toNat_not]
    have := ofInt_toNat (2 * n + 18446744073709551616) (by omega) (by omega)
    omega
  · rename_i h
    have hd : n / 9223372036854775808 = 0 := by omega
    have hA : n % 18446744073709551616 * 2 % 18446744073709551616 = 2 * n := by omega
    rw [hd, hA]
    have hB : BitVec.ofInt 64 (0 % 18446744073709551616) = 0#64 := by decide
    rw [hB, BitVec.xor_zero]
    have := ofInt_toNat (2 * n) (by omega) (by omega)
    omega
def unfoldN (f : Int) : Int := if f % 2 = 1 then -(f / 2) - 1 else f / 2
theorem unfold_math (n : Int) (h1 : 0 ≤ n) (h2 : n < 18446744073709551616) : (IntKind.i64.wrap
      ↑(BitVec.ofInt IntKind.i64.bits (IntKind.i64.wrap (n.fdiv (2 ^ min (Int.toNat 1) IntKind.u64.bits))) ^^^
            BitVec.ofInt IntKind.i64.bits
              (IntKind.i64.wrap
                (0 -
                  IntKind.i64.wrap
                    (IntKind.u64.wrap
                      ↑(BitVec.ofInt IntKind.u64.bits n &&& BitVec.ofInt IntKind.u64.bits 1).toNat)))).toNat) = unfoldN n := by
  have e64 : IntKind.u64.bits = 64 := rfl
  have e64' : IntKind.i64.bits = 64 := rfl
  have e1 : (2 : Int) ^ min (Int.toNat 1) IntKind.u64.bits = 2 := by decide
  rw [e1, e64, e64', Int.fdiv_eq_ediv_of_nonneg _ (by omega)]
  have hand : ((BitVec.ofInt 64 n &&& BitVec.ofInt 64 1).toNat : Int) = n % 2 := by
    rw [BitVec.toNat_and, show (BitVec.ofInt 64 1).toNat = 1 from by decide, Nat.and_one_is_mod]
    have := ofInt_toNat n h1 h2
    omega
  rw [hand]
  simp only [u64_wrap]
  unfold unfoldN
  have hq : IntKind.i64.wrap (n / 2) = n / 2 := by rw [i64_wrap]; split <;> omega
  rw [hq]
  split
  · rename_i h
    rw [h]
    have hB : BitVec.ofInt 64 (IntKind.i64.wrap (0 - IntKind.i64.wrap (1 % 18446744073709551616))) = BitVec.allOnes 64 := by decide
    rw [hB, BitVec.xor_allOnes, BitVec.toNat_not]
    have := ofInt_toNat (n / 2) (by omega) (by omega)
    rw [i64_wrap]
    split <;> omega
  · rename_i h
    have : n % 2 = 0 := by omega
    rw [this]
    have hB : BitVec.ofInt 64 (IntKind.i64.wrap (0 - IntKind.i64.wrap (0 % 18446744073709551616))) = 0#64 := by decide
    rw [hB, BitVec.xor_zero, ofInt_toNat _ (by omega) (by omega), hq]
end Go.Sx
