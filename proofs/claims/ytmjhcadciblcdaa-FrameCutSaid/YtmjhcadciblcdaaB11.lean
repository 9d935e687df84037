import Derived.Test.YtmjhcadciblcdaaB10
import Derived.Test.YtmjhcadciblcdaaX16
namespace Go.Proofs.Ytmjhcadciblcdaa
open Go Go.Sx
set_option linter.unusedVariables false
set_option linter.unusedSimpArgs false

theorem stp_xor (a b : BitVec 32) : stp (a ^^^ b) = stp a ^^^ stp b := by
  unfold stp
  rw [BitVec.getLsbD_xor, BitVec.ushiftRight_xor_distrib]
  cases a.getLsbD 0 <;> cases b.getLsbD 0 <;> simp
  all_goals (ext i; simp [BitVec.getLsbD_xor, Bool.xor_assoc, Bool.xor_left_comm, Bool.xor_comm])
theorem stps_xor : ∀ (n : Nat) (a b : BitVec 32), stps n (a ^^^ b) = stps n a ^^^ stps n b
  | 0, a, b => rfl
  | n + 1, a, b => by
    show stps n (stp (a ^^^ b)) = stps n (stp a) ^^^ stps n (stp b)
    rw [stp_xor, stps_xor n]
theorem ofNat_xor (x y : UInt8) : BitVec.ofNat 32 (x ^^^ y).toNat = BitVec.ofNat 32 x.toNat ^^^ BitVec.ofNat 32 y.toNat := by
  rw [UInt8.toNat_xor]
  apply BitVec.eq_of_toNat_eq
  rw [BitVec.toNat_xor, BitVec.toNat_ofNat, BitVec.toNat_ofNat, BitVec.toNat_ofNat, Nat.xor_mod_two_pow]
theorem byt_xor (a b : BitVec 32) (x y : UInt8) : byt (a ^^^ b) (x ^^^ y) = byt a x ^^^ byt b y := by
  unfold byt
  rw [ofNat_xor, ← stps_xor]
  congr 1
  rw [BitVec.xor_assoc, BitVec.xor_assoc, ← BitVec.xor_assoc b, BitVec.xor_comm b, BitVec.xor_assoc]
/-- Two rows, byte by byte. -/
def xor2 (a b : List UInt8) : List UInt8 := List.zipWith (· ^^^ ·) a b
theorem crc_xor : ∀ (a b : List UInt8) (c d : BitVec 32), a.length = b.length → crc (c ^^^ d) (xor2 a b) = crc c a ^^^ crc d b
  | [], [], c, d, _ => rfl
  | x :: a, y :: b, c, d, h => by
    show crc (byt (c ^^^ d) (x ^^^ y)) (xor2 a b) = crc (byt c x) a ^^^ crc (byt d y) b
    rw [byt_xor]
    exact crc_xor a b _ _ (by simpa using h)
  | [], _ :: _, _, _, h => by cases h
  | _ :: _, [], _, _, h => by cases h
end Go.Proofs.Ytmjhcadciblcdaa
