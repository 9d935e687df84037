import Derived.Test.YtmjhcadciblcdaaB11
import Derived.Test.YtmjhcadciblcdaaX16
namespace Go.Proofs.Ytmjhcadciblcdaa
open Go Go.Sx
set_option linter.unusedVariables false
set_option linter.unusedSimpArgs false

theorem xor2_len (a b : List UInt8) (h : a.length = b.length) : (xor2 a b).length = a.length := by simp [xor2, h]
/-- Three rows of one length: the sum of their xor is the xor of their sums. -/
theorem more_xor3 (a b c : List UInt8) (h1 : a.length = b.length) (h2 : b.length = c.length) : more 0 (xor2 (xor2 a b) c) = more 0 a ^^^ more 0 b ^^^ more 0 c := by
  have e : (~~~ (0 : BitVec 32)) = (~~~ (0 : BitVec 32) ^^^ ~~~ (0 : BitVec 32)) ^^^ ~~~ (0 : BitVec 32) := by decide
  unfold more
  rw [show crc (~~~ (0 : BitVec 32)) (xor2 (xor2 a b) c) = crc ((~~~ (0 : BitVec 32) ^^^ ~~~ (0 : BitVec 32)) ^^^ ~~~ (0 : BitVec 32)) (xor2 (xor2 a b) c) from by rw [← e]]
  rw [crc_xor _ _ _ _ (by rw [xor2_len _ _ h1, h1, h2]), crc_xor _ _ _ _ h1]
  generalize crc (~~~ (0 : BitVec 32)) a = x
  generalize crc (~~~ (0 : BitVec 32)) b = y
  generalize crc (~~~ (0 : BitVec 32)) c = z
  ext i hi
  simp
end Go.Proofs.Ytmjhcadciblcdaa
