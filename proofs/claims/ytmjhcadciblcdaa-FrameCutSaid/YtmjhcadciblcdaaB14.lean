import Derived.Test.YtmjhcadciblcdaaB12
namespace Go.Proofs.Ytmjhcadciblcdaa
open Go Go.Sx
set_option linter.unusedVariables false
set_option linter.unusedSimpArgs false

/-! Bits turned: the register is linear, and no step loses anything. -/
theorem stps_add : ∀ (a b : Nat) (c : BitVec 32), stps (a + b) c = stps b (stps a c)
  | 0, b, c => by rw [Nat.zero_add]; rfl
  | a + 1, b, c => by
    rw [show a + 1 + b = a + b + 1 by omega]
    show stps (a + b) (stp c) = stps b (stps a (stp c))
    exact stps_add a b _
theorem stp_zero : stp 0 = 0 := by decide
theorem stps_zero : ∀ n, stps n 0 = 0
  | 0 => rfl
  | n + 1 => by show stps n (stp 0) = 0; rw [stp_zero]; exact stps_zero n
theorem stp_even {c : BitVec 32} (h : c.toNat % 2 = 0) : (stp c).toNat = c.toNat / 2 := by
  have hl : c.getLsbD 0 = false := by rw [lsb_mod]; simp; omega
  unfold stp
  rw [hl]
  simp only [Bool.false_eq_true, if_false]
  rw [show (c >>> 1) ^^^ 0#32 = c >>> 1 by simp]
  exact shr1 c
theorem stp_ne {c : BitVec 32} (h : c ≠ 0) : stp c ≠ 0 := by
  intro h0
  cases hl : c.getLsbD 0 with
  | true =>
    have h1 : (stp c).getLsbD 31 = true := by
      unfold stp
      rw [hl, BitVec.getLsbD_xor, BitVec.getLsbD_ushiftRight]
      rw [show c.getLsbD (1 + 31) = false from BitVec.getLsbD_of_ge _ _ (by decide)]
      decide
    rw [h0] at h1
    simp at h1
  | false =>
    have he : c.toNat % 2 = 0 := by
      rw [lsb_mod] at hl
      have := of_decide_eq_false hl
      omega
    have h1 := stp_even he
    rw [h0] at h1
    apply h
    apply BitVec.eq_of_toNat_eq
    simp at h1 ⊢
    omega
theorem stps_ne : ∀ (n : Nat) {c : BitVec 32}, c ≠ 0 → stps n c ≠ 0
  | 0, c, h => h
  | n + 1, c, h => stps_ne n (stp_ne h)
theorem stps_even : ∀ (k : Nat) (c : BitVec 32), c.toNat % 2 ^ k = 0 → (stps k c).toNat = c.toNat / 2 ^ k
  | 0, c, _ => by simp [stps]
  | k + 1, c, h => by
    have hd : 2 ^ (k + 1) ∣ c.toNat := Nat.dvd_of_mod_eq_zero h
    obtain ⟨q, hq⟩ := hd
    have hp : 2 ^ (k + 1) * q = 2 * (2 ^ k * q) := by rw [Nat.pow_succ]; simp [Nat.mul_comm, Nat.mul_left_comm, Nat.mul_assoc]
    have h2 : c.toNat % 2 = 0 := by omega
    have h3 := stp_even h2
    have h4 : (stp c).toNat = 2 ^ k * q := by omega
    show (stps k (stp c)).toNat = _
    rw [stps_even k (stp c) (by rw [h4]; simp), h4, hq, Nat.mul_div_cancel_left _ (Nat.two_pow_pos k), Nat.mul_div_cancel_left _ (Nat.two_pow_pos (k + 1))]
theorem stps_bit {i : Nat} (h : i < 32) : stps i (BitVec.ofNat 32 (2 ^ i)) = 1#32 := by
  have hlt : 2 ^ i < 2 ^ 32 := Nat.pow_lt_pow_right (by decide) h
  apply BitVec.eq_of_toNat_eq
  rw [stps_even i _ (by rw [BitVec.toNat_ofNat, Nat.mod_eq_of_lt hlt]; simp), BitVec.toNat_ofNat, Nat.mod_eq_of_lt hlt, Nat.div_self (Nat.two_pow_pos i)]
  rfl
def oneB (j : Nat) : UInt8 := UInt8.ofNat (2 ^ j)
theorem oneB_nat {j : Nat} (h : j < 8) : (oneB j).toNat = 2 ^ j := by
  have : 2 ^ j < 2 ^ 8 := Nat.pow_lt_pow_right (by decide) h
  unfold oneB; rw [UInt8.toNat_ofNat']; exact Nat.mod_eq_of_lt this
theorem byt_bit {j : Nat} (h : j < 8) : byt 0 (oneB j) = stps (8 - j) 1#32 := by
  unfold byt
  rw [oneB_nat h]
  rw [show (0 : BitVec 32) ^^^ BitVec.ofNat 32 (2 ^ j) = BitVec.ofNat 32 (2 ^ j) by simp]
  have e := stps_add j (8 - j) (BitVec.ofNat 32 (2 ^ j))
  rw [show j + (8 - j) = 8 by omega, stps_bit (by omega)] at e
  exact e
/-- Bit j of the row is turned. -/
def flipB (l : List UInt8) (j : Nat) : List UInt8 := l.set (j / 8) (l.getD (j / 8) 0 ^^^ oneB (j % 8))
theorem flipB_len (l : List UInt8) (j : Nat) : (flipB l j).length = l.length := by simp [flipB]
theorem crc_xor0 : ∀ (l : List UInt8) (a b : BitVec 32), crc (a ^^^ b) l = crc a l ^^^ stps (8 * l.length) b
  | [], a, b => rfl
  | x :: l, a, b => by
    have e : byt (a ^^^ b) x = byt a x ^^^ stps 8 b := by
      unfold byt
      rw [← stps_xor]
      congr 1
      rw [BitVec.xor_assoc, BitVec.xor_comm b, ← BitVec.xor_assoc]
    show crc (byt (a ^^^ b) x) l = crc (byt a x) l ^^^ _
    rw [e, crc_xor0 l, ← stps_add, List.length_cons, show 8 + 8 * l.length = 8 * (l.length + 1) by omega]
theorem crc_flip : ∀ (l : List UInt8) (j : Nat) (c : BitVec 32), j < 8 * l.length → crc c (flipB l j) = crc c l ^^^ stps (8 * l.length - j) 1#32
  | [], j, c, h => by simp at h
  | x :: l, j, c, h => by
    rw [List.length_cons] at h ⊢
    by_cases hj : j < 8
    · have e0 : j / 8 = 0 := by omega
      have e1 : j % 8 = j := by omega
      have ef : flipB (x :: l) j = (x ^^^ oneB j) :: l := by unfold flipB; rw [e0, e1]; rfl
      rw [ef]
      show crc (byt c (x ^^^ oneB j)) l = crc (byt c x) l ^^^ _
      have e2 := byt_xor c 0 x (oneB j)
      rw [show c ^^^ (0 : BitVec 32) = c by simp] at e2
      rw [e2, crc_xor0, byt_bit hj, ← stps_add, show 8 - j + 8 * l.length = 8 * (l.length + 1) - j by omega]
    · have e0 : j / 8 = (j - 8) / 8 + 1 := by omega
      have e1 : j % 8 = (j - 8) % 8 := by omega
      have ef : flipB (x :: l) j = x :: flipB l (j - 8) := by unfold flipB; rw [e0, e1]; rfl
      rw [ef]
      show crc (byt c x) (flipB l (j - 8)) = crc (byt c x) l ^^^ _
      rw [crc_flip l (j - 8) _ (by omega), show 8 * l.length - (j - 8) = 8 * (l.length + 1) - j by omega]
theorem stps_byte (c w : BitVec 32) : stps 8 (c ^^^ w) = byt c (UInt8.ofNat (w.toNat % 256)) ^^^ (w >>> 8) := by
  have hw := w.isLt
  have e1 : ((w >>> 8) <<< 8).toNat = w.toNat / 256 * 256 := by
    simp [BitVec.toNat_shiftLeft, BitVec.toNat_ushiftRight, Nat.shiftRight_eq_div_pow, Nat.shiftLeft_eq]; omega
  have e2 : stps 8 ((w >>> 8) <<< 8) = w >>> 8 := by
    apply BitVec.eq_of_toNat_eq
    rw [stps_even 8 _ (by rw [e1]; omega), e1]
    simp [BitVec.toNat_ushiftRight, Nat.shiftRight_eq_div_pow]
  have e3 : w = BitVec.ofNat 32 (UInt8.ofNat (w.toNat % 256)).toNat ^^^ ((w >>> 8) <<< 8) := by
    rw [ofNat_toNat (by omega)]
    apply BitVec.eq_of_getLsbD_eq
    intro i hi
    rw [BitVec.getLsbD_xor, BitVec.getLsbD_shiftLeft, BitVec.getLsbD_ushiftRight, BitVec.getLsbD_ofNat, show (256 : Nat) = 2 ^ 8 from rfl, Nat.testBit_mod_two_pow]
    by_cases h8 : i < 8
    · simp [hi, h8, BitVec.getLsbD]
    · simp [hi, h8, show 8 + (i - 8) = i by omega]
  unfold byt
  rw [show c ^^^ w = (c ^^^ BitVec.ofNat 32 (UInt8.ofNat (w.toNat % 256)).toNat) ^^^ ((w >>> 8) <<< 8) from by rw [BitVec.xor_assoc, ← e3], stps_xor, e2]
theorem crc_low (c w : BitVec 32) : crc c (lowL w) = stps 32 (c ^^^ w) := by
  have k : ∀ j, lowB w j = UInt8.ofNat ((w >>> (8 * j)).toNat % 256) := fun j => by
    unfold lowB; rw [BitVec.toNat_ushiftRight, Nat.shiftRight_eq_div_pow]
  have s : ∀ j, w >>> (8 * j) >>> 8 = w >>> (8 * (j + 1)) := fun j => by
    apply BitVec.eq_of_toNat_eq
    simp only [BitVec.toNat_ushiftRight, ← Nat.shiftRight_add]
    rw [show 8 * j + 8 = 8 * (j + 1) by omega]
  show byt (byt (byt (byt c (lowB w 0)) (lowB w 1)) (lowB w 2)) (lowB w 3) = _
  have h0 := stps_byte c (w >>> (8 * 0))
  rw [← k 0, s 0] at h0
  have h1 := stps_byte (byt c (lowB w 0)) (w >>> (8 * 1))
  rw [← k 1, s 1] at h1
  have h2 := stps_byte (byt (byt c (lowB w 0)) (lowB w 1)) (w >>> (8 * 2))
  rw [← k 2, s 2] at h2
  have h3 := stps_byte (byt (byt (byt c (lowB w 0)) (lowB w 1)) (lowB w 2)) (w >>> (8 * 3))
  rw [← k 3, s 3] at h3
  have z : w >>> (8 * (3 + 1)) = 0 := by
    apply BitVec.eq_of_toNat_eq
    have := w.isLt
    simp [BitVec.toNat_ushiftRight, Nat.shiftRight_eq_div_pow]
    try omega
  rw [z] at h3
  have h32 : stps 32 (c ^^^ w) = stps 8 (stps 8 (stps 8 (stps 8 (c ^^^ w >>> (8 * 0))))) := by
    rw [← stps_add, ← stps_add, ← stps_add]
    simp
  rw [h32, h0, h1, h2, h3]
  simp
/-- What is fed behind its own sum is always the same. -/
theorem crc_whole (l : List UInt8) : crc (~~~ (0 : BitVec 32)) (l ++ lowL (more 0 l)) = stps 32 (BitVec.allOnes 32) := by
  rw [crc_append, crc_low]
  unfold more
  congr 1
  generalize crc (~~~ (0 : BitVec 32)) l = u
  apply BitVec.eq_of_getLsbD_eq
  intro i hi
  rw [BitVec.getLsbD_xor, BitVec.getLsbD_not, BitVec.getLsbD_allOnes]
  simp [hi]
/-- The turned bits of a pattern, so many of them gone through. -/
def patB (p : Nat) : Nat → BitVec 32
  | 0 => 0
  | i + 1 => if p.testBit i then patB p i ^^^ BitVec.ofNat 32 (2 ^ i) else patB p i
theorem patB_bit (p : Nat) : ∀ (i j : Nat), i ≤ 32 → (patB p i).getLsbD j = (decide (j < i) && p.testBit j)
  | 0, j, _ => by simp [patB]
  | i + 1, j, h => by
    have ih := patB_bit p i j (by omega)
    unfold patB
    by_cases hj : j = i
    · subst hj
      have e : (patB p j).getLsbD j = false := by rw [ih]; simp
      cases ht : p.testBit j with
      | false => simp [e]
      | true =>
        simp only [if_true, BitVec.getLsbD_xor, e, BitVec.getLsbD_ofNat]
        simp; omega
    · cases ht : p.testBit i with
      | false =>
        simp only [Bool.false_eq_true, if_false]
        rw [ih]
        have : decide (j < i + 1) = decide (j < i) := by apply decide_eq_decide.2; omega
        rw [this]
      | true =>
        simp only [if_true, BitVec.getLsbD_xor, ih, BitVec.getLsbD_ofNat]
        have : decide (j < i + 1) = decide (j < i) := by apply decide_eq_decide.2; omega
        rw [this, Nat.testBit_two_pow]
        simp [show i ≠ j from fun e => hj e.symm]
/-- Bits k, k+1, .. turned as the pattern says. -/
def burst (p : Nat) (k : Nat) (l : List UInt8) : Nat → List UInt8
  | 0 => l
  | i + 1 => if p.testBit i then flipB (burst p k l i) (k + i) else burst p k l i
theorem burst_len (p k : Nat) (l : List UInt8) : ∀ i, (burst p k l i).length = l.length
  | 0 => rfl
  | i + 1 => by unfold burst; split; rw [flipB_len]; exact burst_len p k l i; exact burst_len p k l i
theorem crc_burst (p k : Nat) (l : List UInt8) (c : BitVec 32) : ∀ i, i ≤ 32 → k + i ≤ 8 * l.length → crc c (burst p k l i) = crc c l ^^^ stps (8 * l.length - k) (patB p i)
  | 0, _, _ => by show crc c l = crc c l ^^^ stps _ 0; rw [stps_zero]; simp
  | i + 1, h, hk => by
    have ih := crc_burst p k l c i (by omega) (by omega)
    unfold burst patB
    split
    · rw [crc_flip _ _ _ (by rw [burst_len]; omega), ih, burst_len, stps_xor, BitVec.xor_assoc]
      congr 2
      rw [show 8 * l.length - k = i + (8 * l.length - (k + i)) by omega, stps_add, stps_bit (by omega)]
    · exact ih
theorem burst_take (p k m : Nat) (l : List UInt8) (h : 8 * m ≤ k) : ∀ i, (burst p k l i).take m = l.take m
  | 0 => rfl
  | i + 1 => by
    unfold burst
    split
    · unfold flipB
      rw [List.take_set_of_le (by omega)]
      exact burst_take p k m l h i
    · exact burst_take p k m l h i
theorem burst_same (p k : Nat) (l : List UInt8) : ∀ i, (∀ j, j < i → p.testBit j = false) → burst p k l i = l
  | 0, _ => rfl
  | i + 1, h => by
    unfold burst
    rw [h i (by omega)]
    exact burst_same p k l i (fun j hj => h j (by omega))
theorem burst_crc_ne {p k : Nat} {l : List UInt8} {i j : Nat} (hi : i ≤ 32) (hk : k + i ≤ 8 * l.length) (hj : j < i) (ht : p.testBit j = true) (c : BitVec 32) : crc c (burst p k l i) ≠ crc c l := by
  rw [crc_burst p k l c i hi hk]
  intro h
  have hz : stps (8 * l.length - k) (patB p i) = 0 := by
    have h2 := congrArg (fun x => crc c l ^^^ x) h
    simpa [← BitVec.xor_assoc] using h2
  have hb := patB_bit p i j hi
  rw [ht] at hb
  exact stps_ne _ (fun e => by rw [e] at hb; simp at hb; omega) hz
end Go.Proofs.Ytmjhcadciblcdaa
