import Derived.Test.YtpfhleghgkeemaaGreatDoorH1
import Derived.Test.YtpfhleghgkeemaaGreatDoorY2
namespace Go.Proofs.YtpfhleghgkeemaaGreatDoor
open Go Go.Sx
set_option linter.unusedVariables false
set_option linter.unusedSimpArgs false

/-! Words, letters, names. -/
def wordsL : List (List UInt8) := [[102, 110], [114, 101, 99, 111, 114, 100], [108, 101, 116], [105, 102], [101, 108, 115, 101], [119, 104, 105, 108, 101], [114, 101, 116, 117, 114, 110], [110, 101, 119], [116, 114, 117, 101], [102, 97, 108, 115, 101]]
def strV (x : List UInt8) : Value := .string (mkS x)
/-- The words of the language, as start-up lays them. -/
def gWords : Ch := ro (some ⟨1, 0, none⟩) (wordsL.map strV)
def isWord (s : List UInt8) : Bool := wordsL.contains s
theorem map_at {α : Type} (f : α → Value) {l : List α} {q : Nat} (hq : q < l.length) : ((l.map f).drop (q * 1)).take 1 = [f l[q]] := by
  rw [Nat.mul_one, List.drop_eq_getElem_cons (by simpa using hq)]
  simp
theorem Word_spec (s : List UInt8) : Does Tryz.prog 98 [.string (mkS s)] [gWords] (fun v hp' => v = .bool (isWord s) ∧ hp' = []) := by
  refine fn_enter Tryz.func98 rfl 13 rfl fun w0 h0 => ?_
  refine SQ (RG ?_)
  refine RR [] .z (.i 2 (.bool false) .a) .a ?_
  refine RZ (NT (SQ (SQ (RG ?_))))
  refine RR [] .z (.i 4 (.int .i64 0) .a) .a ?_
  refine RZ (NT (BK ?_))
  refine wpc_loop (X := {i : Nat // i ≤ 10 ∧ ∀ j, j < i → wordsL[j]? ≠ some s}) (fun x => St.mk [(4, .int .i64 (x.1 : Int)), (2, .bool false), (0, .string (mkS s))] [gWords]) (fun x => 10 - x.1) ⟨0, by omega, fun j h => absurd h (Nat.not_lt_zero _)⟩ (ent_fr (by kernel_rfl)) ?_
  rintro ⟨i, hi, hall⟩
  dsimp only at hi hall ⊢
  refine SQ (RG ?_)
  refine RR [] .z (.i 5 (.bool (decide ((↑i : Int) < 10))) .a) .a ?_
  refine RZ (NT (SQ ?_))
  refine wpc_if (((↑i : Int) < 10)) (by kernel_rfl) (fun hlt => ?_) (fun hlt => ?_)
  · have hil : i < wordsL.length := by show i < 10; omega
    refine SK (NT (SQ (BK (SQ (RG ?_)))))
    refine RR [] .z (.i 3 (.int .i64 (↑i : Int)) (.d (.k .a))) .a ?_
    refine RZ (NT (SQ (RG ?_)))
    refine RV true [] (.d (.d .a)) (.i 8 (.pointer (some ⟨1, 0 + i * 1, none⟩)) (.d (.k .a))) .a [(0 : Int) ≤ (↑i : Int) ∧ (↑i : Int) < (↑(10 : Nat) : Int)] ⟨by first | omega | decide | (simp; done), trivial⟩ ?_
    refine wpr_eq (ld (t := 9) (a := (⟨1, 0 + i * 1, none⟩)) (dst := some 9) (by kernel_rfl) false 1 (by kernel_rfl) (by simp) [.string (mkS wordsL[i])] rfl (fun w h => ld_ro h 0 rfl (i * 1) (map_at strV hil))) ?_
    refine RR [] .z (.i 11 (.bool (decide (wordsL[i] = s))) (.d (.d (.k .a)))) .a ?_
    refine RZ (NT ?_)
    refine wpc_if ((wordsL[i] = s)) (by kernel_rfl) (fun heq => ?_) (fun heq => ?_)
    · refine SQ (RG ?_)
      refine RR [] .z (.i 2 (.bool true) (.d (.k (.d (.k .a))))) .a ?_
      refine RZ (NT (RE (BR (TR (TR (BR (TR ?_)))))))
      refine NE [] .z .a [] (.bool true) ?_
      refine ⟨?_, rfl⟩
      have he : wordsL[i] = s := heq
      have h2 : isWord s = true := List.contains_iff_mem.2 (he ▸ List.getElem_mem hil)
      rw [h2]
    · refine SK (BN (NT (RG ?_)))
      refine RV true [] .z (.i 4 (.int .i64 ((↑i : Int) + 1)) (.d (.d (.k .a)))) .a ([inI64 ((↑i : Int) + (1 : Int))]) ⟨by unfold inI64; omega, trivial⟩ ?_
      refine RZ ?_
      exact fun a' w' hS' => ⟨⟨i + 1, by omega, fun j hj => by
              rcases Nat.lt_or_ge j i with h | h
              · exact hall j h
              · obtain rfl : j = i := by omega
                rw [List.getElem?_eq_getElem hil]
                intro h2
                exact heq (Option.some.inj h2)⟩, by dsimp only; omega, ent_fr (by kernel_rfl) _ _ (ent_hp [0] rfl _ _ hS')⟩
  · refine EX (TE (TE (BH (NT (SQ (RG ?_))))))
    refine RR [] .z (.d (.d (.k .z))) .a ?_
    refine RZ (NT (RE ?_))
    refine NE [] .z .a [] (.bool false) ?_
    refine ⟨?_, rfl⟩
    have h2 : isWord s = false := by
      cases hw : isWord s with
      | false => rfl
      | true =>
        obtain ⟨j, hj⟩ := List.getElem?_of_mem (List.contains_iff_mem.1 hw)
        obtain ⟨hj1, _⟩ := List.getElem?_eq_some_iff.1 hj
        have : j < 10 := hj1
        exact absurd hj (hall j (by omega))
    rw [h2]
/-- Of bytes: a letter, a digit. -/
def letB (c : UInt8) : Bool := (97 ≤ c.toNat && c.toNat ≤ 122) || (65 ≤ c.toNat && c.toNat ≤ 90) || c.toNat == 95
def digB (c : UInt8) : Bool := 48 ≤ c.toNat && c.toNat ≤ 57
set_option maxRecDepth 20000 in
theorem let32 : ∀ g : Nat, g < 256 → ((decide (97 ≤ g) && decide (g ≤ 122)) || (decide (65 ≤ g) && decide (g ≤ 90)) || g == 95) = ((decide (97 ≤ g ||| 32) && decide (g ||| 32 ≤ 122)) || g == 95) := by decide
theorem or32 (c : UInt8) : IntKind.u8.wrap ↑(BitVec.ofInt IntKind.u8.bits (c.toNat : Int) ||| BitVec.ofInt IntKind.u8.bits 32).toNat = ((c.toNat ||| 32 : Nat) : Int) := by
  have e8 : IntKind.u8.bits = 8 := rfl
  have hc := c.toNat_lt
  have hlt : c.toNat ||| 32 < 2 ^ 8 := Nat.or_lt_two_pow (by omega) (by decide)
  have h1 : (BitVec.ofInt 8 (c.toNat : Int)).toNat = c.toNat := by rw [BitVec.toNat_ofInt]; omega
  rw [e8, BitVec.toNat_or, h1]
  have h2 : (BitVec.ofInt 8 32).toNat = 32 := by decide
  rw [h2]
  unfold IntKind.wrap
  simp [IntKind.signed, IntKind.bits]
  omega
theorem beq95 (c : UInt8) : ((c.toNat : Int) == 95) = (c.toNat == 95) := by rw [Bool.eq_iff_iff, beq_iff_eq, beq_iff_eq]; omega
theorem letter_spec (c : UInt8) : Does Tryz.prog 135 [.int .u8 c.toNat] [] (fun v hp' => v = .bool (letB c) ∧ hp' = []) := by
  have hl : letB c = ((decide (97 ≤ c.toNat ||| 32) && decide (c.toNat ||| 32 ≤ 122)) || c.toNat == 95) := let32 c.toNat c.toNat_lt
  have hD := or32 c
  rw [hl]
  obtain ⟨D, hDD⟩ : ∃ D : Nat, D = c.toNat ||| 32 := ⟨_, rfl⟩
  rw [← hDD] at hD ⊢
  rcases (by omega : (D < 97 ∧ c.toNat = 95) ∨ (D < 97 ∧ ¬ c.toNat = 95) ∨ (97 ≤ D ∧ D ≤ 122) ∨ (122 < D ∧ c.toNat = 95) ∨ (122 < D ∧ ¬ c.toNat = 95)) with ⟨h1, h2⟩ | ⟨h1, h2⟩ | ⟨h1, h2⟩ | ⟨h1, h2⟩ | ⟨h1, h2⟩
  · refine fn_enter Tryz.func135 rfl 15 rfl fun w0 h0 => ?_
    refine SQ (RG ?_)
    refine RR [] .z (.i 2 (.bool false) .a) .a ?_
    refine RZ (NT (SQ (RG ?_)))
    refine RR [] (.d (.d (.d (.d .a)))) (.i 6 (.bool (decide (IntKind.u8.wrap (↑(BitVec.ofInt IntKind.u8.bits (↑c.toNat : Int) ||| BitVec.ofInt IntKind.u8.bits 32).toNat : Int) ≥ 97))) .a) .a ?_
    refine SR 6 (decide (IntKind.u8.wrap (↑(BitVec.ofInt IntKind.u8.bits (↑c.toNat : Int) ||| BitVec.ofInt IntKind.u8.bits 32).toNat : Int) ≥ 97)) false (decide_eq_false (by omega)) ?_
    refine RR [] .z (.i 2 (.bool ((↑c.toNat : Int) == 95)) .z) .a ?_
    refine RZ (NT (RE ?_))
    refine NE [] .a .a [] (.bool ((↑c.toNat : Int) == 95)) ?_
    refine ⟨?_, rfl⟩
    first | omega | (simp [letB, h1, h2, beq95]; done) | (simp [letB, h1, h2, beq95]; omega)
  · refine fn_enter Tryz.func135 rfl 15 rfl fun w0 h0 => ?_
    refine SQ (RG ?_)
    refine RR [] .z (.i 2 (.bool false) .a) .a ?_
    refine RZ (NT (SQ (RG ?_)))
    refine RR [] (.d (.d (.d (.d .a)))) (.i 6 (.bool (decide (IntKind.u8.wrap (↑(BitVec.ofInt IntKind.u8.bits (↑c.toNat : Int) ||| BitVec.ofInt IntKind.u8.bits 32).toNat : Int) ≥ 97))) .a) .a ?_
    refine SR 6 (decide (IntKind.u8.wrap (↑(BitVec.ofInt IntKind.u8.bits (↑c.toNat : Int) ||| BitVec.ofInt IntKind.u8.bits 32).toNat : Int) ≥ 97)) false (decide_eq_false (by omega)) ?_
    refine RR [] .z (.i 2 (.bool ((↑c.toNat : Int) == 95)) .z) .a ?_
    refine RZ (NT (RE ?_))
    refine NE [] .a .a [] (.bool ((↑c.toNat : Int) == 95)) ?_
    refine ⟨?_, rfl⟩
    first | omega | (simp [letB, h1, h2, beq95]; done) | (simp [letB, h1, h2, beq95]; omega)
  · refine fn_enter Tryz.func135 rfl 15 rfl fun w0 h0 => ?_
    refine SQ (RG ?_)
    refine RR [] .z (.i 2 (.bool false) .a) .a ?_
    refine RZ (NT (SQ (RG ?_)))
    refine RR [] (.d (.d (.d (.d .a)))) (.i 6 (.bool (decide (IntKind.u8.wrap (↑(BitVec.ofInt IntKind.u8.bits (↑c.toNat : Int) ||| BitVec.ofInt IntKind.u8.bits 32).toNat : Int) ≥ 97))) .a) .a ?_
    refine SR 6 (decide (IntKind.u8.wrap (↑(BitVec.ofInt IntKind.u8.bits (↑c.toNat : Int) ||| BitVec.ofInt IntKind.u8.bits 32).toNat : Int) ≥ 97)) true (decide_eq_true (by omega)) ?_
    refine RR [] (.d (.d (.d (.d (.d .a))))) (.i 11 (.bool (decide (IntKind.u8.wrap (↑(BitVec.ofInt IntKind.u8.bits (↑c.toNat : Int) ||| BitVec.ofInt IntKind.u8.bits 32).toNat : Int) ≤ 122))) (.d (.d (.k .a)))) .a ?_
    refine SR 11 (decide (IntKind.u8.wrap (↑(BitVec.ofInt IntKind.u8.bits (↑c.toNat : Int) ||| BitVec.ofInt IntKind.u8.bits 32).toNat : Int) ≤ 122)) true (decide_eq_true (by omega)) ?_
    refine RR [] .z (.i 2 (.bool true) .z) .a ?_
    refine RZ (NT (RE ?_))
    refine NE [] .a .a [] (.bool true) ?_
    refine ⟨?_, rfl⟩
    first | omega | (simp [letB, h1, h2, beq95]; done) | (simp [letB, h1, h2, beq95]; omega)
  · refine fn_enter Tryz.func135 rfl 15 rfl fun w0 h0 => ?_
    refine SQ (RG ?_)
    refine RR [] .z (.i 2 (.bool false) .a) .a ?_
    refine RZ (NT (SQ (RG ?_)))
    refine RR [] (.d (.d (.d (.d .a)))) (.i 6 (.bool (decide (IntKind.u8.wrap (↑(BitVec.ofInt IntKind.u8.bits (↑c.toNat : Int) ||| BitVec.ofInt IntKind.u8.bits 32).toNat : Int) ≥ 97))) .a) .a ?_
    refine SR 6 (decide (IntKind.u8.wrap (↑(BitVec.ofInt IntKind.u8.bits (↑c.toNat : Int) ||| BitVec.ofInt IntKind.u8.bits 32).toNat : Int) ≥ 97)) true (decide_eq_true (by omega)) ?_
    refine RR [] (.d (.d (.d (.d (.d .a))))) (.i 11 (.bool (decide (IntKind.u8.wrap (↑(BitVec.ofInt IntKind.u8.bits (↑c.toNat : Int) ||| BitVec.ofInt IntKind.u8.bits 32).toNat : Int) ≤ 122))) (.d (.d (.k .a)))) .a ?_
    refine SR 11 (decide (IntKind.u8.wrap (↑(BitVec.ofInt IntKind.u8.bits (↑c.toNat : Int) ||| BitVec.ofInt IntKind.u8.bits 32).toNat : Int) ≤ 122)) false (decide_eq_false (by omega)) ?_
    refine RR [] .z (.i 2 (.bool ((↑c.toNat : Int) == 95)) .z) .a ?_
    refine RZ (NT (RE ?_))
    refine NE [] .a .a [] (.bool ((↑c.toNat : Int) == 95)) ?_
    refine ⟨?_, rfl⟩
    first | omega | (simp [letB, h1, h2, beq95]; done) | (simp [letB, h1, h2, beq95]; omega)
  · refine fn_enter Tryz.func135 rfl 15 rfl fun w0 h0 => ?_
    refine SQ (RG ?_)
    refine RR [] .z (.i 2 (.bool false) .a) .a ?_
    refine RZ (NT (SQ (RG ?_)))
    refine RR [] (.d (.d (.d (.d .a)))) (.i 6 (.bool (decide (IntKind.u8.wrap (↑(BitVec.ofInt IntKind.u8.bits (↑c.toNat : Int) ||| BitVec.ofInt IntKind.u8.bits 32).toNat : Int) ≥ 97))) .a) .a ?_
    refine SR 6 (decide (IntKind.u8.wrap (↑(BitVec.ofInt IntKind.u8.bits (↑c.toNat : Int) ||| BitVec.ofInt IntKind.u8.bits 32).toNat : Int) ≥ 97)) true (decide_eq_true (by omega)) ?_
    refine RR [] (.d (.d (.d (.d (.d .a))))) (.i 11 (.bool (decide (IntKind.u8.wrap (↑(BitVec.ofInt IntKind.u8.bits (↑c.toNat : Int) ||| BitVec.ofInt IntKind.u8.bits 32).toNat : Int) ≤ 122))) (.d (.d (.k .a)))) .a ?_
    refine SR 11 (decide (IntKind.u8.wrap (↑(BitVec.ofInt IntKind.u8.bits (↑c.toNat : Int) ||| BitVec.ofInt IntKind.u8.bits 32).toNat : Int) ≤ 122)) false (decide_eq_false (by omega)) ?_
    refine RR [] .z (.i 2 (.bool ((↑c.toNat : Int) == 95)) .z) .a ?_
    refine RZ (NT (RE ?_))
    refine NE [] .a .a [] (.bool ((↑c.toNat : Int) == 95)) ?_
    refine ⟨?_, rfl⟩
    first | omega | (simp [letB, h1, h2, beq95]; done) | (simp [letB, h1, h2, beq95]; omega)
theorem digit_spec (c : UInt8) : Does Tryz.prog 132 [.int .u8 c.toNat] [] (fun v hp' => v = .bool (digB c) ∧ hp' = []) := by
  rcases (by omega : (c.toNat < 48) ∨ (48 ≤ c.toNat ∧ c.toNat ≤ 57) ∨ (48 ≤ c.toNat ∧ ¬ c.toNat ≤ 57)) with h1 | ⟨h1, h2⟩ | ⟨h1, h2⟩
  · refine fn_enter Tryz.func132 rfl 9 rfl fun w0 h0 => ?_
    refine SQ (RG ?_)
    refine RR [] .z (.i 2 (.bool false) .a) .a ?_
    refine RZ (NT (SQ (RG ?_)))
    refine RR [] (.d (.d (.d .a))) (.i 5 (.bool (decide ((↑c.toNat : Int) ≥ 48))) .a) .a ?_
    refine SR 5 (decide ((↑c.toNat : Int) ≥ 48)) false (decide_eq_false (by omega)) ?_
    refine RR [] .z (.d (.d (.k .z))) .a ?_
    refine RZ (NT (RE ?_))
    refine NE [] .a .a [] (.bool false) ?_
    refine ⟨?_, rfl⟩
    first | omega | (simp [digB, h1, beq95]; done) | (simp [digB, h1, beq95]; omega)
  · refine fn_enter Tryz.func132 rfl 9 rfl fun w0 h0 => ?_
    refine SQ (RG ?_)
    refine RR [] .z (.i 2 (.bool false) .a) .a ?_
    refine RZ (NT (SQ (RG ?_)))
    refine RR [] (.d (.d (.d .a))) (.i 5 (.bool (decide ((↑c.toNat : Int) ≥ 48))) .a) .a ?_
    refine SR 5 (decide ((↑c.toNat : Int) ≥ 48)) true (decide_eq_true (by omega)) ?_
    refine RR [] .z (.i 2 (.bool (decide ((↑c.toNat : Int) ≤ 57))) .z) .a ?_
    refine RZ (NT (RE ?_))
    refine NE [] .a .a [] (.bool (decide ((↑c.toNat : Int) ≤ 57))) ?_
    refine ⟨?_, rfl⟩
    first | omega | (simp [digB, h1, h2, beq95]; done) | (simp [digB, h1, h2, beq95]; omega)
  · refine fn_enter Tryz.func132 rfl 9 rfl fun w0 h0 => ?_
    refine SQ (RG ?_)
    refine RR [] .z (.i 2 (.bool false) .a) .a ?_
    refine RZ (NT (SQ (RG ?_)))
    refine RR [] (.d (.d (.d .a))) (.i 5 (.bool (decide ((↑c.toNat : Int) ≥ 48))) .a) .a ?_
    refine SR 5 (decide ((↑c.toNat : Int) ≥ 48)) true (decide_eq_true (by omega)) ?_
    refine RR [] .z (.i 2 (.bool (decide ((↑c.toNat : Int) ≤ 57))) .z) .a ?_
    refine RZ (NT (RE ?_))
    refine NE [] .a .a [] (.bool (decide ((↑c.toNat : Int) ≤ 57))) ?_
    refine ⟨?_, rfl⟩
    first | omega | (simp [digB, h1, h2, beq95]; done) | (simp [digB, h1, h2, beq95]; omega)
theorem rletter_spec (c : UInt8) : Does Tryz.prog 100 [.int .u8 c.toNat] [] (fun v hp' => v = .bool (letB c) ∧ hp' = []) := by
  rcases (by omega : (c.toNat < 65) ∨ (65 ≤ c.toNat ∧ c.toNat ≤ 90) ∨ (90 < c.toNat ∧ c.toNat < 97 ∧ c.toNat = 95) ∨ (90 < c.toNat ∧ c.toNat < 97 ∧ ¬ c.toNat = 95) ∨ (97 ≤ c.toNat ∧ c.toNat ≤ 122) ∨ (122 < c.toNat)) with h1 | ⟨h1, h2⟩ | ⟨h1, h2, h3⟩ | ⟨h1, h2, h3⟩ | ⟨h1, h2⟩ | h1
  · refine fn_enter Tryz.func100 rfl 21 rfl fun w0 h0 => ?_
    refine SQ (RG ?_)
    refine RR [] .z (.i 2 (.bool false) .a) .a ?_
    refine RZ (NT (SQ (RG ?_)))
    refine RR [] (.d (.d (.d .a))) (.i 5 (.bool (decide ((↑c.toNat : Int) ≥ 97))) .a) .a ?_
    refine SR 5 (decide ((↑c.toNat : Int) ≥ 97)) false (decide_eq_false (by omega)) ?_
    refine RR [] (.d (.d (.d (.d (.d (.d (.d .a))))))) (.i 12 (.bool (decide ((↑c.toNat : Int) ≥ 65))) (.i 9 (.bool false) (.d (.d (.k .a))))) .a ?_
    refine SR 12 (decide ((↑c.toNat : Int) ≥ 65)) false (decide_eq_false (by omega)) ?_
    refine RR [] .z (.i 2 (.bool ((↑c.toNat : Int) == 95)) .z) .a ?_
    refine RZ (NT (RE ?_))
    refine NE [] .a .a [] (.bool ((↑c.toNat : Int) == 95)) ?_
    refine ⟨?_, rfl⟩
    first | omega | (simp [letB, h1, beq95]; done) | (simp [letB, h1, beq95]; omega)
  · refine fn_enter Tryz.func100 rfl 21 rfl fun w0 h0 => ?_
    refine SQ (RG ?_)
    refine RR [] .z (.i 2 (.bool false) .a) .a ?_
    refine RZ (NT (SQ (RG ?_)))
    refine RR [] (.d (.d (.d .a))) (.i 5 (.bool (decide ((↑c.toNat : Int) ≥ 97))) .a) .a ?_
    refine SR 5 (decide ((↑c.toNat : Int) ≥ 97)) false (decide_eq_false (by omega)) ?_
    refine RR [] (.d (.d (.d (.d (.d (.d (.d .a))))))) (.i 12 (.bool (decide ((↑c.toNat : Int) ≥ 65))) (.i 9 (.bool false) (.d (.d (.k .a))))) .a ?_
    refine SR 12 (decide ((↑c.toNat : Int) ≥ 65)) true (decide_eq_true (by omega)) ?_
    refine RR [] (.d (.d (.d (.d (.d .a))))) (.i 17 (.bool (decide ((↑c.toNat : Int) ≤ 90))) (.d (.d (.d (.k .a))))) .a ?_
    refine SR 17 (decide ((↑c.toNat : Int) ≤ 90)) true (decide_eq_true (by omega)) ?_
    refine RR [] .z (.i 2 (.bool true) .z) .a ?_
    refine RZ (NT (RE ?_))
    refine NE [] .a .a [] (.bool true) ?_
    refine ⟨?_, rfl⟩
    first | omega | (simp [letB, h1, h2, beq95]; done) | (simp [letB, h1, h2, beq95]; omega)
  · refine fn_enter Tryz.func100 rfl 21 rfl fun w0 h0 => ?_
    refine SQ (RG ?_)
    refine RR [] .z (.i 2 (.bool false) .a) .a ?_
    refine RZ (NT (SQ (RG ?_)))
    refine RR [] (.d (.d (.d .a))) (.i 5 (.bool (decide ((↑c.toNat : Int) ≥ 97))) .a) .a ?_
    refine SR 5 (decide ((↑c.toNat : Int) ≥ 97)) false (decide_eq_false (by omega)) ?_
    refine RR [] (.d (.d (.d (.d (.d (.d (.d .a))))))) (.i 12 (.bool (decide ((↑c.toNat : Int) ≥ 65))) (.i 9 (.bool false) (.d (.d (.k .a))))) .a ?_
    refine SR 12 (decide ((↑c.toNat : Int) ≥ 65)) true (decide_eq_true (by omega)) ?_
    refine RR [] (.d (.d (.d (.d (.d .a))))) (.i 17 (.bool (decide ((↑c.toNat : Int) ≤ 90))) (.d (.d (.d (.k .a))))) .a ?_
    refine SR 17 (decide ((↑c.toNat : Int) ≤ 90)) false (decide_eq_false (by omega)) ?_
    refine RR [] .z (.i 2 (.bool ((↑c.toNat : Int) == 95)) .z) .a ?_
    refine RZ (NT (RE ?_))
    refine NE [] .a .a [] (.bool ((↑c.toNat : Int) == 95)) ?_
    refine ⟨?_, rfl⟩
    first | omega | (simp [letB, h1, h2, h3, beq95]; done) | (simp [letB, h1, h2, h3, beq95]; omega)
  · refine fn_enter Tryz.func100 rfl 21 rfl fun w0 h0 => ?_
    refine SQ (RG ?_)
    refine RR [] .z (.i 2 (.bool false) .a) .a ?_
    refine RZ (NT (SQ (RG ?_)))
    refine RR [] (.d (.d (.d .a))) (.i 5 (.bool (decide ((↑c.toNat : Int) ≥ 97))) .a) .a ?_
    refine SR 5 (decide ((↑c.toNat : Int) ≥ 97)) false (decide_eq_false (by omega)) ?_
    refine RR [] (.d (.d (.d (.d (.d (.d (.d .a))))))) (.i 12 (.bool (decide ((↑c.toNat : Int) ≥ 65))) (.i 9 (.bool false) (.d (.d (.k .a))))) .a ?_
    refine SR 12 (decide ((↑c.toNat : Int) ≥ 65)) true (decide_eq_true (by omega)) ?_
    refine RR [] (.d (.d (.d (.d (.d .a))))) (.i 17 (.bool (decide ((↑c.toNat : Int) ≤ 90))) (.d (.d (.d (.k .a))))) .a ?_
    refine SR 17 (decide ((↑c.toNat : Int) ≤ 90)) false (decide_eq_false (by omega)) ?_
    refine RR [] .z (.i 2 (.bool ((↑c.toNat : Int) == 95)) .z) .a ?_
    refine RZ (NT (RE ?_))
    refine NE [] .a .a [] (.bool ((↑c.toNat : Int) == 95)) ?_
    refine ⟨?_, rfl⟩
    first | omega | (simp [letB, h1, h2, h3, beq95]; done) | (simp [letB, h1, h2, h3, beq95]; omega)
  · refine fn_enter Tryz.func100 rfl 21 rfl fun w0 h0 => ?_
    refine SQ (RG ?_)
    refine RR [] .z (.i 2 (.bool false) .a) .a ?_
    refine RZ (NT (SQ (RG ?_)))
    refine RR [] (.d (.d (.d .a))) (.i 5 (.bool (decide ((↑c.toNat : Int) ≥ 97))) .a) .a ?_
    refine SR 5 (decide ((↑c.toNat : Int) ≥ 97)) true (decide_eq_true (by omega)) ?_
    refine RR [] (.d (.d (.d (.d .a)))) (.i 9 (.bool (decide ((↑c.toNat : Int) ≤ 122))) (.d (.d (.k .a)))) .a ?_
    refine SR 9 (decide ((↑c.toNat : Int) ≤ 122)) true (decide_eq_true (by omega)) ?_
    refine RR [] .z (.i 2 (.bool true) .z) .a ?_
    refine RZ (NT (RE ?_))
    refine NE [] .a .a [] (.bool true) ?_
    refine ⟨?_, rfl⟩
    first | omega | (simp [letB, h1, h2, beq95]; done) | (simp [letB, h1, h2, beq95]; omega)
  · refine fn_enter Tryz.func100 rfl 21 rfl fun w0 h0 => ?_
    refine SQ (RG ?_)
    refine RR [] .z (.i 2 (.bool false) .a) .a ?_
    refine RZ (NT (SQ (RG ?_)))
    refine RR [] (.d (.d (.d .a))) (.i 5 (.bool (decide ((↑c.toNat : Int) ≥ 97))) .a) .a ?_
    refine SR 5 (decide ((↑c.toNat : Int) ≥ 97)) true (decide_eq_true (by omega)) ?_
    refine RR [] (.d (.d (.d (.d .a)))) (.i 9 (.bool (decide ((↑c.toNat : Int) ≤ 122))) (.d (.d (.k .a)))) .a ?_
    refine SR 9 (decide ((↑c.toNat : Int) ≤ 122)) false (decide_eq_false (by omega)) ?_
    refine RR [] (.d (.d (.d .a))) (.i 12 (.bool (decide ((↑c.toNat : Int) ≥ 65))) (.k (.d (.k .a)))) .a ?_
    refine SR 12 (decide ((↑c.toNat : Int) ≥ 65)) true (decide_eq_true (by omega)) ?_
    refine RR [] (.d (.d (.d (.d (.d .a))))) (.i 17 (.bool (decide ((↑c.toNat : Int) ≤ 90))) (.d (.d (.d (.k .a))))) .a ?_
    refine SR 17 (decide ((↑c.toNat : Int) ≤ 90)) false (decide_eq_false (by omega)) ?_
    refine RR [] .z (.i 2 (.bool ((↑c.toNat : Int) == 95)) .z) .a ?_
    refine RZ (NT (RE ?_))
    refine NE [] .a .a [] (.bool ((↑c.toNat : Int) == 95)) ?_
    refine ⟨?_, rfl⟩
    first | omega | (simp [letB, h1, beq95]; done) | (simp [letB, h1, beq95]; omega)
theorem rdigit_spec (c : UInt8) : Does Tryz.prog 102 [.int .u8 c.toNat] [] (fun v hp' => v = .bool (digB c) ∧ hp' = []) := by
  rcases (by omega : (c.toNat < 48) ∨ (48 ≤ c.toNat ∧ c.toNat ≤ 57) ∨ (48 ≤ c.toNat ∧ ¬ c.toNat ≤ 57)) with h1 | ⟨h1, h2⟩ | ⟨h1, h2⟩
  · refine fn_enter Tryz.func102 rfl 9 rfl fun w0 h0 => ?_
    refine SQ (RG ?_)
    refine RR [] .z (.i 2 (.bool false) .a) .a ?_
    refine RZ (NT (SQ (RG ?_)))
    refine RR [] (.d (.d (.d .a))) (.i 5 (.bool (decide ((↑c.toNat : Int) ≥ 48))) .a) .a ?_
    refine SR 5 (decide ((↑c.toNat : Int) ≥ 48)) false (decide_eq_false (by omega)) ?_
    refine RR [] .z (.d (.d (.k .z))) .a ?_
    refine RZ (NT (RE ?_))
    refine NE [] .a .a [] (.bool false) ?_
    refine ⟨?_, rfl⟩
    first | omega | (simp [digB, h1, beq95]; done) | (simp [digB, h1, beq95]; omega)
  · refine fn_enter Tryz.func102 rfl 9 rfl fun w0 h0 => ?_
    refine SQ (RG ?_)
    refine RR [] .z (.i 2 (.bool false) .a) .a ?_
    refine RZ (NT (SQ (RG ?_)))
    refine RR [] (.d (.d (.d .a))) (.i 5 (.bool (decide ((↑c.toNat : Int) ≥ 48))) .a) .a ?_
    refine SR 5 (decide ((↑c.toNat : Int) ≥ 48)) true (decide_eq_true (by omega)) ?_
    refine RR [] .z (.i 2 (.bool (decide ((↑c.toNat : Int) ≤ 57))) .z) .a ?_
    refine RZ (NT (RE ?_))
    refine NE [] .a .a [] (.bool (decide ((↑c.toNat : Int) ≤ 57))) ?_
    refine ⟨?_, rfl⟩
    first | omega | (simp [digB, h1, h2, beq95]; done) | (simp [digB, h1, h2, beq95]; omega)
  · refine fn_enter Tryz.func102 rfl 9 rfl fun w0 h0 => ?_
    refine SQ (RG ?_)
    refine RR [] .z (.i 2 (.bool false) .a) .a ?_
    refine RZ (NT (SQ (RG ?_)))
    refine RR [] (.d (.d (.d .a))) (.i 5 (.bool (decide ((↑c.toNat : Int) ≥ 48))) .a) .a ?_
    refine SR 5 (decide ((↑c.toNat : Int) ≥ 48)) true (decide_eq_true (by omega)) ?_
    refine RR [] .z (.i 2 (.bool (decide ((↑c.toNat : Int) ≤ 57))) .z) .a ?_
    refine RZ (NT (RE ?_))
    refine NE [] .a .a [] (.bool (decide ((↑c.toNat : Int) ≤ 57))) ?_
    refine ⟨?_, rfl⟩
    first | omega | (simp [digB, h1, h2, beq95]; done) | (simp [digB, h1, h2, beq95]; omega)
end Go.Proofs.YtpfhleghgkeemaaGreatDoor
