import Derived.Test.YtpfhleghgkeemaaGreatDoorH1
import Derived.Test.YtpfhleghgkeemaaGreatDoorX16
namespace Go.Proofs.YtpfhleghgkeemaaGreatDoor
open Go Go.Sx
set_option linter.unusedSimpArgs false

/-! Words, letters, names. -/
def wordsL : List (List UInt8) := [[102, 110], [114, 101, 99, 111, 114, 100], [108, 101, 116], [105, 102], [101, 108, 115, 101], [119, 104, 105, 108, 101], [114, 101, 116, 117, 114, 110], [110, 101, 119], [116, 114, 117, 101], [102, 97, 108, 115, 101]]
def strV (x : List UInt8) : Value := .string (mkS x)
/-- The words of the language, as start-up lays them. -/
def gWords : Ch := ro (some ⟨1, 0, none⟩) (wordsL.map strV)
def isWord (s : List UInt8) : Bool := wordsL.contains s
theorem map_at {α : Type} (f : α → Value) {l : List α} {q : Nat} (hq : q < l.length) : ((l.map f).drop (q * 1)).take 1 = [f l[q]] := by
  rw [Nat.mul_one, List.drop_eq_getElem_cons (by simpa using hq)]
  simp
theorem Word_spec (s : List UInt8) : Does Tryz.prog 98 [.string (mkS s)] [gWords] (fun v hp' => v = .bool (isWord s) ∧ hp' = []) := by
  refine fn_enter Tryz.func98 rfl 13 rfl fun w0 h0 => ?_
  refine wpc_seq ?_
  refine wpc_region [0] (by kernel_rfl) ?_
  refine wpr_run (l₂ := []) true [0] [] [(2, .bool false), (0, .string (mkS s))] [gWords] [] (by kernel_rfl) (by kernel_rfl) trivial ?_
  refine wpr_nil (nx_then (wpc_seq (wpc_seq ?_)))
  refine wpc_region [0] (by kernel_rfl) ?_
  refine wpr_run (l₂ := []) true [0] [] [(4, .int .i64 0), (2, .bool false), (0, .string (mkS s))] [gWords] [] (by kernel_rfl) (by kernel_rfl) trivial ?_
  refine wpr_nil (nx_then ?_)
  refine wpc_block ?_
  refine wpc_loop (X := {i : Nat // i ≤ 10 ∧ ∀ j, j < i → wordsL[j]? ≠ some s}) (fun x => St.mk [(4, .int .i64 (x.1 : Int)), (2, .bool false), (0, .string (mkS s))] [gWords]) (fun x => 10 - x.1) ⟨0, by omega, fun j h => absurd h (Nat.not_lt_zero _)⟩ (ent_fr (by kernel_rfl)) ?_
  rintro ⟨i, hi, hall⟩
  dsimp only at hi hall ⊢
  refine wpc_seq ?_
  refine wpc_region [0] (by kernel_rfl) ?_
  refine wpr_run (l₂ := []) true [0] [] [(5, .bool (decide ((↑i : Int) < 10))), (4, .int .i64 (↑i : Int)), (2, .bool false), (0, .string (mkS s))] [gWords] [] (by kernel_rfl) (by kernel_rfl) trivial ?_
  refine wpr_nil (nx_then (wpc_seq ?_))
  refine wpc_if (((↑i : Int) < 10)) (by kernel_rfl) (fun hlt => ?_) (fun hlt => ?_)
  · have hil : i < wordsL.length := by show i < 10; omega
    refine wpc_skip ?_
    refine nx_then (wpc_seq ?_)
    refine wpc_block ?_
    refine wpc_seq ?_
    refine wpc_region [0, 1] (by kernel_rfl) ?_
    refine wpr_run (l₂ := []) true [0, 1] [] [(3, .int .i64 (↑i : Int)), (4, .int .i64 (↑i : Int)), (2, .bool false), (0, .string (mkS s))] [gWords] [] (by kernel_rfl) (by kernel_rfl) trivial ?_
    refine wpr_nil (nx_then (wpc_seq ?_))
    refine wpc_region [0, 1, 2, 3, 4] (by kernel_rfl) ?_
    refine wpr_run (l₂ := [2, 3, 4]) true [0, 1] [] ([(8, .pointer (some ⟨1, 0 + i * 1, none⟩)), (4, .int .i64 (↑i : Int)), (2, .bool false), (0, .string (mkS s))]) [gWords] [(0 : Int) ≤ (↑i : Int) ∧ (↑i : Int) < (↑(10 : Nat) : Int)] (by kernel_rfl) (by kernel_rfl) ⟨by omega, trivial⟩ ?_
    refine wpr_eq (ld (t := 9) (a := (⟨1, 0 + i * 1, none⟩)) (dst := some 9) (by kernel_rfl) false 1 (by kernel_rfl) (by simp) [.string (mkS wordsL[i])] rfl (fun w h => ld_ro h 0 rfl (i * 1) (map_at strV hil))) ?_
    refine wpr_run (l₂ := []) true [3, 4] [] [(11, .bool (decide (wordsL[i] = s))), (4, .int .i64 (↑i : Int)), (2, .bool false), (0, .string (mkS s))] [gWords] [] (by kernel_rfl) (by kernel_rfl) trivial ?_
    refine wpr_nil (nx_then ?_)
    refine wpc_if ((wordsL[i] = s)) (by kernel_rfl) (fun heq => ?_) (fun heq => ?_)
    · refine wpc_seq ?_
      refine wpc_region [0] (by kernel_rfl) ?_
      refine wpr_run (l₂ := []) true [0] [] [(2, .bool true), (4, .int .i64 (↑i : Int)), (0, .string (mkS s))] [gWords] [] (by kernel_rfl) (by kernel_rfl) trivial ?_
      refine wpr_nil (nx_then ?_)
      refine wpc_ret ?_
      refine nx_block_ret ?_
      refine nx_then_ret ?_
      refine nx_then_ret ?_
      refine nx_block_ret ?_
      refine nx_then_ret ?_
      refine nx_end (hp' := []) (rest := [gWords]) [] ((.bool true)) (by kernel_rfl) (by kernel_rfl) (give [] (by kernel_rfl)) (by first | ((repeat (first | exact trivial | refine ⟨trivial, ?_⟩)); done) | assumption) ?_ (.inr rfl)
      refine ⟨?_, rfl⟩
      have he : wordsL[i] = s := heq
      have h2 : isWord s = true := List.contains_iff_mem.2 (he ▸ List.getElem_mem hil)
      rw [h2]
    · refine wpc_skip ?_
      refine nx_block (nx_then ?_)
      refine wpc_region [0, 1] (by kernel_rfl) ?_
      refine wpr_run (l₂ := []) true [0, 1] [] ([(4, .int .i64 ((↑i : Int) + 1)), (2, .bool false), (0, .string (mkS s))]) [gWords] ([inI64 ((↑i : Int) + (1 : Int))]) (by kernel_rfl) (by kernel_rfl) ⟨by unfold inI64; omega, trivial⟩ ?_
      refine wpr_nil ?_
      exact fun a' w' hS' => ⟨⟨i + 1, by omega, fun j hj => by
              rcases Nat.lt_or_ge j i with h | h
              · exact hall j h
              · obtain rfl : j = i := by omega
                rw [List.getElem?_eq_getElem hil]
                intro h2
                exact heq (Option.some.inj h2)⟩, by dsimp only; omega, ent_fr (by kernel_rfl) _ _ (ent_hp [0] rfl _ _ hS')⟩
  · refine wpc_exit ?_
    refine nx_then_exit ?_
    refine nx_then_exit ?_
    refine nx_block_here ?_
    refine nx_then (wpc_seq ?_)
    refine wpc_region [0] (by kernel_rfl) ?_
    refine wpr_run (l₂ := []) true [0] [] [(2, .bool false)] [gWords] [] (by kernel_rfl) (by kernel_rfl) trivial ?_
    refine wpr_nil (nx_then ?_)
    refine wpc_ret ?_
    refine nx_end (hp' := []) (rest := [gWords]) [] ((.bool false)) (by kernel_rfl) (by kernel_rfl) (give [] (by kernel_rfl)) (by first | ((repeat (first | exact trivial | refine ⟨trivial, ?_⟩)); done) | assumption) ?_ (.inr rfl)
    refine ⟨?_, rfl⟩
    have h2 : isWord s = false := by
      cases hw : isWord s with
      | false => rfl
      | true =>
        obtain ⟨j, hj⟩ := List.getElem?_of_mem (List.contains_iff_mem.1 hw)
        obtain ⟨hj1, _⟩ := List.getElem?_eq_some_iff.1 hj
        have : j < 10 := hj1
        exact absurd hj (hall j (by omega))
    rw [h2]
/-- Of bytes: a letter, a digit. -/
def letB (c : UInt8) : Bool := (97 ≤ c.toNat && c.toNat ≤ 122) || (65 ≤ c.toNat && c.toNat ≤ 90) || c.toNat == 95
def digB (c : UInt8) : Bool := 48 ≤ c.toNat && c.toNat ≤ 57
set_option maxRecDepth 20000 in
theorem let32 : ∀ g : Nat, g < 256 → ((decide (97 ≤ g) && decide (g ≤ 122)) || (decide (65 ≤ g) && decide (g ≤ 90)) || g == 95) = ((decide (97 ≤ g ||| 32) && decide (g ||| 32 ≤ 122)) || g == 95) := by decide
theorem or32 (c : UInt8) : IntKind.u8.wrap ↑(BitVec.ofInt IntKind.u8.bits (c.toNat : Int) ||| BitVec.ofInt IntKind.u8.bits 32).toNat = ((c.toNat ||| 32 : Nat) : Int) := by
  have e8 : IntKind.u8.bits = 8 := rfl
  have hc := c.toNat_lt
  have hlt : c.toNat ||| 32 < 2 ^ 8 := Nat.or_lt_two_pow (by omega) (by decide)
  have h1 : (BitVec.ofInt 8 (c.toNat : Int)).toNat = c.toNat := by rw [BitVec.toNat_ofInt]; omega
  rw [e8, BitVec.toNat_or, h1]
  have h2 : (BitVec.ofInt 8 32).toNat = 32 := by decide
  rw [h2]
  unfold IntKind.wrap
  simp [IntKind.signed, IntKind.bits]
  omega
theorem beq95 (c : UInt8) : ((c.toNat : Int) == 95) = (c.toNat == 95) := by rw [Bool.eq_iff_iff, beq_iff_eq, beq_iff_eq]; omega
theorem letter_spec (c : UInt8) : Does Tryz.prog 135 [.int .u8 c.toNat] [] (fun v hp' => v = .bool (letB c) ∧ hp' = []) := by
  have hl : letB c = ((decide (97 ≤ c.toNat ||| 32) && decide (c.toNat ||| 32 ≤ 122)) || c.toNat == 95) := let32 c.toNat c.toNat_lt
  have hD := or32 c
  rw [hl]
  obtain ⟨D, hDD⟩ : ∃ D : Nat, D = c.toNat ||| 32 := ⟨_, rfl⟩
  rw [← hDD] at hD ⊢
  rcases (by omega : (D < 97 ∧ c.toNat = 95) ∨ (D < 97 ∧ ¬ c.toNat = 95) ∨ (97 ≤ D ∧ D ≤ 122) ∨ (122 < D ∧ c.toNat = 95) ∨ (122 < D ∧ ¬ c.toNat = 95)) with ⟨h1, h2⟩ | ⟨h1, h2⟩ | ⟨h1, h2⟩ | ⟨h1, h2⟩ | ⟨h1, h2⟩
  · refine fn_enter Tryz.func135 rfl 15 rfl fun w0 h0 => ?_
    refine wpc_seq ?_
    refine wpc_region [0] (by kernel_rfl) ?_
    refine wpr_run (l₂ := []) true [0] [] [(2, .bool false), (0, .int .u8 (↑c.toNat : Int))] [] [] (by kernel_rfl) (by kernel_rfl) trivial ?_
    refine wpr_nil (nx_then (wpc_seq ?_))
    refine wpc_region [0, 1, 2, 3, 4, 5, 6, 7, 8, 9, 10, 11, 12] (by kernel_rfl) ?_
    refine wpr_run (l₂ := [4, 5, 6, 7, 8, 9, 10, 11, 12]) true [0, 1, 2, 3] [] [(6, .bool (decide (IntKind.u8.wrap (↑(BitVec.ofInt IntKind.u8.bits (↑c.toNat : Int) ||| BitVec.ofInt IntKind.u8.bits 32).toNat : Int) ≥ 97))), (2, .bool false), (0, .int .u8 (↑c.toNat : Int))] [] [] (by kernel_rfl) (by kernel_rfl) trivial ?_
    refine wpr_ent (ent_set 6 (.bool (decide (IntKind.u8.wrap (↑(BitVec.ofInt IntKind.u8.bits (↑c.toNat : Int) ||| BitVec.ofInt IntKind.u8.bits 32).toNat : Int) ≥ 97))) (.bool false) (by kernel_rfl) (congrArg _ (decide_eq_false (by omega)))) ?_
    refine wpr_run (l₂ := []) true [4, 5, 6, 7, 8, 9, 10, 11, 12] [] [(2, .bool ((↑c.toNat : Int) == 95))] [] [] (by kernel_rfl) (by kernel_rfl) trivial ?_
    refine wpr_nil (nx_then ?_)
    refine wpc_ret ?_
    refine nx_end (hp' := []) (rest := []) [] ((.bool ((↑c.toNat : Int) == 95))) (by kernel_rfl) (by kernel_rfl) give_all (by first | ((repeat (first | exact trivial | refine ⟨trivial, ?_⟩)); done) | assumption) ?_ (.inr rfl)
    refine ⟨?_, rfl⟩
    first | omega | (simp [letB, h1, h2, beq95]; done) | (simp [letB, h1, h2, beq95]; omega)
  · refine fn_enter Tryz.func135 rfl 15 rfl fun w0 h0 => ?_
    refine wpc_seq ?_
    refine wpc_region [0] (by kernel_rfl) ?_
    refine wpr_run (l₂ := []) true [0] [] [(2, .bool false), (0, .int .u8 (↑c.toNat : Int))] [] [] (by kernel_rfl) (by kernel_rfl) trivial ?_
    refine wpr_nil (nx_then (wpc_seq ?_))
    refine wpc_region [0, 1, 2, 3, 4, 5, 6, 7, 8, 9, 10, 11, 12] (by kernel_rfl) ?_
    refine wpr_run (l₂ := [4, 5, 6, 7, 8, 9, 10, 11, 12]) true [0, 1, 2, 3] [] [(6, .bool (decide (IntKind.u8.wrap (↑(BitVec.ofInt IntKind.u8.bits (↑c.toNat : Int) ||| BitVec.ofInt IntKind.u8.bits 32).toNat : Int) ≥ 97))), (2, .bool false), (0, .int .u8 (↑c.toNat : Int))] [] [] (by kernel_rfl) (by kernel_rfl) trivial ?_
    refine wpr_ent (ent_set 6 (.bool (decide (IntKind.u8.wrap (↑(BitVec.ofInt IntKind.u8.bits (↑c.toNat : Int) ||| BitVec.ofInt IntKind.u8.bits 32).toNat : Int) ≥ 97))) (.bool false) (by kernel_rfl) (congrArg _ (decide_eq_false (by omega)))) ?_
    refine wpr_run (l₂ := []) true [4, 5, 6, 7, 8, 9, 10, 11, 12] [] [(2, .bool ((↑c.toNat : Int) == 95))] [] [] (by kernel_rfl) (by kernel_rfl) trivial ?_
    refine wpr_nil (nx_then ?_)
    refine wpc_ret ?_
    refine nx_end (hp' := []) (rest := []) [] ((.bool ((↑c.toNat : Int) == 95))) (by kernel_rfl) (by kernel_rfl) give_all (by first | ((repeat (first | exact trivial | refine ⟨trivial, ?_⟩)); done) | assumption) ?_ (.inr rfl)
    refine ⟨?_, rfl⟩
    first | omega | (simp [letB, h1, h2, beq95]; done) | (simp [letB, h1, h2, beq95]; omega)
  · refine fn_enter Tryz.func135 rfl 15 rfl fun w0 h0 => ?_
    refine wpc_seq ?_
    refine wpc_region [0] (by kernel_rfl) ?_
    refine wpr_run (l₂ := []) true [0] [] [(2, .bool false), (0, .int .u8 (↑c.toNat : Int))] [] [] (by kernel_rfl) (by kernel_rfl) trivial ?_
    refine wpr_nil (nx_then (wpc_seq ?_))
    refine wpc_region [0, 1, 2, 3, 4, 5, 6, 7, 8, 9, 10, 11, 12] (by kernel_rfl) ?_
    refine wpr_run (l₂ := [4, 5, 6, 7, 8, 9, 10, 11, 12]) true [0, 1, 2, 3] [] [(6, .bool (decide (IntKind.u8.wrap (↑(BitVec.ofInt IntKind.u8.bits (↑c.toNat : Int) ||| BitVec.ofInt IntKind.u8.bits 32).toNat : Int) ≥ 97))), (2, .bool false), (0, .int .u8 (↑c.toNat : Int))] [] [] (by kernel_rfl) (by kernel_rfl) trivial ?_
    refine wpr_ent (ent_set 6 (.bool (decide (IntKind.u8.wrap (↑(BitVec.ofInt IntKind.u8.bits (↑c.toNat : Int) ||| BitVec.ofInt IntKind.u8.bits 32).toNat : Int) ≥ 97))) (.bool true) (by kernel_rfl) (congrArg _ (decide_eq_true (by omega)))) ?_
    refine wpr_run (l₂ := [9, 10, 11, 12]) true [4, 5, 6, 7, 8] [] [(11, .bool (decide (IntKind.u8.wrap (↑(BitVec.ofInt IntKind.u8.bits (↑c.toNat : Int) ||| BitVec.ofInt IntKind.u8.bits 32).toNat : Int) ≤ 122))), (2, .bool false), (0, .int .u8 (↑c.toNat : Int))] [] [] (by kernel_rfl) (by kernel_rfl) trivial ?_
    refine wpr_ent (ent_set 11 (.bool (decide (IntKind.u8.wrap (↑(BitVec.ofInt IntKind.u8.bits (↑c.toNat : Int) ||| BitVec.ofInt IntKind.u8.bits 32).toNat : Int) ≤ 122))) (.bool true) (by kernel_rfl) (congrArg _ (decide_eq_true (by omega)))) ?_
    refine wpr_run (l₂ := []) true [9, 10, 11, 12] [] [(2, .bool true)] [] [] (by kernel_rfl) (by kernel_rfl) trivial ?_
    refine wpr_nil (nx_then ?_)
    refine wpc_ret ?_
    refine nx_end (hp' := []) (rest := []) [] ((.bool true)) (by kernel_rfl) (by kernel_rfl) give_all (by first | ((repeat (first | exact trivial | refine ⟨trivial, ?_⟩)); done) | assumption) ?_ (.inr rfl)
    refine ⟨?_, rfl⟩
    first | omega | (simp [letB, h1, h2, beq95]; done) | (simp [letB, h1, h2, beq95]; omega)
  · refine fn_enter Tryz.func135 rfl 15 rfl fun w0 h0 => ?_
    refine wpc_seq ?_
    refine wpc_region [0] (by kernel_rfl) ?_
    refine wpr_run (l₂ := []) true [0] [] [(2, .bool false), (0, .int .u8 (↑c.toNat : Int))] [] [] (by kernel_rfl) (by kernel_rfl) trivial ?_
    refine wpr_nil (nx_then (wpc_seq ?_))
    refine wpc_region [0, 1, 2, 3, 4, 5, 6, 7, 8, 9, 10, 11, 12] (by kernel_rfl) ?_
    refine wpr_run (l₂ := [4, 5, 6, 7, 8, 9, 10, 11, 12]) true [0, 1, 2, 3] [] [(6, .bool (decide (IntKind.u8.wrap (↑(BitVec.ofInt IntKind.u8.bits (↑c.toNat : Int) ||| BitVec.ofInt IntKind.u8.bits 32).toNat : Int) ≥ 97))), (2, .bool false), (0, .int .u8 (↑c.toNat : Int))] [] [] (by kernel_rfl) (by kernel_rfl) trivial ?_
    refine wpr_ent (ent_set 6 (.bool (decide (IntKind.u8.wrap (↑(BitVec.ofInt IntKind.u8.bits (↑c.toNat : Int) ||| BitVec.ofInt IntKind.u8.bits 32).toNat : Int) ≥ 97))) (.bool true) (by kernel_rfl) (congrArg _ (decide_eq_true (by omega)))) ?_
    refine wpr_run (l₂ := [9, 10, 11, 12]) true [4, 5, 6, 7, 8] [] [(11, .bool (decide (IntKind.u8.wrap (↑(BitVec.ofInt IntKind.u8.bits (↑c.toNat : Int) ||| BitVec.ofInt IntKind.u8.bits 32).toNat : Int) ≤ 122))), (2, .bool false), (0, .int .u8 (↑c.toNat : Int))] [] [] (by kernel_rfl) (by kernel_rfl) trivial ?_
    refine wpr_ent (ent_set 11 (.bool (decide (IntKind.u8.wrap (↑(BitVec.ofInt IntKind.u8.bits (↑c.toNat : Int) ||| BitVec.ofInt IntKind.u8.bits 32).toNat : Int) ≤ 122))) (.bool false) (by kernel_rfl) (congrArg _ (decide_eq_false (by omega)))) ?_
    refine wpr_run (l₂ := []) true [9, 10, 11, 12] [] [(2, .bool ((↑c.toNat : Int) == 95))] [] [] (by kernel_rfl) (by kernel_rfl) trivial ?_
    refine wpr_nil (nx_then ?_)
    refine wpc_ret ?_
    refine nx_end (hp' := []) (rest := []) [] ((.bool ((↑c.toNat : Int) == 95))) (by kernel_rfl) (by kernel_rfl) give_all (by first | ((repeat (first | exact trivial | refine ⟨trivial, ?_⟩)); done) | assumption) ?_ (.inr rfl)
    refine ⟨?_, rfl⟩
    first | omega | (simp [letB, h1, h2, beq95]; done) | (simp [letB, h1, h2, beq95]; omega)
  · refine fn_enter Tryz.func135 rfl 15 rfl fun w0 h0 => ?_
    refine wpc_seq ?_
    refine wpc_region [0] (by kernel_rfl) ?_
    refine wpr_run (l₂ := []) true [0] [] [(2, .bool false), (0, .int .u8 (↑c.toNat : Int))] [] [] (by kernel_rfl) (by kernel_rfl) trivial ?_
    refine wpr_nil (nx_then (wpc_seq ?_))
    refine wpc_region [0, 1, 2, 3, 4, 5, 6, 7, 8, 9, 10, 11, 12] (by kernel_rfl) ?_
    refine wpr_run (l₂ := [4, 5, 6, 7, 8, 9, 10, 11, 12]) true [0, 1, 2, 3] [] [(6, .bool (decide (IntKind.u8.wrap (↑(BitVec.ofInt IntKind.u8.bits (↑c.toNat : Int) ||| BitVec.ofInt IntKind.u8.bits 32).toNat : Int) ≥ 97))), (2, .bool false), (0, .int .u8 (↑c.toNat : Int))] [] [] (by kernel_rfl) (by kernel_rfl) trivial ?_
    refine wpr_ent (ent_set 6 (.bool (decide (IntKind.u8.wrap (↑(BitVec.ofInt IntKind.u8.bits (↑c.toNat : Int) ||| BitVec.ofInt IntKind.u8.bits 32).toNat : Int) ≥ 97))) (.bool true) (by kernel_rfl) (congrArg _ (decide_eq_true (by omega)))) ?_
    refine wpr_run (l₂ := [9, 10, 11, 12]) true [4, 5, 6, 7, 8] [] [(11, .bool (decide (IntKind.u8.wrap (↑(BitVec.ofInt IntKind.u8.bits (↑c.toNat : Int) ||| BitVec.ofInt IntKind.u8.bits 32).toNat : Int) ≤ 122))), (2, .bool false), (0, .int .u8 (↑c.toNat : Int))] [] [] (by kernel_rfl) (by kernel_rfl) trivial ?_
    refine wpr_ent (ent_set 11 (.bool (decide (IntKind.u8.wrap (↑(BitVec.ofInt IntKind.u8.bits (↑c.toNat : Int) ||| BitVec.ofInt IntKind.u8.bits 32).toNat : Int) ≤ 122))) (.bool false) (by kernel_rfl) (congrArg _ (decide_eq_false (by omega)))) ?_
    refine wpr_run (l₂ := []) true [9, 10, 11, 12] [] [(2, .bool ((↑c.toNat : Int) == 95))] [] [] (by kernel_rfl) (by kernel_rfl) trivial ?_
    refine wpr_nil (nx_then ?_)
    refine wpc_ret ?_
    refine nx_end (hp' := []) (rest := []) [] ((.bool ((↑c.toNat : Int) == 95))) (by kernel_rfl) (by kernel_rfl) give_all (by first | ((repeat (first | exact trivial | refine ⟨trivial, ?_⟩)); done) | assumption) ?_ (.inr rfl)
    refine ⟨?_, rfl⟩
    first | omega | (simp [letB, h1, h2, beq95]; done) | (simp [letB, h1, h2, beq95]; omega)
theorem digit_spec (c : UInt8) : Does Tryz.prog 132 [.int .u8 c.toNat] [] (fun v hp' => v = .bool (digB c) ∧ hp' = []) := by
  rcases (by omega : (c.toNat < 48) ∨ (48 ≤ c.toNat ∧ c.toNat ≤ 57) ∨ (48 ≤ c.toNat ∧ ¬ c.toNat ≤ 57)) with h1 | ⟨h1, h2⟩ | ⟨h1, h2⟩
  · refine fn_enter Tryz.func132 rfl 9 rfl fun w0 h0 => ?_
    refine wpc_seq ?_
    refine wpc_region [0] (by kernel_rfl) ?_
    refine wpr_run (l₂ := []) true [0] [] [(2, .bool false), (0, .int .u8 (↑c.toNat : Int))] [] [] (by kernel_rfl) (by kernel_rfl) trivial ?_
    refine wpr_nil (nx_then (wpc_seq ?_))
    refine wpc_region [0, 1, 2, 3, 4, 5, 6] (by kernel_rfl) ?_
    refine wpr_run (l₂ := [3, 4, 5, 6]) true [0, 1, 2] [] [(5, .bool (decide ((↑c.toNat : Int) ≥ 48))), (2, .bool false), (0, .int .u8 (↑c.toNat : Int))] [] [] (by kernel_rfl) (by kernel_rfl) trivial ?_
    refine wpr_ent (ent_set 5 (.bool (decide ((↑c.toNat : Int) ≥ 48))) (.bool false) (by kernel_rfl) (congrArg _ (decide_eq_false (by omega)))) ?_
    refine wpr_run (l₂ := []) true [3, 4, 5, 6] [] [(2, .bool false)] [] [] (by kernel_rfl) (by kernel_rfl) trivial ?_
    refine wpr_nil (nx_then ?_)
    refine wpc_ret ?_
    refine nx_end (hp' := []) (rest := []) [] ((.bool false)) (by kernel_rfl) (by kernel_rfl) give_all (by first | ((repeat (first | exact trivial | refine ⟨trivial, ?_⟩)); done) | assumption) ?_ (.inr rfl)
    refine ⟨?_, rfl⟩
    first | omega | (simp [digB, h1, beq95]; done) | (simp [digB, h1, beq95]; omega)
  · refine fn_enter Tryz.func132 rfl 9 rfl fun w0 h0 => ?_
    refine wpc_seq ?_
    refine wpc_region [0] (by kernel_rfl) ?_
    refine wpr_run (l₂ := []) true [0] [] [(2, .bool false), (0, .int .u8 (↑c.toNat : Int))] [] [] (by kernel_rfl) (by kernel_rfl) trivial ?_
    refine wpr_nil (nx_then (wpc_seq ?_))
    refine wpc_region [0, 1, 2, 3, 4, 5, 6] (by kernel_rfl) ?_
    refine wpr_run (l₂ := [3, 4, 5, 6]) true [0, 1, 2] [] [(5, .bool (decide ((↑c.toNat : Int) ≥ 48))), (2, .bool false), (0, .int .u8 (↑c.toNat : Int))] [] [] (by kernel_rfl) (by kernel_rfl) trivial ?_
    refine wpr_ent (ent_set 5 (.bool (decide ((↑c.toNat : Int) ≥ 48))) (.bool true) (by kernel_rfl) (congrArg _ (decide_eq_true (by omega)))) ?_
    refine wpr_run (l₂ := []) true [3, 4, 5, 6] [] [(2, .bool (decide ((↑c.toNat : Int) ≤ 57)))] [] [] (by kernel_rfl) (by kernel_rfl) trivial ?_
    refine wpr_nil (nx_then ?_)
    refine wpc_ret ?_
    refine nx_end (hp' := []) (rest := []) [] ((.bool (decide ((↑c.toNat : Int) ≤ 57)))) (by kernel_rfl) (by kernel_rfl) give_all (by first | ((repeat (first | exact trivial | refine ⟨trivial, ?_⟩)); done) | assumption) ?_ (.inr rfl)
    refine ⟨?_, rfl⟩
    first | omega | (simp [digB, h1, h2, beq95]; done) | (simp [digB, h1, h2, beq95]; omega)
  · refine fn_enter Tryz.func132 rfl 9 rfl fun w0 h0 => ?_
    refine wpc_seq ?_
    refine wpc_region [0] (by kernel_rfl) ?_
    refine wpr_run (l₂ := []) true [0] [] [(2, .bool false), (0, .int .u8 (↑c.toNat : Int))] [] [] (by kernel_rfl) (by kernel_rfl) trivial ?_
    refine wpr_nil (nx_then (wpc_seq ?_))
    refine wpc_region [0, 1, 2, 3, 4, 5, 6] (by kernel_rfl) ?_
    refine wpr_run (l₂ := [3, 4, 5, 6]) true [0, 1, 2] [] [(5, .bool (decide ((↑c.toNat : Int) ≥ 48))), (2, .bool false), (0, .int .u8 (↑c.toNat : Int))] [] [] (by kernel_rfl) (by kernel_rfl) trivial ?_
    refine wpr_ent (ent_set 5 (.bool (decide ((↑c.toNat : Int) ≥ 48))) (.bool true) (by kernel_rfl) (congrArg _ (decide_eq_true (by omega)))) ?_
    refine wpr_run (l₂ := []) true [3, 4, 5, 6] [] [(2, .bool (decide ((↑c.toNat : Int) ≤ 57)))] [] [] (by kernel_rfl) (by kernel_rfl) trivial ?_
    refine wpr_nil (nx_then ?_)
    refine wpc_ret ?_
    refine nx_end (hp' := []) (rest := []) [] ((.bool (decide ((↑c.toNat : Int) ≤ 57)))) (by kernel_rfl) (by kernel_rfl) give_all (by first | ((repeat (first | exact trivial | refine ⟨trivial, ?_⟩)); done) | assumption) ?_ (.inr rfl)
    refine ⟨?_, rfl⟩
    first | omega | (simp [digB, h1, h2, beq95]; done) | (simp [digB, h1, h2, beq95]; omega)
theorem rletter_spec (c : UInt8) : Does Tryz.prog 100 [.int .u8 c.toNat] [] (fun v hp' => v = .bool (letB c) ∧ hp' = []) := by
  rcases (by omega : (c.toNat < 65) ∨ (65 ≤ c.toNat ∧ c.toNat ≤ 90) ∨ (90 < c.toNat ∧ c.toNat < 97 ∧ c.toNat = 95) ∨ (90 < c.toNat ∧ c.toNat < 97 ∧ ¬ c.toNat = 95) ∨ (97 ≤ c.toNat ∧ c.toNat ≤ 122) ∨ (122 < c.toNat)) with h1 | ⟨h1, h2⟩ | ⟨h1, h2, h3⟩ | ⟨h1, h2, h3⟩ | ⟨h1, h2⟩ | h1
  · refine fn_enter Tryz.func100 rfl 21 rfl fun w0 h0 => ?_
    refine wpc_seq ?_
    refine wpc_region [0] (by kernel_rfl) ?_
    refine wpr_run (l₂ := []) true [0] [] [(2, .bool false), (0, .int .u8 (↑c.toNat : Int))] [] [] (by kernel_rfl) (by kernel_rfl) trivial ?_
    refine wpr_nil (nx_then (wpc_seq ?_))
    refine wpc_region [0, 1, 2, 3, 4, 5, 6, 7, 8, 9, 10, 11, 12, 13, 14, 15, 16, 17, 18] (by kernel_rfl) ?_
    refine wpr_run (l₂ := [3, 4, 5, 6, 7, 8, 9, 10, 11, 12, 13, 14, 15, 16, 17, 18]) true [0, 1, 2] [] [(5, .bool (decide ((↑c.toNat : Int) ≥ 97))), (2, .bool false), (0, .int .u8 (↑c.toNat : Int))] [] [] (by kernel_rfl) (by kernel_rfl) trivial ?_
    refine wpr_ent (ent_set 5 (.bool (decide ((↑c.toNat : Int) ≥ 97))) (.bool false) (by kernel_rfl) (congrArg _ (decide_eq_false (by omega)))) ?_
    refine wpr_run (l₂ := [10, 11, 12, 13, 14, 15, 16, 17, 18]) true [3, 4, 5, 6, 7, 8, 9] [] [(12, .bool (decide ((↑c.toNat : Int) ≥ 65))), (9, .bool false), (2, .bool false), (0, .int .u8 (↑c.toNat : Int))] [] [] (by kernel_rfl) (by kernel_rfl) trivial ?_
    refine wpr_ent (ent_set 12 (.bool (decide ((↑c.toNat : Int) ≥ 65))) (.bool false) (by kernel_rfl) (congrArg _ (decide_eq_false (by omega)))) ?_
    refine wpr_run (l₂ := []) true [10, 11, 12, 13, 14, 15, 16, 17, 18] [] [(2, .bool ((↑c.toNat : Int) == 95))] [] [] (by kernel_rfl) (by kernel_rfl) trivial ?_
    refine wpr_nil (nx_then ?_)
    refine wpc_ret ?_
    refine nx_end (hp' := []) (rest := []) [] ((.bool ((↑c.toNat : Int) == 95))) (by kernel_rfl) (by kernel_rfl) give_all (by first | ((repeat (first | exact trivial | refine ⟨trivial, ?_⟩)); done) | assumption) ?_ (.inr rfl)
    refine ⟨?_, rfl⟩
    first | omega | (simp [letB, h1, beq95]; done) | (simp [letB, h1, beq95]; omega)
  · refine fn_enter Tryz.func100 rfl 21 rfl fun w0 h0 => ?_
    refine wpc_seq ?_
    refine wpc_region [0] (by kernel_rfl) ?_
    refine wpr_run (l₂ := []) true [0] [] [(2, .bool false), (0, .int .u8 (↑c.toNat : Int))] [] [] (by kernel_rfl) (by kernel_rfl) trivial ?_
    refine wpr_nil (nx_then (wpc_seq ?_))
    refine wpc_region [0, 1, 2, 3, 4, 5, 6, 7, 8, 9, 10, 11, 12, 13, 14, 15, 16, 17, 18] (by kernel_rfl) ?_
    refine wpr_run (l₂ := [3, 4, 5, 6, 7, 8, 9, 10, 11, 12, 13, 14, 15, 16, 17, 18]) true [0, 1, 2] [] [(5, .bool (decide ((↑c.toNat : Int) ≥ 97))), (2, .bool false), (0, .int .u8 (↑c.toNat : Int))] [] [] (by kernel_rfl) (by kernel_rfl) trivial ?_
    refine wpr_ent (ent_set 5 (.bool (decide ((↑c.toNat : Int) ≥ 97))) (.bool false) (by kernel_rfl) (congrArg _ (decide_eq_false (by omega)))) ?_
    refine wpr_run (l₂ := [10, 11, 12, 13, 14, 15, 16, 17, 18]) true [3, 4, 5, 6, 7, 8, 9] [] [(12, .bool (decide ((↑c.toNat : Int) ≥ 65))), (9, .bool false), (2, .bool false), (0, .int .u8 (↑c.toNat : Int))] [] [] (by kernel_rfl) (by kernel_rfl) trivial ?_
    refine wpr_ent (ent_set 12 (.bool (decide ((↑c.toNat : Int) ≥ 65))) (.bool true) (by kernel_rfl) (congrArg _ (decide_eq_true (by omega)))) ?_
    refine wpr_run (l₂ := [15, 16, 17, 18]) true [10, 11, 12, 13, 14] [] [(17, .bool (decide ((↑c.toNat : Int) ≤ 90))), (2, .bool false), (0, .int .u8 (↑c.toNat : Int))] [] [] (by kernel_rfl) (by kernel_rfl) trivial ?_
    refine wpr_ent (ent_set 17 (.bool (decide ((↑c.toNat : Int) ≤ 90))) (.bool true) (by kernel_rfl) (congrArg _ (decide_eq_true (by omega)))) ?_
    refine wpr_run (l₂ := []) true [15, 16, 17, 18] [] [(2, .bool true)] [] [] (by kernel_rfl) (by kernel_rfl) trivial ?_
    refine wpr_nil (nx_then ?_)
    refine wpc_ret ?_
    refine nx_end (hp' := []) (rest := []) [] ((.bool true)) (by kernel_rfl) (by kernel_rfl) give_all (by first | ((repeat (first | exact trivial | refine ⟨trivial, ?_⟩)); done) | assumption) ?_ (.inr rfl)
    refine ⟨?_, rfl⟩
    first | omega | (simp [letB, h1, h2, beq95]; done) | (simp [letB, h1, h2, beq95]; omega)
  · refine fn_enter Tryz.func100 rfl 21 rfl fun w0 h0 => ?_
    refine wpc_seq ?_
    refine wpc_region [0] (by kernel_rfl) ?_
    refine wpr_run (l₂ := []) true [0] [] [(2, .bool false), (0, .int .u8 (↑c.toNat : Int))] [] [] (by kernel_rfl) (by kernel_rfl) trivial ?_
    refine wpr_nil (nx_then (wpc_seq ?_))
    refine wpc_region [0, 1, 2, 3, 4, 5, 6, 7, 8, 9, 10, 11, 12, 13, 14, 15, 16, 17, 18] (by kernel_rfl) ?_
    refine wpr_run (l₂ := [3, 4, 5, 6, 7, 8, 9, 10, 11, 12, 13, 14, 15, 16, 17, 18]) true [0, 1, 2] [] [(5, .bool (decide ((↑c.toNat : Int) ≥ 97))), (2, .bool false), (0, .int .u8 (↑c.toNat : Int))] [] [] (by kernel_rfl) (by kernel_rfl) trivial ?_
    refine wpr_ent (ent_set 5 (.bool (decide ((↑c.toNat : Int) ≥ 97))) (.bool false) (by kernel_rfl) (congrArg _ (decide_eq_false (by omega)))) ?_
    refine wpr_run (l₂ := [10, 11, 12, 13, 14, 15, 16, 17, 18]) true [3, 4, 5, 6, 7, 8, 9] [] [(12, .bool (decide ((↑c.toNat : Int) ≥ 65))), (9, .bool false), (2, .bool false), (0, .int .u8 (↑c.toNat : Int))] [] [] (by kernel_rfl) (by kernel_rfl) trivial ?_
    refine wpr_ent (ent_set 12 (.bool (decide ((↑c.toNat : Int) ≥ 65))) (.bool true) (by kernel_rfl) (congrArg _ (decide_eq_true (by omega)))) ?_
    refine wpr_run (l₂ := [15, 16, 17, 18]) true [10, 11, 12, 13, 14] [] [(17, .bool (decide ((↑c.toNat : Int) ≤ 90))), (2, .bool false), (0, .int .u8 (↑c.toNat : Int))] [] [] (by kernel_rfl) (by kernel_rfl) trivial ?_
    refine wpr_ent (ent_set 17 (.bool (decide ((↑c.toNat : Int) ≤ 90))) (.bool false) (by kernel_rfl) (congrArg _ (decide_eq_false (by omega)))) ?_
    refine wpr_run (l₂ := []) true [15, 16, 17, 18] [] [(2, .bool ((↑c.toNat : Int) == 95))] [] [] (by kernel_rfl) (by kernel_rfl) trivial ?_
    refine wpr_nil (nx_then ?_)
    refine wpc_ret ?_
    refine nx_end (hp' := []) (rest := []) [] ((.bool ((↑c.toNat : Int) == 95))) (by kernel_rfl) (by kernel_rfl) give_all (by first | ((repeat (first | exact trivial | refine ⟨trivial, ?_⟩)); done) | assumption) ?_ (.inr rfl)
    refine ⟨?_, rfl⟩
    first | omega | (simp [letB, h1, h2, h3, beq95]; done) | (simp [letB, h1, h2, h3, beq95]; omega)
  · refine fn_enter Tryz.func100 rfl 21 rfl fun w0 h0 => ?_
    refine wpc_seq ?_
    refine wpc_region [0] (by kernel_rfl) ?_
    refine wpr_run (l₂ := []) true [0] [] [(2, .bool false), (0, .int .u8 (↑c.toNat : Int))] [] [] (by kernel_rfl) (by kernel_rfl) trivial ?_
    refine wpr_nil (nx_then (wpc_seq ?_))
    refine wpc_region [0, 1, 2, 3, 4, 5, 6, 7, 8, 9, 10, 11, 12, 13, 14, 15, 16, 17, 18] (by kernel_rfl) ?_
    refine wpr_run (l₂ := [3, 4, 5, 6, 7, 8, 9, 10, 11, 12, 13, 14, 15, 16, 17, 18]) true [0, 1, 2] [] [(5, .bool (decide ((↑c.toNat : Int) ≥ 97))), (2, .bool false), (0, .int .u8 (↑c.toNat : Int))] [] [] (by kernel_rfl) (by kernel_rfl) trivial ?_
    refine wpr_ent (ent_set 5 (.bool (decide ((↑c.toNat : Int) ≥ 97))) (.bool false) (by kernel_rfl) (congrArg _ (decide_eq_false (by omega)))) ?_
    refine wpr_run (l₂ := [10, 11, 12, 13, 14, 15, 16, 17, 18]) true [3, 4, 5, 6, 7, 8, 9] [] [(12, .bool (decide ((↑c.toNat : Int) ≥ 65))), (9, .bool false), (2, .bool false), (0, .int .u8 (↑c.toNat : Int))] [] [] (by kernel_rfl) (by kernel_rfl) trivial ?_
    refine wpr_ent (ent_set 12 (.bool (decide ((↑c.toNat : Int) ≥ 65))) (.bool true) (by kernel_rfl) (congrArg _ (decide_eq_true (by omega)))) ?_
    refine wpr_run (l₂ := [15, 16, 17, 18]) true [10, 11, 12, 13, 14] [] [(17, .bool (decide ((↑c.toNat : Int) ≤ 90))), (2, .bool false), (0, .int .u8 (↑c.toNat : Int))] [] [] (by kernel_rfl) (by kernel_rfl) trivial ?_
    refine wpr_ent (ent_set 17 (.bool (decide ((↑c.toNat : Int) ≤ 90))) (.bool false) (by kernel_rfl) (congrArg _ (decide_eq_false (by omega)))) ?_
    refine wpr_run (l₂ := []) true [15, 16, 17, 18] [] [(2, .bool ((↑c.toNat : Int) == 95))] [] [] (by kernel_rfl) (by kernel_rfl) trivial ?_
    refine wpr_nil (nx_then ?_)
    refine wpc_ret ?_
    refine nx_end (hp' := []) (rest := []) [] ((.bool ((↑c.toNat : Int) == 95))) (by kernel_rfl) (by kernel_rfl) give_all (by first | ((repeat (first | exact trivial | refine ⟨trivial, ?_⟩)); done) | assumption) ?_ (.inr rfl)
    refine ⟨?_, rfl⟩
    first | omega | (simp [letB, h1, h2, h3, beq95]; done) | (simp [letB, h1, h2, h3, beq95]; omega)
  · refine fn_enter Tryz.func100 rfl 21 rfl fun w0 h0 => ?_
    refine wpc_seq ?_
    refine wpc_region [0] (by kernel_rfl) ?_
    refine wpr_run (l₂ := []) true [0] [] [(2, .bool false), (0, .int .u8 (↑c.toNat : Int))] [] [] (by kernel_rfl) (by kernel_rfl) trivial ?_
    refine wpr_nil (nx_then (wpc_seq ?_))
    refine wpc_region [0, 1, 2, 3, 4, 5, 6, 7, 8, 9, 10, 11, 12, 13, 14, 15, 16, 17, 18] (by kernel_rfl) ?_
    refine wpr_run (l₂ := [3, 4, 5, 6, 7, 8, 9, 10, 11, 12, 13, 14, 15, 16, 17, 18]) true [0, 1, 2] [] [(5, .bool (decide ((↑c.toNat : Int) ≥ 97))), (2, .bool false), (0, .int .u8 (↑c.toNat : Int))] [] [] (by kernel_rfl) (by kernel_rfl) trivial ?_
    refine wpr_ent (ent_set 5 (.bool (decide ((↑c.toNat : Int) ≥ 97))) (.bool true) (by kernel_rfl) (congrArg _ (decide_eq_true (by omega)))) ?_
    refine wpr_run (l₂ := [7, 8, 9, 10, 11, 12, 13, 14, 15, 16, 17, 18]) true [3, 4, 5, 6] [] [(9, .bool (decide ((↑c.toNat : Int) ≤ 122))), (2, .bool false), (0, .int .u8 (↑c.toNat : Int))] [] [] (by kernel_rfl) (by kernel_rfl) trivial ?_
    refine wpr_ent (ent_set 9 (.bool (decide ((↑c.toNat : Int) ≤ 122))) (.bool true) (by kernel_rfl) (congrArg _ (decide_eq_true (by omega)))) ?_
    refine wpr_run (l₂ := []) true [7, 8, 9, 10, 11, 12, 13, 14, 15, 16, 17, 18] [] [(2, .bool true)] [] [] (by kernel_rfl) (by kernel_rfl) trivial ?_
    refine wpr_nil (nx_then ?_)
    refine wpc_ret ?_
    refine nx_end (hp' := []) (rest := []) [] ((.bool true)) (by kernel_rfl) (by kernel_rfl) give_all (by first | ((repeat (first | exact trivial | refine ⟨trivial, ?_⟩)); done) | assumption) ?_ (.inr rfl)
    refine ⟨?_, rfl⟩
    first | omega | (simp [letB, h1, h2, beq95]; done) | (simp [letB, h1, h2, beq95]; omega)
  · refine fn_enter Tryz.func100 rfl 21 rfl fun w0 h0 => ?_
    refine wpc_seq ?_
    refine wpc_region [0] (by kernel_rfl) ?_
    refine wpr_run (l₂ := []) true [0] [] [(2, .bool false), (0, .int .u8 (↑c.toNat : Int))] [] [] (by kernel_rfl) (by kernel_rfl) trivial ?_
    refine wpr_nil (nx_then (wpc_seq ?_))
    refine wpc_region [0, 1, 2, 3, 4, 5, 6, 7, 8, 9, 10, 11, 12, 13, 14, 15, 16, 17, 18] (by kernel_rfl) ?_
    refine wpr_run (l₂ := [3, 4, 5, 6, 7, 8, 9, 10, 11, 12, 13, 14, 15, 16, 17, 18]) true [0, 1, 2] [] [(5, .bool (decide ((↑c.toNat : Int) ≥ 97))), (2, .bool false), (0, .int .u8 (↑c.toNat : Int))] [] [] (by kernel_rfl) (by kernel_rfl) trivial ?_
    refine wpr_ent (ent_set 5 (.bool (decide ((↑c.toNat : Int) ≥ 97))) (.bool true) (by kernel_rfl) (congrArg _ (decide_eq_true (by omega)))) ?_
    refine wpr_run (l₂ := [7, 8, 9, 10, 11, 12, 13, 14, 15, 16, 17, 18]) true [3, 4, 5, 6] [] [(9, .bool (decide ((↑c.toNat : Int) ≤ 122))), (2, .bool false), (0, .int .u8 (↑c.toNat : Int))] [] [] (by kernel_rfl) (by kernel_rfl) trivial ?_
    refine wpr_ent (ent_set 9 (.bool (decide ((↑c.toNat : Int) ≤ 122))) (.bool false) (by kernel_rfl) (congrArg _ (decide_eq_false (by omega)))) ?_
    refine wpr_run (l₂ := [10, 11, 12, 13, 14, 15, 16, 17, 18]) true [7, 8, 9] [] [(12, .bool (decide ((↑c.toNat : Int) ≥ 65))), (9, .bool false), (2, .bool false), (0, .int .u8 (↑c.toNat : Int))] [] [] (by kernel_rfl) (by kernel_rfl) trivial ?_
    refine wpr_ent (ent_set 12 (.bool (decide ((↑c.toNat : Int) ≥ 65))) (.bool true) (by kernel_rfl) (congrArg _ (decide_eq_true (by omega)))) ?_
    refine wpr_run (l₂ := [15, 16, 17, 18]) true [10, 11, 12, 13, 14] [] [(17, .bool (decide ((↑c.toNat : Int) ≤ 90))), (2, .bool false), (0, .int .u8 (↑c.toNat : Int))] [] [] (by kernel_rfl) (by kernel_rfl) trivial ?_
    refine wpr_ent (ent_set 17 (.bool (decide ((↑c.toNat : Int) ≤ 90))) (.bool false) (by kernel_rfl) (congrArg _ (decide_eq_false (by omega)))) ?_
    refine wpr_run (l₂ := []) true [15, 16, 17, 18] [] [(2, .bool ((↑c.toNat : Int) == 95))] [] [] (by kernel_rfl) (by kernel_rfl) trivial ?_
    refine wpr_nil (nx_then ?_)
    refine wpc_ret ?_
    refine nx_end (hp' := []) (rest := []) [] ((.bool ((↑c.toNat : Int) == 95))) (by kernel_rfl) (by kernel_rfl) give_all (by first | ((repeat (first | exact trivial | refine ⟨trivial, ?_⟩)); done) | assumption) ?_ (.inr rfl)
    refine ⟨?_, rfl⟩
    first | omega | (simp [letB, h1, beq95]; done) | (simp [letB, h1, beq95]; omega)
theorem rdigit_spec (c : UInt8) : Does Tryz.prog 102 [.int .u8 c.toNat] [] (fun v hp' => v = .bool (digB c) ∧ hp' = []) := by
  rcases (by omega : (c.toNat < 48) ∨ (48 ≤ c.toNat ∧ c.toNat ≤ 57) ∨ (48 ≤ c.toNat ∧ ¬ c.toNat ≤ 57)) with h1 | ⟨h1, h2⟩ | ⟨h1, h2⟩
  · refine fn_enter Tryz.func102 rfl 9 rfl fun w0 h0 => ?_
    refine wpc_seq ?_
    refine wpc_region [0] (by kernel_rfl) ?_
    refine wpr_run (l₂ := []) true [0] [] [(2, .bool false), (0, .int .u8 (↑c.toNat : Int))] [] [] (by kernel_rfl) (by kernel_rfl) trivial ?_
    refine wpr_nil (nx_then (wpc_seq ?_))
    refine wpc_region [0, 1, 2, 3, 4, 5, 6] (by kernel_rfl) ?_
    refine wpr_run (l₂ := [3, 4, 5, 6]) true [0, 1, 2] [] [(5, .bool (decide ((↑c.toNat : Int) ≥ 48))), (2, .bool false), (0, .int .u8 (↑c.toNat : Int))] [] [] (by kernel_rfl) (by kernel_rfl) trivial ?_
    refine wpr_ent (ent_set 5 (.bool (decide ((↑c.toNat : Int) ≥ 48))) (.bool false) (by kernel_rfl) (congrArg _ (decide_eq_false (by omega)))) ?_
    refine wpr_run (l₂ := []) true [3, 4, 5, 6] [] [(2, .bool false)] [] [] (by kernel_rfl) (by kernel_rfl) trivial ?_
    refine wpr_nil (nx_then ?_)
    refine wpc_ret ?_
    refine nx_end (hp' := []) (rest := []) [] ((.bool false)) (by kernel_rfl) (by kernel_rfl) give_all (by first | ((repeat (first | exact trivial | refine ⟨trivial, ?_⟩)); done) | assumption) ?_ (.inr rfl)
    refine ⟨?_, rfl⟩
    first | omega | (simp [digB, h1, beq95]; done) | (simp [digB, h1, beq95]; omega)
  · refine fn_enter Tryz.func102 rfl 9 rfl fun w0 h0 => ?_
    refine wpc_seq ?_
    refine wpc_region [0] (by kernel_rfl) ?_
    refine wpr_run (l₂ := []) true [0] [] [(2, .bool false), (0, .int .u8 (↑c.toNat : Int))] [] [] (by kernel_rfl) (by kernel_rfl) trivial ?_
    refine wpr_nil (nx_then (wpc_seq ?_))
    refine wpc_region [0, 1, 2, 3, 4, 5, 6] (by kernel_rfl) ?_
    refine wpr_run (l₂ := [3, 4, 5, 6]) true [0, 1, 2] [] [(5, .bool (decide ((↑c.toNat : Int) ≥ 48))), (2, .bool false), (0, .int .u8 (↑c.toNat : Int))] [] [] (by kernel_rfl) (by kernel_rfl) trivial ?_
    refine wpr_ent (ent_set 5 (.bool (decide ((↑c.toNat : Int) ≥ 48))) (.bool true) (by kernel_rfl) (congrArg _ (decide_eq_true (by omega)))) ?_
    refine wpr_run (l₂ := []) true [3, 4, 5, 6] [] [(2, .bool (decide ((↑c.toNat : Int) ≤ 57)))] [] [] (by kernel_rfl) (by kernel_rfl) trivial ?_
    refine wpr_nil (nx_then ?_)
    refine wpc_ret ?_
    refine nx_end (hp' := []) (rest := []) [] ((.bool (decide ((↑c.toNat : Int) ≤ 57)))) (by kernel_rfl) (by kernel_rfl) give_all (by first | ((repeat (first | exact trivial | refine ⟨trivial, ?_⟩)); done) | assumption) ?_ (.inr rfl)
    refine ⟨?_, rfl⟩
    first | omega | (simp [digB, h1, h2, beq95]; done) | (simp [digB, h1, h2, beq95]; omega)
  · refine fn_enter Tryz.func102 rfl 9 rfl fun w0 h0 => ?_
    refine wpc_seq ?_
    refine wpc_region [0] (by kernel_rfl) ?_
    refine wpr_run (l₂ := []) true [0] [] [(2, .bool false), (0, .int .u8 (↑c.toNat : Int))] [] [] (by kernel_rfl) (by kernel_rfl) trivial ?_
    refine wpr_nil (nx_then (wpc_seq ?_))
    refine wpc_region [0, 1, 2, 3, 4, 5, 6] (by kernel_rfl) ?_
    refine wpr_run (l₂ := [3, 4, 5, 6]) true [0, 1, 2] [] [(5, .bool (decide ((↑c.toNat : Int) ≥ 48))), (2, .bool false), (0, .int .u8 (↑c.toNat : Int))] [] [] (by kernel_rfl) (by kernel_rfl) trivial ?_
    refine wpr_ent (ent_set 5 (.bool (decide ((↑c.toNat : Int) ≥ 48))) (.bool true) (by kernel_rfl) (congrArg _ (decide_eq_true (by omega)))) ?_
    refine wpr_run (l₂ := []) true [3, 4, 5, 6] [] [(2, .bool (decide ((↑c.toNat : Int) ≤ 57)))] [] [] (by kernel_rfl) (by kernel_rfl) trivial ?_
    refine wpr_nil (nx_then ?_)
    refine wpc_ret ?_
    refine nx_end (hp' := []) (rest := []) [] ((.bool (decide ((↑c.toNat : Int) ≤ 57)))) (by kernel_rfl) (by kernel_rfl) give_all (by first | ((repeat (first | exact trivial | refine ⟨trivial, ?_⟩)); done) | assumption) ?_ (.inr rfl)
    refine ⟨?_, rfl⟩
    first | omega | (simp [digB, h1, h2, beq95]; done) | (simp [digB, h1, h2, beq95]; omega)
end Go.Proofs.YtpfhleghgkeemaaGreatDoor
