import Derived.Test.YtmjhcadciblcdaaW1
import Derived.Test.YtmjhcadciblcdaaX13
namespace Go.Proofs.Ytmjhcadciblcdaa
open Go Go.Sx
set_option linter.unusedVariables false
set_option linter.unusedSimpArgs false

/-- Reading a number: digits from the i-th on (10 in all), f so far: the number, how many bytes, what went wrong. -/
def numGo : Nat → Nat → Nat → List UInt8 → Int × Int × Int
  | 0, _, _, _ => (0, 0, 4)
  | _ + 1, _, _, [] => (0, 0, 3)
  | k + 1, i, f, c :: s =>
    if i = 9 ∧ c ≠ 1 then (0, 0, 4)
    else if 128 ≤ c.toNat then numGo k (i + 1) (f + c.toNat % 128 * 128 ^ i) s
    else if c = 0 ∧ 0 < i then (0, 0, 4)
    else (unfoldN (f + c.toNat % 128 * 128 ^ i : Nat), i + 1, 0)

def num (s : List UInt8) : Int × Int × Int := numGo 10 0 0 s

theorem bt_at {s : List UInt8} {i : Nat} (h : i < s.length) : bt (mkS s) (i : Int) = (s[i].toNat : Int) := by
  simp [bt, mkS, List.getD, h]

theorem and127 (c : UInt8) : IntKind.u8.wrap ↑(BitVec.ofInt IntKind.u8.bits (c.toNat : Int) &&& BitVec.ofInt IntKind.u8.bits 127).toNat = ((c.toNat % 128 : Nat) : Int) := by
  have e8 : IntKind.u8.bits = 8 := rfl
  have hc := c.toNat_lt
  rw [e8, BitVec.toNat_and, u8_wrap]
  have h1 : (BitVec.ofInt 8 (c.toNat : Int)).toNat = c.toNat := by rw [BitVec.toNat_ofInt]; omega
  have h2 : (BitVec.ofInt 8 127).toNat = 2 ^ 7 - 1 := by decide
  rw [h1, h2, Nat.and_two_pow_sub_one_eq_mod]
  omega

set_option maxRecDepth 20000 in
theorem and128' : ∀ g : Nat, g < 256 → (((g &&& 128 : Nat) : Int) % 256 != 0) = decide (128 ≤ g) := by decide

theorem and128 (c : UInt8) : (IntKind.u8.wrap ↑(BitVec.ofInt IntKind.u8.bits (c.toNat : Int) &&& BitVec.ofInt IntKind.u8.bits 128).toNat != 0) = decide (128 ≤ c.toNat) := by
  have e8 : IntKind.u8.bits = 8 := rfl
  have hc := c.toNat_lt
  rw [e8, BitVec.toNat_and, u8_wrap]
  have h1 : (BitVec.ofInt 8 (c.toNat : Int)).toNat = c.toNat := by rw [BitVec.toNat_ofInt]; omega
  have h2 : (BitVec.ofInt 8 128).toNat = 128 := by decide
  rw [h1, h2, and128' _ hc]

theorem acc_lt {f i x : Nat} (hf : f < 128 ^ i) (hi : i ≤ 9) (hx : x < 128) (h9 : i = 9 → x ≤ 1) : x * 128 ^ i < 18446744073709551616 ∧ f + x * 128 ^ i < 18446744073709551616 := by
  rcases Nat.lt_or_ge i 9 with h | h
  · have hp : 128 ^ i ≤ 128 ^ 8 := Nat.pow_le_pow_right (by decide) (by omega)
    have h2 : x * 128 ^ i ≤ 127 * 128 ^ 8 := Nat.mul_le_mul (by omega) hp
    have e : (128 : Nat) ^ 8 = 72057594037927936 := by decide
    rw [e] at hp h2
    constructor <;> omega
  · have e : i = 9 := by omega
    subst e
    have := h9 rfl
    have e : (128 : Nat) ^ 9 = 9223372036854775808 := by decide
    rw [e] at hf ⊢
    constructor <;> omega

theorem or_acc {f i x : Nat} (hf : f < 128 ^ i) (hi : i ≤ 9) (hx : x < 128) (h9 : i = 9 → x ≤ 1) :
    IntKind.u64.wrap ↑(BitVec.ofInt IntKind.u64.bits (f : Int) ||| BitVec.ofInt IntKind.u64.bits (IntKind.u64.wrap (IntKind.u64.wrap (x : Int) * 2 ^ min (7 * (i : Int)).toNat IntKind.u64.bits))).toNat = ((f + x * 128 ^ i : Nat) : Int) := by
  have e64 : IntKind.u64.bits = 64 := rfl
  obtain ⟨h1, h2⟩ := acc_lt hf hi hx h9
  have hm : min (7 * (i : Int)).toNat 64 = 7 * i := by omega
  have hp : (128 : Nat) ^ i = 2 ^ (7 * i) := by rw [Nat.pow_mul]
  rw [e64, hm, BitVec.toNat_or]
  simp only [u64_wrap]
  have hx2 : (x : Int) % 18446744073709551616 = x := by omega
  have hpi : ((2 : Int) ^ (7 * i)) = ((128 ^ i : Nat) : Int) := by rw [hp]; simp
  rw [hx2, hpi, ← Int.natCast_mul]
  have ef : (BitVec.ofInt 64 (f : Int)).toNat = f := by rw [BitVec.toNat_ofInt]; omega
  have ex : (BitVec.ofInt 64 (((x * 128 ^ i : Nat) : Int) % 18446744073709551616)).toNat = x * 128 ^ i := by rw [BitVec.toNat_ofInt]; omega
  rw [ef, ex]
  have hor : f ||| x * 128 ^ i = f + x * 128 ^ i := by
    rw [hp] at hf ⊢
    rw [Nat.mul_comm x, Nat.or_comm, ← Nat.two_pow_add_eq_or_of_lt hf, Nat.add_comm]
  rw [hor]
  omega

structure NI (s : List UInt8) where
  i : Nat
  f : Nat
  hi : i ≤ 10
  hs : i ≤ s.length
  hf : f < 128 ^ i
  hn : numGo (10 - i) i f (s.drop i) = num s

theorem number_spec (s : List UInt8) (hl : s.length ≤ 1099511627776) :
    Does Try.prog 44 [.string (mkS s)] [] (fun v hp' => v = .tuple #[.int .i64 (num s).1, .int .i64 (num s).2.1, .int .i64 (num s).2.2] ∧ hp' = []) := by
  refine fn_enter Try.func44 rfl 46 rfl fun w0 h0 => ?_
  refine wpc_seq ?_
  refine wpc_region [0, 1, 2] (by kernel_rfl) ?_
  refine wpr_run (l₂ := []) true [0, 1, 2] [] [(4, Value.int IntKind.i64 0), (3, Value.int IntKind.i64 0), (2, Value.int IntKind.i64 0), (0, Value.string (mkS s))] [] [] (by kernel_rfl) (by kernel_rfl) trivial ?_
  refine wpr_nil ?_
  refine nx_then ?_
  refine wpc_seq ?_
  refine wpc_region [0] (by kernel_rfl) ?_
  refine wpr_run (l₂ := []) true [0] [] [(5, Value.int IntKind.u64 0), (4, Value.int IntKind.i64 0), (3, Value.int IntKind.i64 0), (2, Value.int IntKind.i64 0), (0, Value.string (mkS s))] [] [] (by kernel_rfl) (by kernel_rfl) trivial ?_
  refine wpr_nil ?_
  refine nx_then ?_
  refine wpc_seq ?_
  refine wpc_seq ?_
  refine wpc_region [0] (by kernel_rfl) ?_
  refine wpr_run (l₂ := []) true [0] [] [(8, Value.int IntKind.i64 0), (5, Value.int IntKind.u64 0), (4, Value.int IntKind.i64 0), (3, Value.int IntKind.i64 0), (2, Value.int IntKind.i64 0), (0, Value.string (mkS s))] [] [] (by kernel_rfl) (by kernel_rfl) trivial ?_
  refine wpr_nil ?_
  refine nx_then ?_
  refine wpc_block ?_
  refine wpc_loop (X := NI s) (fun x => St.mk [(8, .int .i64 (x.i : Int)), (5, .int .u64 (x.f : Int)), (0, .string (mkS s)), (2, .int .i64 0), (3, .int .i64 0), (4, .int .i64 0)] []) (fun x => 10 - x.i) ⟨0, 0, by omega, by omega, by decide, rfl⟩ (ent_fr (by kernel_rfl)) ?_
  rintro ⟨i, f, hi, hs, hf, hn⟩
  dsimp only
  refine wpc_seq ?_
  refine wpc_region [0] (by kernel_rfl) ?_
  refine wpr_run (l₂ := []) true [0] [] [(9, Value.bool (decide ((↑i : Int) < 10))), (8, Value.int IntKind.i64 (↑i : Int)), (5, Value.int IntKind.u64 (↑f : Int)), (0, Value.string (mkS s)), (2, Value.int IntKind.i64 0), (3, Value.int IntKind.i64 0), (4, Value.int IntKind.i64 0)] [] [] (by kernel_rfl) (by kernel_rfl) trivial ?_
  refine wpr_nil ?_
  refine nx_then ?_
  refine wpc_seq ?_
  refine wpc_if (((↑i : Int) < 10)) (by kernel_rfl) (fun hlt => ?_) (fun hlt => ?_)
  · refine wpc_skip ?_
    refine nx_then ?_
    refine wpc_seq ?_
    refine wpc_block ?_
    refine wpc_seq ?_
    refine wpc_region [0, 1] (by kernel_rfl) ?_
    refine wpr_run (l₂ := []) true [0, 1] [] [(6, Value.int IntKind.i64 (↑i : Int)), (8, Value.int IntKind.i64 (↑i : Int)), (5, Value.int IntKind.u64 (↑f : Int)), (0, Value.string (mkS s)), (2, Value.int IntKind.i64 0), (3, Value.int IntKind.i64 0), (4, Value.int IntKind.i64 0)] [] [] (by kernel_rfl) (by kernel_rfl) trivial ?_
    refine wpr_nil ?_
    refine nx_then ?_
    refine wpc_seq ?_
    refine wpc_seq ?_
    refine wpc_region [0, 1, 2, 3] (by kernel_rfl) ?_
    refine wpr_run (l₂ := []) true [0, 1, 2, 3] [] [(14, Value.bool ((↑i : Int) == (↑s.length : Int))), (6, Value.int IntKind.i64 (↑i : Int)), (8, Value.int IntKind.i64 (↑i : Int)), (5, Value.int IntKind.u64 (↑f : Int)), (0, Value.string (mkS s)), (2, Value.int IntKind.i64 0), (3, Value.int IntKind.i64 0), (4, Value.int IntKind.i64 0)] [] [] (by kernel_rfl) (by kernel_rfl) trivial ?_
    refine wpr_nil ?_
    refine nx_then ?_
    refine wpc_cond (((↑i : Int) == (↑s.length : Int))) (by kernel_rfl) (fun hend => ?_) (fun hend => ?_)
    · have he : i = s.length := by have := eq_of_beq hend; omega
      refine wpc_seq ?_
      refine wpc_region [0, 1, 2] (by kernel_rfl) ?_
      refine wpr_run (l₂ := []) true [0, 1, 2] [] [(4, Value.int IntKind.i64 3), (3, Value.int IntKind.i64 0), (2, Value.int IntKind.i64 0), (6, Value.int IntKind.i64 (↑i : Int)), (8, Value.int IntKind.i64 (↑i : Int)), (5, Value.int IntKind.u64 (↑f : Int)), (0, Value.string (mkS s))] [] [] (by kernel_rfl) (by kernel_rfl) trivial ?_
      refine wpr_nil ?_
      refine nx_then ?_
      refine wpc_ret ?_
      refine nx_then_ret ?_
      refine nx_block_ret ?_
      refine nx_then_ret ?_
      refine nx_then_ret ?_
      refine nx_block_ret ?_
      refine nx_then_ret ?_
      refine nx_end (hp' := []) (rest := []) [] ((Value.tuple #[Value.int IntKind.i64 0, Value.int IntKind.i64 0, Value.int IntKind.i64 3])) (by kernel_rfl) (by kernel_rfl) give_all (by first | ((repeat (first | exact trivial | refine ⟨trivial, ?_⟩)); done) | assumption) ?_ (.inr rfl)
      refine ⟨?_, rfl⟩
      rw [← hn, List.drop_eq_nil_of_le (by omega)]
      rw [show 10 - i = (9 - i) + 1 by omega]
      rfl
    · have hlen : i < s.length := by
        rcases Nat.lt_or_ge i s.length with h | h
        · exact h
        · have e : i = s.length := by omega
          rw [e] at hend; simp at hend
      obtain ⟨c, hc⟩ : ∃ c, c = s[i] := ⟨_, rfl⟩
      have hbt : bt (mkS s) (i : Int) = (c.toNat : Int) := by rw [hc]; exact bt_at hlen
      have hd : s.drop i = c :: s.drop (i + 1) := by rw [hc]; exact List.drop_eq_getElem_cons hlen
      rw [hd, show 10 - i = (9 - i) + 1 by omega] at hn
      unfold numGo at hn
      by_cases h9 : i = 9 ∧ c ≠ 1
      · rw [if_pos h9] at hn
        have hne : (!((c.toNat : Int) == 1)) = true := by
          have : c.toNat ≠ 1 := fun e => h9.2 (UInt8.toNat_inj.1 e)
          simp; omega
        obtain ⟨rfl, _⟩ := h9
        refine wpc_skip ?_
        refine nx_then ?_
        refine wpc_seq ?_
        refine wpc_region [0, 1, 2, 3] (by kernel_rfl) ?_
        refine wpr_run (l₂ := []) true [0, 1, 2, 3] [] [(7, Value.int IntKind.u8 (bt (mkS s) 9)), (6, Value.int IntKind.i64 9), (8, Value.int IntKind.i64 9), (5, Value.int IntKind.u64 (↑f : Int)), (0, Value.string (mkS s)), (2, Value.int IntKind.i64 0), (3, Value.int IntKind.i64 0), (4, Value.int IntKind.i64 0)] [] [(0 : Int) ≤ (9 : Int) ∧ (9 : Int) < (↑s.length : Int)] (by kernel_rfl) (by kernel_rfl) ⟨by omega, trivial⟩ ?_
        refine wpr_nil ?_
        refine nx_then ?_
        refine wpc_seq ?_
        refine wpc_seq ?_
        refine wpc_region [0, 1, 2, 3, 4, 5] (by kernel_rfl) ?_
        refine wpr_run (l₂ := []) true [0, 1, 2, 3, 4, 5] [] [(23, Value.bool (bt (mkS s) 9 != 1)), (7, Value.int IntKind.u8 (bt (mkS s) 9)), (6, Value.int IntKind.i64 9), (8, Value.int IntKind.i64 9), (5, Value.int IntKind.u64 (↑f : Int)), (0, Value.string (mkS s)), (2, Value.int IntKind.i64 0), (3, Value.int IntKind.i64 0), (4, Value.int IntKind.i64 0)] [] [] (by kernel_rfl) (by kernel_rfl) trivial ?_
        refine wpr_nil ?_
        refine nx_then ?_
        refine wpc_ent (ent_set 23 (Value.bool (bt (mkS s) 9 != 1)) (Value.bool true) (by kernel_rfl) (congrArg _ (by show (bt (mkS s) ((9 : Nat) : Int) != 1) = true; rw [hbt]; exact hne))) ?_
        refine wpc_true (by kernel_rfl) ?_
        refine wpc_exit ?_
        refine nx_then_exit ?_
        refine nx_block_far (by kernel_rfl) ?_
        refine nx_then_exit ?_
        refine nx_then_exit ?_
        refine nx_block_here ?_
        refine nx_then ?_
        refine wpc_seq ?_
        refine wpc_region [0, 1, 2] (by kernel_rfl) ?_
        refine wpr_run (l₂ := []) true [0, 1, 2] [] [(4, Value.int IntKind.i64 4), (3, Value.int IntKind.i64 0), (2, Value.int IntKind.i64 0)] [] [] (by kernel_rfl) (by kernel_rfl) trivial ?_
        refine wpr_nil ?_
        refine nx_then ?_
        refine wpc_ret ?_
        refine nx_end (hp' := []) (rest := []) [] ((Value.tuple #[Value.int IntKind.i64 0, Value.int IntKind.i64 0, Value.int IntKind.i64 4])) (by kernel_rfl) (by kernel_rfl) give_all (by first | ((repeat (first | exact trivial | refine ⟨trivial, ?_⟩)); done) | assumption) ?_ (.inr rfl)
        exact ⟨by rw [← hn], rfl⟩
      · rw [if_neg h9] at hn
        refine wpc_skip ?_
        refine nx_then ?_
        refine wpc_seq ?_
        refine wpc_region [0, 1, 2, 3] (by kernel_rfl) ?_
        refine wpr_run (l₂ := []) true [0, 1, 2, 3] [] [(7, Value.int IntKind.u8 (bt (mkS s) (↑i : Int))), (6, Value.int IntKind.i64 (↑i : Int)), (8, Value.int IntKind.i64 (↑i : Int)), (5, Value.int IntKind.u64 (↑f : Int)), (0, Value.string (mkS s)), (2, Value.int IntKind.i64 0), (3, Value.int IntKind.i64 0), (4, Value.int IntKind.i64 0)] [] [(0 : Int) ≤ (↑i : Int) ∧ (↑i : Int) < (↑s.length : Int)] (by kernel_rfl) (by kernel_rfl) ⟨by omega, trivial⟩ ?_
        refine wpr_nil ?_
        refine nx_then ?_
        refine wpc_seq ?_
        refine wpc_seq ?_
        refine wpc_region [0, 1, 2, 3, 4, 5] (by kernel_rfl) ?_
        refine wpr_run (l₂ := [3, 4, 5]) true [0, 1, 2] [] [(20, Value.bool ((↑i : Int) == 9)), (7, Value.int IntKind.u8 (bt (mkS s) (↑i : Int))), (6, Value.int IntKind.i64 (↑i : Int)), (8, Value.int IntKind.i64 (↑i : Int)), (5, Value.int IntKind.u64 (↑f : Int)), (0, Value.string (mkS s)), (2, Value.int IntKind.i64 0), (3, Value.int IntKind.i64 0), (4, Value.int IntKind.i64 0)] [] [] (by kernel_rfl) (by kernel_rfl) trivial ?_
        refine wpr_join ⟨[(23, Value.bool false), (7, (Value.int IntKind.u8 (bt (mkS s) (↑i : Int)))), (6, (Value.int IntKind.i64 (↑i : Int))), (8, (Value.int IntKind.i64 (↑i : Int))), (5, (Value.int IntKind.u64 (↑f : Int))), (0, (Value.string (mkS s))), (2, (Value.int IntKind.i64 0)), (3, (Value.int IntKind.i64 0)), (4, (Value.int IntKind.i64 0))], []⟩ (fun Q1 hQ1 hk => ?_) ?_
        · refine wpr_case 20 (((↑i : Int) == 9)) (by kernel_rfl) (fun h => ?_) (fun h => ?_)
          · refine wpr_run (l₂ := []) true [3, 4, 5] [] [(23, Value.bool (bt (mkS s) (↑i : Int) != 1)), (7, Value.int IntKind.u8 (bt (mkS s) (↑i : Int))), (6, Value.int IntKind.i64 (↑i : Int)), (8, Value.int IntKind.i64 (↑i : Int)), (5, Value.int IntKind.u64 (↑f : Int)), (0, Value.string (mkS s)), (2, Value.int IntKind.i64 0), (3, Value.int IntKind.i64 0), (4, Value.int IntKind.i64 0)] [] [] (by kernel_rfl) (by kernel_rfl) trivial ?_
            refine wpr_nil ?_
            refine nx_ent (ent_set 23 (Value.bool (bt (mkS s) (↑i : Int) != 1)) (Value.bool false) (by kernel_rfl) (congrArg _ (by
                          rw [hbt]
                          have e9 : i = 9 := by have := eq_of_beq h; omega
                          have e1 : c = 1 := Classical.byContradiction fun hc1 => h9 ⟨e9, hc1⟩
                          rw [e1]; rfl))) ?_
            exact nx_ent (ent_fr (by kernel_rfl)) hk
          · refine wpr_run (l₂ := []) true [3, 4, 5] [] [(23, Value.bool false), (7, Value.int IntKind.u8 (bt (mkS s) (↑i : Int))), (6, Value.int IntKind.i64 (↑i : Int)), (8, Value.int IntKind.i64 (↑i : Int)), (5, Value.int IntKind.u64 (↑f : Int)), (0, Value.string (mkS s)), (2, Value.int IntKind.i64 0), (3, Value.int IntKind.i64 0), (4, Value.int IntKind.i64 0)] [] [] (by kernel_rfl) (by kernel_rfl) trivial ?_
            refine wpr_nil ?_
            exact nx_ent (ent_fr (by kernel_rfl)) hk
        have h9x : i = 9 → c.toNat % 128 ≤ 1 := fun e => by
          have e1 : c = 1 := Classical.byContradiction fun hc1 => h9 ⟨e, hc1⟩
          rw [e1]; decide
        have hacc := acc_lt hf (by omega) (Nat.mod_lt c.toNat (show 0 < 128 by decide)) h9x
        refine nx_then ?_
        refine wpc_false (by kernel_rfl) ?_
        refine wpc_skip ?_
        refine nx_then ?_
        refine wpc_seq ?_
        refine wpc_region [0, 1, 2, 3, 4, 5, 6, 7, 8] (by kernel_rfl) ?_
        refine wpr_run (l₂ := []) true [0, 1, 2, 3, 4, 5, 6, 7, 8] [] [(5, Value.int IntKind.u64 (IntKind.u64.wrap (↑(BitVec.ofInt IntKind.u64.bits (↑f : Int) ||| BitVec.ofInt IntKind.u64.bits (IntKind.u64.wrap (IntKind.u64.wrap (IntKind.u8.wrap (↑(BitVec.ofInt IntKind.u8.bits (bt (mkS s) (↑i : Int)) &&& BitVec.ofInt IntKind.u8.bits 127).toNat : Int)) * 2 ^ min (7 * (↑i : Int)).toNat IntKind.u64.bits))).toNat : Int))), (7, Value.int IntKind.u8 (bt (mkS s) (↑i : Int))), (6, Value.int IntKind.i64 (↑i : Int)), (8, Value.int IntKind.i64 (↑i : Int)), (0, Value.string (mkS s)), (2, Value.int IntKind.i64 0), (3, Value.int IntKind.i64 0), (4, Value.int IntKind.i64 0)] [] [inI64 ((7 : Int) * (↑i : Int)), (0 : Int) ≤ (7 : Int) * (↑i : Int)] (by kernel_rfl) (by kernel_rfl) ⟨by unfold inI64; omega, by omega, trivial⟩ ?_
        refine wpr_nil ?_
        refine nx_then ?_
        refine wpc_seq ?_
        refine wpc_seq ?_
        refine wpc_region [0, 1, 2] (by kernel_rfl) ?_
        refine wpr_run (l₂ := []) true [0, 1, 2] [] [(34, Value.bool (IntKind.u8.wrap (↑(BitVec.ofInt IntKind.u8.bits (bt (mkS s) (↑i : Int)) &&& BitVec.ofInt IntKind.u8.bits 128).toNat : Int) != 0)), (5, Value.int IntKind.u64 (IntKind.u64.wrap (↑(BitVec.ofInt IntKind.u64.bits (↑f : Int) ||| BitVec.ofInt IntKind.u64.bits (IntKind.u64.wrap (IntKind.u64.wrap (IntKind.u8.wrap (↑(BitVec.ofInt IntKind.u8.bits (bt (mkS s) (↑i : Int)) &&& BitVec.ofInt IntKind.u8.bits 127).toNat : Int)) * 2 ^ min (7 * (↑i : Int)).toNat IntKind.u64.bits))).toNat : Int))), (7, Value.int IntKind.u8 (bt (mkS s) (↑i : Int))), (6, Value.int IntKind.i64 (↑i : Int)), (8, Value.int IntKind.i64 (↑i : Int)), (0, Value.string (mkS s)), (2, Value.int IntKind.i64 0), (3, Value.int IntKind.i64 0), (4, Value.int IntKind.i64 0)] [] [] (by kernel_rfl) (by kernel_rfl) trivial ?_
        refine wpr_nil ?_
        refine nx_then ?_
        refine wpc_ent (ent_set 34 (Value.bool (IntKind.u8.wrap (↑(BitVec.ofInt IntKind.u8.bits (bt (mkS s) (↑i : Int)) &&& BitVec.ofInt IntKind.u8.bits 128).toNat : Int) != 0)) (Value.bool (decide (128 ≤ c.toNat))) (by kernel_rfl) (congrArg _ (by rw [hbt, and128]))) ?_
        refine wpc_ent (ent_set 5 (Value.int IntKind.u64 (IntKind.u64.wrap (↑(BitVec.ofInt IntKind.u64.bits (↑f : Int) ||| BitVec.ofInt IntKind.u64.bits (IntKind.u64.wrap (IntKind.u64.wrap (IntKind.u8.wrap (↑(BitVec.ofInt IntKind.u8.bits (bt (mkS s) (↑i : Int)) &&& BitVec.ofInt IntKind.u8.bits 127).toNat : Int)) * 2 ^ min (7 * (↑i : Int)).toNat IntKind.u64.bits))).toNat : Int))) (Value.int .u64 ((f + c.toNat % 128 * 128 ^ i : Nat) : Int)) (by kernel_rfl) (congrArg _ (by rw [hbt, and127]; exact or_acc hf (by omega) (Nat.mod_lt _ (by decide)) h9x))) ?_
        refine wpc_if ((128 ≤ c.toNat)) (by kernel_rfl) (fun hbig => ?_) (fun hbig => ?_)
        · rw [if_pos hbig] at hn
          refine wpc_exit ?_
          refine nx_then_exit ?_
          refine nx_block_here ?_
          refine nx_then ?_
          refine wpc_region [0, 1] (by kernel_rfl) ?_
          refine wpr_run (l₂ := []) true [0, 1] [] ([(8, Value.int IntKind.i64 ((↑i : Int) + 1)), (5, Value.int IntKind.u64 (↑(f + c.toNat % 128 * 128 ^ i) : Int)), (0, Value.string (mkS s)), (2, Value.int IntKind.i64 0), (3, Value.int IntKind.i64 0), (4, Value.int IntKind.i64 0)]) [] ([inI64 ((↑i : Int) + (1 : Int))]) (by kernel_rfl) (by kernel_rfl) ⟨by unfold inI64; omega, trivial⟩ ?_
          refine wpr_nil ?_
          exact fun a' w hS => ⟨⟨i + 1, f + c.toNat % 128 * 128 ^ i, by omega, by omega, by
            have : c.toNat % 128 * 128 ^ i ≤ 127 * 128 ^ i := Nat.mul_le_mul_right _ (by omega)
            rw [Nat.pow_succ]; omega, by rw [show 10 - (i + 1) = 9 - i by omega]; exact hn⟩, by dsimp only; omega, ent_fr (by kernel_rfl) _ _ hS⟩
        · rw [if_neg hbig] at hn
          refine wpc_skip ?_
          refine nx_then ?_
          refine wpc_seq ?_
          refine wpc_seq ?_
          refine wpc_region [0, 1, 2, 3, 4, 5] (by kernel_rfl) ?_
          refine wpr_run (l₂ := [3, 4, 5]) true [0, 1, 2] [] ([(37, Value.bool (bt (mkS s) (↑i : Int) == 0)), (5, Value.int IntKind.u64 (↑(f + c.toNat % 128 * 128 ^ i) : Int)), (6, Value.int IntKind.i64 (↑i : Int)), (8, Value.int IntKind.i64 (↑i : Int)), (0, Value.string (mkS s)), (2, Value.int IntKind.i64 0), (3, Value.int IntKind.i64 0), (4, Value.int IntKind.i64 0)]) [] [] (by kernel_rfl) (by kernel_rfl) trivial ?_
          refine wpr_case 37 ((bt (mkS s) (↑i : Int) == 0)) (by kernel_rfl) (fun hz => ?_) (fun hz => ?_)
          · have hc0 : c = 0 := by
              rw [hbt] at hz
              have := eq_of_beq hz
              exact UInt8.toNat_inj.1 (by show c.toNat = 0; omega)
            refine wpr_run (l₂ := []) true [3, 4, 5] [] ([(40, Value.bool (decide ((↑i : Int) > 0))), (5, Value.int IntKind.u64 (↑(f + c.toNat % 128 * 128 ^ i) : Int)), (6, Value.int IntKind.i64 (↑i : Int)), (8, Value.int IntKind.i64 (↑i : Int)), (0, Value.string (mkS s)), (2, Value.int IntKind.i64 0), (3, Value.int IntKind.i64 0), (4, Value.int IntKind.i64 0)]) [] [] (by kernel_rfl) (by kernel_rfl) trivial ?_
            refine wpr_nil ?_
            refine nx_then ?_
            refine wpc_if (((↑i : Int) > 0)) (by kernel_rfl) (fun hi0 => ?_) (fun hi0 => ?_)
            · rw [if_pos ⟨hc0, by omega⟩] at hn
              refine wpc_exit ?_
              refine nx_then_exit ?_
              refine nx_block_far (by kernel_rfl) ?_
              refine nx_then_exit ?_
              refine nx_then_exit ?_
              refine nx_block_here ?_
              refine nx_then ?_
              refine wpc_seq ?_
              refine wpc_region [0, 1, 2] (by kernel_rfl) ?_
              refine wpr_run (l₂ := []) true [0, 1, 2] [] [(4, Value.int IntKind.i64 4), (3, Value.int IntKind.i64 0), (2, Value.int IntKind.i64 0)] [] [] (by kernel_rfl) (by kernel_rfl) trivial ?_
              refine wpr_nil ?_
              refine nx_then ?_
              refine wpc_ret ?_
              refine nx_end (hp' := []) (rest := []) [] ((Value.tuple #[Value.int IntKind.i64 0, Value.int IntKind.i64 0, Value.int IntKind.i64 4])) (by kernel_rfl) (by kernel_rfl) give_all (by first | ((repeat (first | exact trivial | refine ⟨trivial, ?_⟩)); done) | assumption) ?_ (.inr rfl)
              exact ⟨by rw [← hn], rfl⟩
            · rw [if_neg (fun h => hi0 (by omega))] at hn
              refine wpc_skip ?_
              refine nx_then ?_
              refine wpc_seq ?_
              refine wpc_region [0, 1, 2, 3, 4, 5, 6] (by kernel_rfl) ?_
              refine wpr_run (l₂ := [1, 2, 3, 4, 5, 6]) true [0] [] ([(41, Value.int IntKind.u64 (↑(f + c.toNat % 128 * 128 ^ i) : Int)), (5, Value.int IntKind.u64 (↑(f + c.toNat % 128 * 128 ^ i) : Int)), (6, Value.int IntKind.i64 (↑i : Int)), (8, Value.int IntKind.i64 (↑i : Int)), (0, Value.string (mkS s)), (2, Value.int IntKind.i64 0), (3, Value.int IntKind.i64 0), (4, Value.int IntKind.i64 0)]) [] [] (by kernel_rfl) (by kernel_rfl) trivial ?_
              refine wpr_call_all (dst := some 42) (by kernel_rfl) (unfold_spec (f + c.toNat % 128 * 128 ^ i : Nat) (by omega) (by omega)) give_all ?_
              rintro v hp' ⟨rfl, rfl⟩
              refine wpr_run (l₂ := []) true [2, 3, 4, 5, 6] [] ([(4, Value.int IntKind.i64 0), (3, Value.int IntKind.i64 ((↑i : Int) + 1)), (2, Value.int IntKind.i64 (unfoldN (↑(f + c.toNat % 128 * 128 ^ i) : Int))), (5, Value.int IntKind.u64 (↑(f + c.toNat % 128 * 128 ^ i) : Int)), (8, Value.int IntKind.i64 (↑i : Int)), (0, Value.string (mkS s))]) [] ([inI64 ((↑i : Int) + (1 : Int))]) (by kernel_rfl) (by kernel_rfl) ⟨by unfold inI64; omega, trivial⟩ ?_
              refine wpr_nil ?_
              refine nx_then ?_
              refine wpc_ret ?_
              refine nx_block_ret ?_
              refine nx_then_ret ?_
              refine nx_then_ret ?_
              refine nx_block_ret ?_
              refine nx_then_ret ?_
              refine nx_end (hp' := []) (rest := []) [] ((Value.tuple #[Value.int IntKind.i64 (unfoldN (↑(f + c.toNat % 128 * 128 ^ i) : Int)), Value.int IntKind.i64 ((↑i : Int) + 1), Value.int IntKind.i64 0])) (by kernel_rfl) (by kernel_rfl) give_all (by first | ((repeat (first | exact trivial | refine ⟨trivial, ?_⟩)); done) | assumption) ?_ (.inr rfl)
              exact ⟨by rw [← hn], rfl⟩
          · have hc0 : c ≠ 0 := fun e => by
              rw [hbt, e] at hz
              simp at hz
            rw [if_neg (fun h => hc0 h.1)] at hn
            refine wpr_run (l₂ := []) true [3, 4, 5] [] ([(40, Value.bool false), (5, Value.int IntKind.u64 (↑(f + c.toNat % 128 * 128 ^ i) : Int)), (6, Value.int IntKind.i64 (↑i : Int)), (8, Value.int IntKind.i64 (↑i : Int)), (0, Value.string (mkS s)), (2, Value.int IntKind.i64 0), (3, Value.int IntKind.i64 0), (4, Value.int IntKind.i64 0)]) [] [] (by kernel_rfl) (by kernel_rfl) trivial ?_
            refine wpr_nil ?_
            refine nx_then ?_
            refine wpc_false (by kernel_rfl) ?_
            refine wpc_skip ?_
            refine nx_then ?_
            refine wpc_seq ?_
            refine wpc_region [0, 1, 2, 3, 4, 5, 6] (by kernel_rfl) ?_
            refine wpr_run (l₂ := [1, 2, 3, 4, 5, 6]) true [0] [] ([(41, Value.int IntKind.u64 (↑(f + c.toNat % 128 * 128 ^ i) : Int)), (5, Value.int IntKind.u64 (↑(f + c.toNat % 128 * 128 ^ i) : Int)), (6, Value.int IntKind.i64 (↑i : Int)), (8, Value.int IntKind.i64 (↑i : Int)), (0, Value.string (mkS s)), (2, Value.int IntKind.i64 0), (3, Value.int IntKind.i64 0), (4, Value.int IntKind.i64 0)]) [] [] (by kernel_rfl) (by kernel_rfl) trivial ?_
            refine wpr_call_all (dst := some 42) (by kernel_rfl) (unfold_spec (f + c.toNat % 128 * 128 ^ i : Nat) (by omega) (by omega)) give_all ?_
            rintro v hp' ⟨rfl, rfl⟩
            refine wpr_run (l₂ := []) true [2, 3, 4, 5, 6] [] ([(4, Value.int IntKind.i64 0), (3, Value.int IntKind.i64 ((↑i : Int) + 1)), (2, Value.int IntKind.i64 (unfoldN (↑(f + c.toNat % 128 * 128 ^ i) : Int))), (5, Value.int IntKind.u64 (↑(f + c.toNat % 128 * 128 ^ i) : Int)), (8, Value.int IntKind.i64 (↑i : Int)), (0, Value.string (mkS s))]) [] ([inI64 ((↑i : Int) + (1 : Int))]) (by kernel_rfl) (by kernel_rfl) ⟨by unfold inI64; omega, trivial⟩ ?_
            refine wpr_nil ?_
            refine nx_then ?_
            refine wpc_ret ?_
            refine nx_block_ret ?_
            refine nx_then_ret ?_
            refine nx_then_ret ?_
            refine nx_block_ret ?_
            refine nx_then_ret ?_
            refine nx_end (hp' := []) (rest := []) [] ((Value.tuple #[Value.int IntKind.i64 (unfoldN (↑(f + c.toNat % 128 * 128 ^ i) : Int)), Value.int IntKind.i64 ((↑i : Int) + 1), Value.int IntKind.i64 0])) (by kernel_rfl) (by kernel_rfl) give_all (by first | ((repeat (first | exact trivial | refine ⟨trivial, ?_⟩)); done) | assumption) ?_ (.inr rfl)
            exact ⟨by rw [← hn], rfl⟩
  · refine wpc_exit ?_
    refine nx_then_exit ?_
    refine nx_then_exit ?_
    refine nx_block_here ?_
    refine nx_then ?_
    refine wpc_seq ?_
    refine wpc_region [0, 1, 2] (by kernel_rfl) ?_
    refine wpr_run (l₂ := []) true [0, 1, 2] [] [(4, Value.int IntKind.i64 4), (3, Value.int IntKind.i64 0), (2, Value.int IntKind.i64 0)] [] [] (by kernel_rfl) (by kernel_rfl) trivial ?_
    refine wpr_nil ?_
    refine nx_then ?_
    refine wpc_ret ?_
    refine nx_end (hp' := []) (rest := []) [] ((Value.tuple #[Value.int IntKind.i64 0, Value.int IntKind.i64 0, Value.int IntKind.i64 4])) (by kernel_rfl) (by kernel_rfl) give_all (by first | ((repeat (first | exact trivial | refine ⟨trivial, ?_⟩)); done) | assumption) ?_ (.inr rfl)
    refine ⟨?_, rfl⟩
    rw [show 10 - i = 0 by omega] at hn
    rw [← hn]; rfl

end Go.Proofs.Ytmjhcadciblcdaa
