import Derived.Test.YtmjhcadciblcdaaW4
import Derived.Test.YtmjhcadciblcdaaX13
namespace Go.Proofs.Ytmjhcadciblcdaa
open Go Go.Sx
set_option linter.unusedVariables false
set_option linter.unusedSimpArgs false

/-- The reference's reader. -/
def rrd (s : List UInt8) (A e : Int) : Value := .agg #[.string (mkS s), .int .i64 A, .int .i64 e]

structure RNI (s : List UInt8) (A : Nat) where
  i : Nat
  f : Nat
  hi : i ≤ 10
  hs : A + i ≤ s.length
  hf : f < 128 ^ i
  hn : numGo (10 - i) i f (s.drop (A + i)) = num (s.drop A)

theorem add_acc {f i x : Nat} (hf : f < 128 ^ i) (hi : i ≤ 9) (hx : x < 128) (h9 : i = 9 → x ≤ 1) :
    IntKind.u64.wrap ((f : Int) + IntKind.u64.wrap (IntKind.u64.wrap (x : Int) * 2 ^ min (7 * (i : Int)).toNat IntKind.u64.bits)) = ((f + x * 128 ^ i : Nat) : Int) := by
  have e64 : IntKind.u64.bits = 64 := rfl
  obtain ⟨h1, h2⟩ := acc_lt hf hi hx h9
  have hm : min (7 * (i : Int)).toNat 64 = 7 * i := by omega
  have hp : (128 : Nat) ^ i = 2 ^ (7 * i) := by rw [Nat.pow_mul]
  rw [e64, hm]
  simp only [u64_wrap]
  have hx2 : (x : Int) % 18446744073709551616 = x := by omega
  have hpi : ((2 : Int) ^ (7 * i)) = ((128 ^ i : Nat) : Int) := by rw [hp]; simp
  rw [hx2, hpi, ← Int.natCast_mul]
  omega

theorem rem128' (c : UInt8) : IntKind.u8.wrap ((c.toNat : Int).tmod 128) = ((c.toNat % 128 : Nat) : Int) := by
  have hc := c.toNat_lt
  rw [Int.tmod_eq_emod_of_nonneg (by omega), u8_wrap]; omega

theorem tmod128 (c : UInt8) : ((c.toNat : Int).tmod 128) = ((c.toNat % 128 : Nat) : Int) := by
  rw [Int.tmod_eq_emod_of_nonneg (by omega)]; omega

theorem rnumber_spec (s : List UInt8) (A : Nat) (hA : A ≤ s.length) (hl : s.length ≤ 1099511627776) :
    Does Try.prog 40 [.string (mkS s), .int .i64 (A : Int)] [] (fun v hp' => v = .tuple #[.int .i64 (num (s.drop A)).1, .int .i64 (if (num (s.drop A)).2.2 = 0 then A + (num (s.drop A)).2.1 else 0), .int .i64 (num (s.drop A)).2.2] ∧ hp' = []) := by
  refine fn_enter Try.func40 rfl 53 rfl fun w0 h0 => ?_
  refine wpc_seq ?_
  refine wpc_region [0, 1, 2] (by kernel_rfl) ?_
  refine wpr_run (l₂ := []) true [0, 1, 2] [] [(6, Value.int IntKind.i64 0), (5, Value.int IntKind.i64 0), (4, Value.int IntKind.i64 0), (0, Value.string (mkS s)), (1, Value.int IntKind.i64 (↑A : Int))] [] [] (by kernel_rfl) (by kernel_rfl) trivial ?_
  refine wpr_nil ?_
  refine nx_then ?_
  refine wpc_seq ?_
  refine wpc_region [0] (by kernel_rfl) ?_
  refine wpr_run (l₂ := []) true [0] [] [(7, Value.int IntKind.u64 0), (6, Value.int IntKind.i64 0), (5, Value.int IntKind.i64 0), (4, Value.int IntKind.i64 0), (0, Value.string (mkS s)), (1, Value.int IntKind.i64 (↑A : Int))] [] [] (by kernel_rfl) (by kernel_rfl) trivial ?_
  refine wpr_nil ?_
  refine nx_then ?_
  refine wpc_seq ?_
  refine wpc_seq ?_
  refine wpc_region [0] (by kernel_rfl) ?_
  refine wpr_run (l₂ := []) true [0] [] [(8, Value.int IntKind.i64 0), (7, Value.int IntKind.u64 0), (6, Value.int IntKind.i64 0), (5, Value.int IntKind.i64 0), (4, Value.int IntKind.i64 0), (0, Value.string (mkS s)), (1, Value.int IntKind.i64 (↑A : Int))] [] [] (by kernel_rfl) (by kernel_rfl) trivial ?_
  refine wpr_nil ?_
  refine nx_then ?_
  refine wpc_block ?_
  refine wpc_loop (X := RNI s A) (fun x => St.mk [(8, .int .i64 (x.i : Int)), (7, .int .u64 (x.f : Int)), (0, .string (mkS s)), (1, .int .i64 (A : Int)), (4, .int .i64 0), (5, .int .i64 0), (6, .int .i64 0)] []) (fun x => 10 - x.i) ⟨0, 0, by omega, by omega, by decide, rfl⟩ (ent_fr (by kernel_rfl)) ?_
  rintro ⟨i, f, hi, hs, hf, hn⟩
  dsimp only
  refine wpc_seq ?_
  refine wpc_seq ?_
  refine wpc_region [0, 1] (by kernel_rfl) ?_
  refine wpr_run (l₂ := []) true [0, 1] [] [(11, Value.bool (decide ((↑i : Int) < 10))), (8, Value.int IntKind.i64 (↑i : Int)), (7, Value.int IntKind.u64 (↑f : Int)), (0, Value.string (mkS s)), (1, Value.int IntKind.i64 (↑A : Int)), (4, Value.int IntKind.i64 0), (5, Value.int IntKind.i64 0), (6, Value.int IntKind.i64 0)] [] [] (by kernel_rfl) (by kernel_rfl) trivial ?_
  refine wpr_nil ?_
  refine nx_then ?_
  refine wpc_if (((↑i : Int) < 10)) (by kernel_rfl) (fun hlt => ?_) (fun hlt => ?_)
  · refine wpc_skip ?_
    refine nx_then ?_
    refine wpc_seq ?_
    refine wpc_block ?_
    refine wpc_seq ?_
    refine wpc_seq ?_
    refine wpc_region [0, 1, 2, 3, 4, 5] (by kernel_rfl) ?_
    refine wpr_run (l₂ := []) true [0, 1, 2, 3, 4, 5] [] ([(19, Value.bool (decide ((↑A : Int) + (↑i : Int) ≥ (↑s.length : Int)))), (8, Value.int IntKind.i64 (↑i : Int)), (7, Value.int IntKind.u64 (↑f : Int)), (0, Value.string (mkS s)), (1, Value.int IntKind.i64 (↑A : Int)), (4, Value.int IntKind.i64 0), (5, Value.int IntKind.i64 0), (6, Value.int IntKind.i64 0)]) [] ([inI64 ((↑A : Int) + (↑i : Int))]) (by kernel_rfl) (by kernel_rfl) ⟨by unfold inI64; omega, trivial⟩ ?_
    refine wpr_nil ?_
    refine nx_then ?_
    refine wpc_if (((↑A : Int) + (↑i : Int) ≥ (↑s.length : Int))) (by kernel_rfl) (fun hend => ?_) (fun hend => ?_)
    · refine wpc_seq ?_
      refine wpc_region [0, 1, 2] (by kernel_rfl) ?_
      refine wpr_run (l₂ := []) true [0, 1, 2] [] [(6, Value.int IntKind.i64 3), (5, Value.int IntKind.i64 0), (4, Value.int IntKind.i64 0), (8, Value.int IntKind.i64 (↑i : Int)), (7, Value.int IntKind.u64 (↑f : Int)), (0, Value.string (mkS s)), (1, Value.int IntKind.i64 (↑A : Int))] [] [] (by kernel_rfl) (by kernel_rfl) trivial ?_
      refine wpr_nil ?_
      refine nx_then ?_
      refine wpc_ret ?_
      refine nx_then_ret ?_
      refine nx_block_ret ?_
      refine nx_then_ret ?_
      refine nx_then_ret ?_
      refine nx_block_ret ?_
      refine nx_then_ret ?_
      refine nx_end (hp' := []) (rest := []) [] ((Value.tuple #[Value.int IntKind.i64 0, Value.int IntKind.i64 0, Value.int IntKind.i64 3])) (by kernel_rfl) (by kernel_rfl) give_all (by first | ((repeat (first | exact trivial | refine ⟨trivial, ?_⟩)); done) | assumption) ?_ (.inr rfl)
      refine ⟨?_, rfl⟩
      rw [← hn, List.drop_eq_nil_of_le (by omega), show 10 - i = (9 - i) + 1 by omega]
      rfl
    · have hlen : A + i < s.length := by omega
      obtain ⟨c, hc⟩ : ∃ c, c = s[A + i] := ⟨_, rfl⟩
      have hbt : bt (mkS s) ((A : Int) + (i : Int)) = (c.toNat : Int) := by rw [hc, ← Int.natCast_add]; exact bt_at hlen
      have hd : s.drop (A + i) = c :: s.drop (A + i + 1) := by rw [hc]; exact List.drop_eq_getElem_cons hlen
      rw [hd, show 10 - i = (9 - i) + 1 by omega] at hn
      unfold numGo at hn
      by_cases h9 : i = 9 ∧ c ≠ 1
      · rw [if_pos h9] at hn
        have hne : (!((c.toNat : Int) == 1)) = true := by
          have : c.toNat ≠ 1 := fun e => h9.2 (UInt8.toNat_inj.1 e)
          simp; omega
        obtain ⟨rfl, _⟩ := h9
        refine wpc_skip ?_
        refine nx_then ?_
        refine wpc_seq ?_
        refine wpc_region [0, 1, 2, 3, 4, 5] (by kernel_rfl) ?_
        refine wpr_run (l₂ := []) true [0, 1, 2, 3, 4, 5] [] ([(9, Value.int IntKind.u8 (bt (mkS s) ((↑A : Int) + 9))), (8, Value.int IntKind.i64 9), (7, Value.int IntKind.u64 (↑f : Int)), (0, Value.string (mkS s)), (1, Value.int IntKind.i64 (↑A : Int)), (4, Value.int IntKind.i64 0), (5, Value.int IntKind.i64 0), (6, Value.int IntKind.i64 0)]) [] ([inI64 ((↑A : Int) + (9 : Int)), (0 : Int) ≤ (↑A : Int) + (9 : Int) ∧ (↑A : Int) + (9 : Int) < (↑s.length : Int)]) (by kernel_rfl) (by kernel_rfl) ⟨by unfold inI64; omega, by omega, trivial⟩ ?_
        refine wpr_nil ?_
        refine nx_then ?_
        refine wpc_seq ?_
        refine wpc_seq ?_
        refine wpc_region [0, 1, 2, 3, 4, 5] (by kernel_rfl) ?_
        refine wpr_run (l₂ := []) true [0, 1, 2, 3, 4, 5] [] ([(30, Value.bool (bt (mkS s) ((↑A : Int) + 9) != 1)), (9, Value.int IntKind.u8 (bt (mkS s) ((↑A : Int) + 9))), (8, Value.int IntKind.i64 9), (7, Value.int IntKind.u64 (↑f : Int)), (0, Value.string (mkS s)), (1, Value.int IntKind.i64 (↑A : Int)), (4, Value.int IntKind.i64 0), (5, Value.int IntKind.i64 0), (6, Value.int IntKind.i64 0)]) [] [] (by kernel_rfl) (by kernel_rfl) trivial ?_
        refine wpr_nil ?_
        refine nx_then ?_
        refine wpc_ent (ent_set 30 (Value.bool (bt (mkS s) ((↑A : Int) + 9) != 1)) (Value.bool true) (by kernel_rfl) (congrArg _ (by show (bt (mkS s) ((A : Int) + ((9 : Nat) : Int)) != 1) = true; rw [hbt]; exact hne))) ?_
        refine wpc_true (by kernel_rfl) ?_
        refine wpc_seq ?_
        refine wpc_region [0, 1, 2] (by kernel_rfl) ?_
        refine wpr_run (l₂ := []) true [0, 1, 2] [] ([(6, Value.int IntKind.i64 4), (5, Value.int IntKind.i64 0), (4, Value.int IntKind.i64 0), (9, Value.int IntKind.u8 (bt (mkS s) ((↑A : Int) + 9))), (8, Value.int IntKind.i64 9), (7, Value.int IntKind.u64 (↑f : Int)), (0, Value.string (mkS s)), (1, Value.int IntKind.i64 (↑A : Int))]) [] [] (by kernel_rfl) (by kernel_rfl) trivial ?_
        refine wpr_nil ?_
        refine nx_then ?_
        refine wpc_ret ?_
        refine nx_then_ret ?_
        refine nx_block_ret ?_
        refine nx_then_ret ?_
        refine nx_then_ret ?_
        refine nx_block_ret ?_
        refine nx_then_ret ?_
        refine nx_end (hp' := []) (rest := []) [] ((Value.tuple #[Value.int IntKind.i64 0, Value.int IntKind.i64 0, Value.int IntKind.i64 4])) (by kernel_rfl) (by kernel_rfl) give_all (by first | ((repeat (first | exact trivial | refine ⟨trivial, ?_⟩)); done) | assumption) ?_ (.inr rfl)
        exact ⟨by rw [← hn]; rfl, rfl⟩
      · rw [if_neg h9] at hn
        refine wpc_skip ?_
        refine nx_then ?_
        refine wpc_seq ?_
        refine wpc_region [0, 1, 2, 3, 4, 5] (by kernel_rfl) ?_
        refine wpr_run (l₂ := []) true [0, 1, 2, 3, 4, 5] [] ([(9, Value.int IntKind.u8 (bt (mkS s) ((↑A : Int) + (↑i : Int)))), (8, Value.int IntKind.i64 (↑i : Int)), (7, Value.int IntKind.u64 (↑f : Int)), (0, Value.string (mkS s)), (1, Value.int IntKind.i64 (↑A : Int)), (4, Value.int IntKind.i64 0), (5, Value.int IntKind.i64 0), (6, Value.int IntKind.i64 0)]) [] ([inI64 ((↑A : Int) + (↑i : Int)), (0 : Int) ≤ (↑A : Int) + (↑i : Int) ∧ (↑A : Int) + (↑i : Int) < (↑s.length : Int)]) (by kernel_rfl) (by kernel_rfl) ⟨by unfold inI64; omega, by omega, trivial⟩ ?_
        refine wpr_nil ?_
        refine nx_then ?_
        refine wpc_seq ?_
        refine wpc_seq ?_
        refine wpc_region [0, 1, 2, 3, 4, 5] (by kernel_rfl) ?_
        refine wpr_run (l₂ := [3, 4, 5]) true [0, 1, 2] [] ([(27, Value.bool ((↑i : Int) == 9)), (9, Value.int IntKind.u8 (bt (mkS s) ((↑A : Int) + (↑i : Int)))), (8, Value.int IntKind.i64 (↑i : Int)), (7, Value.int IntKind.u64 (↑f : Int)), (0, Value.string (mkS s)), (1, Value.int IntKind.i64 (↑A : Int)), (4, Value.int IntKind.i64 0), (5, Value.int IntKind.i64 0), (6, Value.int IntKind.i64 0)]) [] [] (by kernel_rfl) (by kernel_rfl) trivial ?_
        refine wpr_join ⟨[(30, Value.bool false), (9, (Value.int IntKind.u8 (bt (mkS s) ((↑A : Int) + (↑i : Int))))), (7, (Value.int IntKind.u64 (↑f : Int))), (8, (Value.int IntKind.i64 (↑i : Int))), (0, (Value.string (mkS s))), (1, (Value.int IntKind.i64 (↑A : Int))), (4, (Value.int IntKind.i64 0)), (5, (Value.int IntKind.i64 0)), (6, (Value.int IntKind.i64 0))], []⟩ (fun Q1 hQ1 hk => ?_) ?_
        · refine wpr_case 27 (((↑i : Int) == 9)) (by kernel_rfl) (fun h => ?_) (fun h => ?_)
          · refine wpr_run (l₂ := []) true [3, 4, 5] [] ([(30, Value.bool (bt (mkS s) ((↑A : Int) + (↑i : Int)) != 1)), (9, Value.int IntKind.u8 (bt (mkS s) ((↑A : Int) + (↑i : Int)))), (8, Value.int IntKind.i64 (↑i : Int)), (7, Value.int IntKind.u64 (↑f : Int)), (0, Value.string (mkS s)), (1, Value.int IntKind.i64 (↑A : Int)), (4, Value.int IntKind.i64 0), (5, Value.int IntKind.i64 0), (6, Value.int IntKind.i64 0)]) [] [] (by kernel_rfl) (by kernel_rfl) trivial ?_
            refine wpr_nil ?_
            refine nx_ent (ent_set 30 (Value.bool (bt (mkS s) ((↑A : Int) + (↑i : Int)) != 1)) (Value.bool false) (by kernel_rfl) (congrArg _ (by
                          rw [hbt]
                          have e9 : i = 9 := by have := eq_of_beq h; omega
                          have e1 : c = 1 := Classical.byContradiction fun hc1 => h9 ⟨e9, hc1⟩
                          rw [e1]; rfl))) ?_
            exact nx_ent (ent_fr (by kernel_rfl)) hk
          · refine wpr_run (l₂ := []) true [3, 4, 5] [] ([(30, Value.bool false), (9, Value.int IntKind.u8 (bt (mkS s) ((↑A : Int) + (↑i : Int)))), (8, Value.int IntKind.i64 (↑i : Int)), (7, Value.int IntKind.u64 (↑f : Int)), (0, Value.string (mkS s)), (1, Value.int IntKind.i64 (↑A : Int)), (4, Value.int IntKind.i64 0), (5, Value.int IntKind.i64 0), (6, Value.int IntKind.i64 0)]) [] [] (by kernel_rfl) (by kernel_rfl) trivial ?_
            refine wpr_nil ?_
            exact nx_ent (ent_fr (by kernel_rfl)) hk
        have h9x : i = 9 → c.toNat % 128 ≤ 1 := fun e => by
          have e1 : c = 1 := Classical.byContradiction fun hc1 => h9 ⟨e, hc1⟩
          rw [e1]; decide
        have hacc := acc_lt hf (by omega) (Nat.mod_lt c.toNat (show 0 < 128 by decide)) h9x
        rw [hbt]
        refine nx_then ?_
        refine wpc_false (by kernel_rfl) ?_
        refine wpc_skip ?_
        refine nx_then ?_
        refine wpc_seq ?_
        refine wpc_region [0, 1, 2, 3, 4, 5, 6, 7, 8] (by kernel_rfl) ?_
        refine wpr_run (l₂ := []) true [0, 1, 2, 3, 4, 5, 6, 7, 8] [] ([(7, Value.int IntKind.u64 (IntKind.u64.wrap ((↑f : Int) + IntKind.u64.wrap (IntKind.u64.wrap ((↑c.toNat : Int).tmod 128) * 2 ^ min (7 * (↑i : Int)).toNat IntKind.u64.bits)))), (9, Value.int IntKind.u8 (↑c.toNat : Int)), (8, Value.int IntKind.i64 (↑i : Int)), (0, Value.string (mkS s)), (1, Value.int IntKind.i64 (↑A : Int)), (4, Value.int IntKind.i64 0), (5, Value.int IntKind.i64 0), (6, Value.int IntKind.i64 0)]) [] [inI64 ((7 : Int) * (↑i : Int)), (0 : Int) ≤ (7 : Int) * (↑i : Int)] (by kernel_rfl) (by kernel_rfl) ⟨by unfold inI64; omega, by omega, trivial⟩ ?_
        refine wpr_nil ?_
        refine nx_then ?_
        refine wpc_seq ?_
        refine wpc_region [0, 1] (by kernel_rfl) ?_
        refine wpr_run (l₂ := []) true [0, 1] [] ([(40, Value.bool (decide ((↑c.toNat : Int) < 128))), (7, Value.int IntKind.u64 (IntKind.u64.wrap ((↑f : Int) + IntKind.u64.wrap (IntKind.u64.wrap ((↑c.toNat : Int).tmod 128) * 2 ^ min (7 * (↑i : Int)).toNat IntKind.u64.bits)))), (9, Value.int IntKind.u8 (↑c.toNat : Int)), (8, Value.int IntKind.i64 (↑i : Int)), (0, Value.string (mkS s)), (1, Value.int IntKind.i64 (↑A : Int)), (4, Value.int IntKind.i64 0), (5, Value.int IntKind.i64 0), (6, Value.int IntKind.i64 0)]) [] [] (by kernel_rfl) (by kernel_rfl) trivial ?_
        refine wpr_nil ?_
        refine nx_then ?_
        refine wpc_ent (ent_set 7 (Value.int IntKind.u64 (IntKind.u64.wrap ((↑f : Int) + IntKind.u64.wrap (IntKind.u64.wrap ((↑c.toNat : Int).tmod 128) * 2 ^ min (7 * (↑i : Int)).toNat IntKind.u64.bits)))) (Value.int .u64 ((f + c.toNat % 128 * 128 ^ i : Nat) : Int)) (by kernel_rfl) (congrArg _ (by rw [tmod128]; exact add_acc hf (by omega) (Nat.mod_lt _ (by decide)) h9x))) ?_
        refine wpc_if (((↑c.toNat : Int) < 128)) (by kernel_rfl) (fun hsm => ?_) (fun hsm => ?_)
        · rw [if_neg (by omega)] at hn
          refine wpc_seq ?_
          refine wpc_seq ?_
          refine wpc_region [0, 1, 2, 3, 4, 5] (by kernel_rfl) ?_
          refine wpr_run (l₂ := [3, 4, 5]) true [0, 1, 2] [] ([(43, Value.bool ((↑c.toNat : Int) == 0)), (7, Value.int IntKind.u64 (↑(f + c.toNat % 128 * 128 ^ i) : Int)), (8, Value.int IntKind.i64 (↑i : Int)), (0, Value.string (mkS s)), (1, Value.int IntKind.i64 (↑A : Int)), (4, Value.int IntKind.i64 0), (5, Value.int IntKind.i64 0), (6, Value.int IntKind.i64 0)]) [] [] (by kernel_rfl) (by kernel_rfl) trivial ?_
          refine wpr_case 43 (((↑c.toNat : Int) == 0)) (by kernel_rfl) (fun hz => ?_) (fun hz => ?_)
          · have hc0 : c = 0 := by
              have := eq_of_beq hz
              exact UInt8.toNat_inj.1 (by show c.toNat = 0; omega)
            refine wpr_run (l₂ := []) true [3, 4, 5] [] ([(46, Value.bool (decide ((↑i : Int) > 0))), (7, Value.int IntKind.u64 (↑(f + c.toNat % 128 * 128 ^ i) : Int)), (8, Value.int IntKind.i64 (↑i : Int)), (0, Value.string (mkS s)), (1, Value.int IntKind.i64 (↑A : Int)), (4, Value.int IntKind.i64 0), (5, Value.int IntKind.i64 0), (6, Value.int IntKind.i64 0)]) [] [] (by kernel_rfl) (by kernel_rfl) trivial ?_
            refine wpr_nil ?_
            refine nx_then ?_
            refine wpc_if (((↑i : Int) > 0)) (by kernel_rfl) (fun hi0 => ?_) (fun hi0 => ?_)
            · rw [if_pos ⟨hc0, by omega⟩] at hn
              refine wpc_seq ?_
              refine wpc_region [0, 1, 2] (by kernel_rfl) ?_
              refine wpr_run (l₂ := []) true [0, 1, 2] [] ([(6, Value.int IntKind.i64 4), (5, Value.int IntKind.i64 0), (4, Value.int IntKind.i64 0), (7, Value.int IntKind.u64 (↑(f + c.toNat % 128 * 128 ^ i) : Int)), (8, Value.int IntKind.i64 (↑i : Int)), (0, Value.string (mkS s)), (1, Value.int IntKind.i64 (↑A : Int))]) [] [] (by kernel_rfl) (by kernel_rfl) trivial ?_
              refine wpr_nil ?_
              refine nx_then ?_
              refine wpc_ret ?_
              refine nx_then_ret ?_
              refine nx_block_ret ?_
              refine nx_then_ret ?_
              refine nx_then_ret ?_
              refine nx_block_ret ?_
              refine nx_then_ret ?_
              refine nx_end (hp' := []) (rest := []) [] ((Value.tuple #[Value.int IntKind.i64 0, Value.int IntKind.i64 0, Value.int IntKind.i64 4])) (by kernel_rfl) (by kernel_rfl) give_all (by first | ((repeat (first | exact trivial | refine ⟨trivial, ?_⟩)); done) | assumption) ?_ (.inr rfl)
              exact ⟨by rw [← hn]; rfl, rfl⟩
            · rw [if_neg (fun h => hi0 (by omega))] at hn
              refine wpc_skip ?_
              refine nx_then ?_
              refine wpc_seq ?_
              refine wpc_region [0, 1, 2, 3, 4, 5, 6, 7, 8] (by kernel_rfl) ?_
              refine wpr_run (l₂ := [1, 2, 3, 4, 5, 6, 7, 8]) true [0] [] ([(47, Value.int IntKind.u64 (↑(f + c.toNat % 128 * 128 ^ i) : Int)), (7, Value.int IntKind.u64 (↑(f + c.toNat % 128 * 128 ^ i) : Int)), (8, Value.int IntKind.i64 (↑i : Int)), (0, Value.string (mkS s)), (1, Value.int IntKind.i64 (↑A : Int)), (4, Value.int IntKind.i64 0), (5, Value.int IntKind.i64 0), (6, Value.int IntKind.i64 0)]) [] [] (by kernel_rfl) (by kernel_rfl) trivial ?_
              refine wpr_call_all (dst := some 48) (by kernel_rfl) (runfold_spec (f + c.toNat % 128 * 128 ^ i : Nat) (by omega) (by omega)) give_all ?_
              rintro v hp' ⟨rfl, rfl⟩
              refine wpr_run (l₂ := []) true [2, 3, 4, 5, 6, 7, 8] [] ([(6, Value.int IntKind.i64 0), (5, Value.int IntKind.i64 ((↑A : Int) + (↑i : Int) + 1)), (4, Value.int IntKind.i64 (unfoldN (↑(f + c.toNat % 128 * 128 ^ i) : Int))), (7, Value.int IntKind.u64 (↑(f + c.toNat % 128 * 128 ^ i) : Int)), (8, Value.int IntKind.i64 (↑i : Int)), (0, Value.string (mkS s)), (1, Value.int IntKind.i64 (↑A : Int))]) [] ([inI64 ((↑A : Int) + (↑i : Int)), inI64 ((↑A : Int) + (↑i : Int) + (1 : Int))]) (by kernel_rfl) (by kernel_rfl) ⟨by unfold inI64; omega, by unfold inI64; omega, trivial⟩ ?_
              refine wpr_nil ?_
              refine nx_then ?_
              refine wpc_ret ?_
              refine nx_block_ret ?_
              refine nx_then_ret ?_
              refine nx_then_ret ?_
              refine nx_block_ret ?_
              refine nx_then_ret ?_
              refine nx_end (hp' := []) (rest := []) [] ((Value.tuple #[Value.int IntKind.i64 (unfoldN (↑(f + c.toNat % 128 * 128 ^ i) : Int)), Value.int IntKind.i64 ((↑A : Int) + (↑i : Int) + 1), Value.int IntKind.i64 0])) (by kernel_rfl) (by kernel_rfl) give_all (by first | ((repeat (first | exact trivial | refine ⟨trivial, ?_⟩)); done) | assumption) ?_ (.inr rfl)
              exact ⟨by rw [← hn, if_pos rfl, show (A : Int) + i + 1 = A + (i + 1) by omega], rfl⟩
          · have hc0 : c ≠ 0 := fun e => by
              rw [e] at hz
              simp at hz
            rw [if_neg (fun h => hc0 h.1)] at hn
            refine wpr_run (l₂ := []) true [3, 4, 5] [] ([(46, Value.bool false), (7, Value.int IntKind.u64 (↑(f + c.toNat % 128 * 128 ^ i) : Int)), (8, Value.int IntKind.i64 (↑i : Int)), (0, Value.string (mkS s)), (1, Value.int IntKind.i64 (↑A : Int)), (4, Value.int IntKind.i64 0), (5, Value.int IntKind.i64 0), (6, Value.int IntKind.i64 0)]) [] [] (by kernel_rfl) (by kernel_rfl) trivial ?_
            refine wpr_nil ?_
            refine nx_then ?_
            refine wpc_false (by kernel_rfl) ?_
            refine wpc_skip ?_
            refine nx_then ?_
            refine wpc_seq ?_
            refine wpc_region [0, 1, 2, 3, 4, 5, 6, 7, 8] (by kernel_rfl) ?_
            refine wpr_run (l₂ := [1, 2, 3, 4, 5, 6, 7, 8]) true [0] [] ([(47, Value.int IntKind.u64 (↑(f + c.toNat % 128 * 128 ^ i) : Int)), (7, Value.int IntKind.u64 (↑(f + c.toNat % 128 * 128 ^ i) : Int)), (8, Value.int IntKind.i64 (↑i : Int)), (0, Value.string (mkS s)), (1, Value.int IntKind.i64 (↑A : Int)), (4, Value.int IntKind.i64 0), (5, Value.int IntKind.i64 0), (6, Value.int IntKind.i64 0)]) [] [] (by kernel_rfl) (by kernel_rfl) trivial ?_
            refine wpr_call_all (dst := some 48) (by kernel_rfl) (runfold_spec (f + c.toNat % 128 * 128 ^ i : Nat) (by omega) (by omega)) give_all ?_
            rintro v hp' ⟨rfl, rfl⟩
            refine wpr_run (l₂ := []) true [2, 3, 4, 5, 6, 7, 8] [] ([(6, Value.int IntKind.i64 0), (5, Value.int IntKind.i64 ((↑A : Int) + (↑i : Int) + 1)), (4, Value.int IntKind.i64 (unfoldN (↑(f + c.toNat % 128 * 128 ^ i) : Int))), (7, Value.int IntKind.u64 (↑(f + c.toNat % 128 * 128 ^ i) : Int)), (8, Value.int IntKind.i64 (↑i : Int)), (0, Value.string (mkS s)), (1, Value.int IntKind.i64 (↑A : Int))]) [] ([inI64 ((↑A : Int) + (↑i : Int)), inI64 ((↑A : Int) + (↑i : Int) + (1 : Int))]) (by kernel_rfl) (by kernel_rfl) ⟨by unfold inI64; omega, by unfold inI64; omega, trivial⟩ ?_
            refine wpr_nil ?_
            refine nx_then ?_
            refine wpc_ret ?_
            refine nx_block_ret ?_
            refine nx_then_ret ?_
            refine nx_then_ret ?_
            refine nx_block_ret ?_
            refine nx_then_ret ?_
            refine nx_end (hp' := []) (rest := []) [] ((Value.tuple #[Value.int IntKind.i64 (unfoldN (↑(f + c.toNat % 128 * 128 ^ i) : Int)), Value.int IntKind.i64 ((↑A : Int) + (↑i : Int) + 1), Value.int IntKind.i64 0])) (by kernel_rfl) (by kernel_rfl) give_all (by first | ((repeat (first | exact trivial | refine ⟨trivial, ?_⟩)); done) | assumption) ?_ (.inr rfl)
            exact ⟨by rw [← hn, if_pos rfl, show (A : Int) + i + 1 = A + (i + 1) by omega], rfl⟩
        · rw [if_pos (by omega)] at hn
          refine wpc_skip ?_
          refine nx_block ?_
          refine nx_then ?_
          refine wpc_region [0, 1, 2] (by kernel_rfl) ?_
          refine wpr_run (l₂ := []) true [0, 1, 2] [] ([(8, Value.int IntKind.i64 ((↑i : Int) + 1)), (7, Value.int IntKind.u64 (↑(f + c.toNat % 128 * 128 ^ i) : Int)), (0, Value.string (mkS s)), (1, Value.int IntKind.i64 (↑A : Int)), (4, Value.int IntKind.i64 0), (5, Value.int IntKind.i64 0), (6, Value.int IntKind.i64 0)]) [] ([inI64 ((↑i : Int) + (1 : Int))]) (by kernel_rfl) (by kernel_rfl) ⟨by unfold inI64; omega, trivial⟩ ?_
          refine wpr_nil ?_
          exact fun a' w hS => ⟨⟨i + 1, f + c.toNat % 128 * 128 ^ i, by omega, by omega, by
            have : c.toNat % 128 * 128 ^ i ≤ 127 * 128 ^ i := Nat.mul_le_mul_right _ (by omega)
            rw [Nat.pow_succ]; omega, by rw [show 10 - (i + 1) = 9 - i by omega, ← Nat.add_assoc]; exact hn⟩, by dsimp only; omega, ent_fr (by kernel_rfl) _ _ hS⟩
  · refine wpc_exit ?_
    refine nx_then_exit ?_
    refine nx_then_exit ?_
    refine nx_block_here ?_
    refine nx_then ?_
    refine wpc_seq ?_
    refine wpc_region [0, 1, 2] (by kernel_rfl) ?_
    refine wpr_run (l₂ := []) true [0, 1, 2] [] [(6, Value.int IntKind.i64 4), (5, Value.int IntKind.i64 0), (4, Value.int IntKind.i64 0)] [] [] (by kernel_rfl) (by kernel_rfl) trivial ?_
    refine wpr_nil ?_
    refine nx_then ?_
    refine wpc_ret ?_
    refine nx_end (hp' := []) (rest := []) [] ((Value.tuple #[Value.int IntKind.i64 0, Value.int IntKind.i64 0, Value.int IntKind.i64 4])) (by kernel_rfl) (by kernel_rfl) give_all (by first | ((repeat (first | exact trivial | refine ⟨trivial, ?_⟩)); done) | assumption) ?_ (.inr rfl)
    refine ⟨?_, rfl⟩
    rw [show 10 - i = 0 by omega] at hn
    rw [← hn]; rfl

theorem rwrong_spec (s : List UInt8) (A e x : Int) : Does Try.prog 41 [rrd s A e, .int .i64 x] [] (fun v hp' => v = rrd s A x ∧ hp' = []) := by
  unfold rrd
  refine fn_enter Try.func41 rfl 8 rfl fun w0 h0 => ?_
  refine wpc_seq ?_
  refine wpc_region [0, 1] (by kernel_rfl) ?_
  refine wpr_new (l₂ := [1]) true [0] [] (fun g1 => [(2, Value.pointer (some { block := g1, off := 0 })), (1, Value.int IntKind.i64 x)]) (fun g1 => [Ch.blk g1 66 [Value.string (mkS s), Value.int IntKind.i64 A, Value.int IntKind.i64 e]]) (fun g1 => []) (fun g1 => by kernel_rfl) (fun g1 => by kernel_rfl) (fun g1 => trivial) fun g1 => ?_
  refine wpr_new (l₂ := []) true [1] [] (fun g2 => [(4, Value.pointer (some { block := g2, off := 0 })), (2, Value.pointer (some { block := g1, off := 0 })), (1, Value.int IntKind.i64 x)]) (fun g2 => [Ch.blk g1 66 [Value.string (mkS s), Value.int IntKind.i64 A, Value.int IntKind.i64 e], Ch.blk g2 66 [Value.string { data := #[] }, Value.int IntKind.i64 0, Value.int IntKind.i64 0]]) (fun g2 => []) (fun g2 => by kernel_rfl) (fun g2 => by kernel_rfl) (fun g2 => trivial) fun g2 => ?_
  refine wpr_nil ?_
  refine nx_then ?_
  refine wpc_seq ?_
  refine wpc_region [0, 1, 2] (by kernel_rfl) ?_
  refine wpr_run (l₂ := []) true [0, 1, 2] [0] [(4, Value.pointer (some { block := g2, off := 0 })), (2, Value.pointer (some { block := g1, off := 0 }))] [Ch.blk g1 66 [Value.string (mkS s), Value.int IntKind.i64 A, Value.int IntKind.i64 x], Ch.blk g2 66 [Value.string { data := #[] }, Value.int IntKind.i64 0, Value.int IntKind.i64 0]] [] (by kernel_rfl) (by kernel_rfl) trivial ?_
  refine wpr_nil ?_
  refine nx_then ?_
  refine wpc_seq ?_
  refine wpc_region [0, 1] (by kernel_rfl) ?_
  refine wpr_run (l₂ := []) true [0, 1] [0, 0, 0, 1, 1, 1] [(4, Value.pointer (some { block := g2, off := 0 }))] [Ch.blk g1 66 [Value.string (mkS s), Value.int IntKind.i64 A, Value.int IntKind.i64 x], Ch.blk g2 66 [Value.string (mkS s), Value.int IntKind.i64 A, Value.int IntKind.i64 x]] [] (by kernel_rfl) (by kernel_rfl) trivial ?_
  refine wpr_nil ?_
  refine nx_then ?_
  refine wpc_ret ?_
  refine nx_end (hp' := []) (rest := [Ch.blk g1 66 [Value.string (mkS s), Value.int IntKind.i64 A, Value.int IntKind.i64 x], Ch.blk g2 66 [Value.string (mkS s), Value.int IntKind.i64 A, Value.int IntKind.i64 x]]) [1, 1, 1] ((Value.agg #[Value.string (mkS s), Value.int IntKind.i64 A, Value.int IntKind.i64 x])) (by kernel_rfl) (by kernel_rfl) (give [] (by kernel_rfl)) (by first | ((repeat (first | exact trivial | refine ⟨trivial, ?_⟩)); done) | assumption) ?_ (.inr rfl)
  exact ⟨rfl, rfl⟩

theorem cnt_eq {s : List UInt8} (most : Int) {x u y : Int} (h : num s = (x, u, y)) : cnt s most = if y ≠ 0 then (0, 0, y) else if x < 0 then (0, 0, 4) else if x > max 0 most then (0, 0, 5) else (x, u, 0) := by unfold cnt; rw [h]

theorem rCount_spec (s : List UInt8) (A : Nat) (e most : Int) (hA : A ≤ s.length) (hl : s.length ≤ 1099511627776) :
    Does Try.prog 32 [rrd s A e, .int .i64 most] [] (fun v hp' => v = .tuple #[rrd s (rd 0 A e (cnt (s.drop A) most)).2.1 (rd 0 A e (cnt (s.drop A) most)).2.2, .int .i64 (rd 0 A e (cnt (s.drop A) most)).1] ∧ hp' = []) := by
  have hok := num_ok (s.drop A)
  unfold rrd rd
  refine fn_enter Try.func32 rfl 41 rfl fun w0 h0 => ?_
  refine wpc_seq ?_
  refine wpc_region [0, 1, 2] (by kernel_rfl) ?_
  refine wpr_new (l₂ := [1, 2]) true [0] [] (fun g1 => [(2, Value.pointer (some { block := g1, off := 0 })), (1, Value.int IntKind.i64 most)]) (fun g1 => [Ch.blk g1 66 [Value.string (mkS s), Value.int IntKind.i64 (↑A : Int), Value.int IntKind.i64 e]]) (fun g1 => []) (fun g1 => by kernel_rfl) (fun g1 => by kernel_rfl) (fun g1 => trivial) fun g1 => ?_
  refine wpr_new (l₂ := [2]) true [1] [] (fun g2 => [(4, Value.pointer (some { block := g2, off := 0 })), (2, Value.pointer (some { block := g1, off := 0 })), (1, Value.int IntKind.i64 most)]) (fun g2 => [Ch.blk g1 66 [Value.string (mkS s), Value.int IntKind.i64 (↑A : Int), Value.int IntKind.i64 e], Ch.blk g2 66 [Value.string { data := #[] }, Value.int IntKind.i64 0, Value.int IntKind.i64 0]]) (fun g2 => []) (fun g2 => by kernel_rfl) (fun g2 => by kernel_rfl) (fun g2 => trivial) fun g2 => ?_
  refine wpr_run (l₂ := []) true [2] [] [(5, Value.int IntKind.i64 0), (4, Value.pointer (some { block := g2, off := 0 })), (2, Value.pointer (some { block := g1, off := 0 })), (1, Value.int IntKind.i64 most)] [Ch.blk g1 66 [Value.string (mkS s), Value.int IntKind.i64 (↑A : Int), Value.int IntKind.i64 e], Ch.blk g2 66 [Value.string { data := #[] }, Value.int IntKind.i64 0, Value.int IntKind.i64 0]] [] (by kernel_rfl) (by kernel_rfl) trivial ?_
  refine wpr_nil ?_
  refine nx_then ?_
  refine wpc_seq ?_
  refine wpc_seq ?_
  refine wpc_region [0, 1, 2] (by kernel_rfl) ?_
  refine wpr_run (l₂ := []) true [0, 1, 2] [0] [(11, Value.bool (e != 0)), (5, Value.int IntKind.i64 0), (4, Value.pointer (some { block := g2, off := 0 })), (2, Value.pointer (some { block := g1, off := 0 })), (1, Value.int IntKind.i64 most)] [Ch.blk g1 66 [Value.string (mkS s), Value.int IntKind.i64 (↑A : Int), Value.int IntKind.i64 e], Ch.blk g2 66 [Value.string { data := #[] }, Value.int IntKind.i64 0, Value.int IntKind.i64 0]] [] (by kernel_rfl) (by kernel_rfl) trivial ?_
  refine wpr_nil ?_
  refine nx_then ?_
  refine wpc_cond ((e != 0)) (by kernel_rfl) (fun he => ?_) (fun he => ?_)
  · have he' : e ≠ 0 := by simpa using he
    rw [if_pos he']
    refine wpc_seq ?_
    refine wpc_region [0, 1, 2] (by kernel_rfl) ?_
    refine wpr_run (l₂ := []) true [0, 1, 2] [0, 0, 0, 1, 1, 1] [(5, Value.int IntKind.i64 0), (4, Value.pointer (some { block := g2, off := 0 })), (2, Value.pointer (some { block := g1, off := 0 })), (1, Value.int IntKind.i64 most)] [Ch.blk g1 66 [Value.string (mkS s), Value.int IntKind.i64 (↑A : Int), Value.int IntKind.i64 e], Ch.blk g2 66 [Value.string (mkS s), Value.int IntKind.i64 (↑A : Int), Value.int IntKind.i64 e]] [] (by kernel_rfl) (by kernel_rfl) trivial ?_
    refine wpr_nil ?_
    refine nx_then ?_
    refine wpc_ret ?_
    refine nx_then_ret ?_
    refine nx_end (hp' := []) (rest := [Ch.blk g1 66 [Value.string (mkS s), Value.int IntKind.i64 (↑A : Int), Value.int IntKind.i64 e], Ch.blk g2 66 [Value.string (mkS s), Value.int IntKind.i64 (↑A : Int), Value.int IntKind.i64 e]]) [1, 1, 1] ((Value.tuple #[Value.agg #[Value.string (mkS s), Value.int IntKind.i64 (↑A : Int), Value.int IntKind.i64 e], Value.int IntKind.i64 0])) (by kernel_rfl) (by kernel_rfl) (give [] (by kernel_rfl)) (by first | ((repeat (first | exact trivial | refine ⟨trivial, ?_⟩)); done) | assumption) ?_ (.inr rfl)
    exact ⟨rfl, rfl⟩
  · have he' : ¬ e ≠ 0 := by simpa using he
    obtain rfl : e = 0 := Classical.not_not.1 he'
    rw [if_neg he']
    refine wpc_skip ?_
    refine nx_then ?_
    refine wpc_seq ?_
    refine wpc_region [0, 1, 2, 3, 4, 5, 6, 7, 8, 9, 10, 11] (by kernel_rfl) ?_
    refine wpr_run (l₂ := [4, 5, 6, 7, 8, 9, 10, 11]) true [0, 1, 2, 3] [0, 0] [(17, Value.int IntKind.i64 (↑A : Int)), (15, Value.string (mkS s)), (5, Value.int IntKind.i64 0), (4, Value.pointer (some { block := g2, off := 0 })), (2, Value.pointer (some { block := g1, off := 0 })), (1, Value.int IntKind.i64 most)] [Ch.blk g1 66 [Value.string (mkS s), Value.int IntKind.i64 (↑A : Int), Value.int IntKind.i64 0], Ch.blk g2 66 [Value.string { data := #[] }, Value.int IntKind.i64 0, Value.int IntKind.i64 0]] [] (by kernel_rfl) (by kernel_rfl) trivial ?_
    refine wpr_call (dst := some 18) (rest := [Ch.blk g1 66 [Value.string (mkS s), Value.int IntKind.i64 (↑A : Int), Value.int IntKind.i64 0], Ch.blk g2 66 [Value.string { data := #[] }, Value.int IntKind.i64 0, Value.int IntKind.i64 0]]) (by kernel_rfl) (rnumber_spec s A hA hl) (give [] (by kernel_rfl)) ?_
    rintro v hp' ⟨rfl, rfl⟩
    obtain ⟨x, u, y, hx⟩ : ∃ x u y, (num (s.drop A)) = (x, u, y) := ⟨_, _, _, rfl⟩
    have hC := cnt_eq most hx
    rw [hx] at hok ⊢
    dsimp only at hok ⊢
    refine wpr_run (l₂ := []) true [5, 6, 7, 8, 9, 10, 11] [] ([(8, Value.int IntKind.i64 y), (7, Value.int IntKind.i64 (if y = 0 then (↑A : Int) + u else 0)), (6, Value.int IntKind.i64 x), (5, Value.int IntKind.i64 0), (4, Value.pointer (some { block := g2, off := 0 })), (2, Value.pointer (some { block := g1, off := 0 })), (1, Value.int IntKind.i64 most)]) [Ch.blk g1 66 [Value.string (mkS s), Value.int IntKind.i64 (↑A : Int), Value.int IntKind.i64 0], Ch.blk g2 66 [Value.string { data := #[] }, Value.int IntKind.i64 0, Value.int IntKind.i64 0]] [] (by kernel_rfl) (by kernel_rfl) trivial ?_
    refine wpr_nil ?_
    refine nx_then ?_
    refine wpc_seq ?_
    refine wpc_seq ?_
    refine wpc_region [0, 1] (by kernel_rfl) ?_
    refine wpr_run (l₂ := []) true [0, 1] [] ([(23, Value.bool (y != 0)), (8, Value.int IntKind.i64 y), (7, Value.int IntKind.i64 (if y = 0 then (↑A : Int) + u else 0)), (6, Value.int IntKind.i64 x), (5, Value.int IntKind.i64 0), (4, Value.pointer (some { block := g2, off := 0 })), (2, Value.pointer (some { block := g1, off := 0 })), (1, Value.int IntKind.i64 most)]) [Ch.blk g1 66 [Value.string (mkS s), Value.int IntKind.i64 (↑A : Int), Value.int IntKind.i64 0], Ch.blk g2 66 [Value.string { data := #[] }, Value.int IntKind.i64 0, Value.int IntKind.i64 0]] [] (by kernel_rfl) (by kernel_rfl) trivial ?_
    refine wpr_nil ?_
    refine nx_then ?_
    refine wpc_cond ((y != 0)) (by kernel_rfl) (fun hy => ?_) (fun hy => ?_)
    · have hy' : y ≠ 0 := by simpa using hy
      rw [if_pos hy'] at hC
      rw [hC, if_pos hy']
      refine wpc_seq ?_
      refine wpc_region [0, 1, 2, 3, 4] (by kernel_rfl) ?_
      refine wpr_run (l₂ := [2, 3, 4]) true [0, 1] [0, 0, 0] ([(25, Value.int IntKind.i64 y), (24, Value.agg #[Value.string (mkS s), Value.int IntKind.i64 (↑A : Int), Value.int IntKind.i64 0]), (7, Value.int IntKind.i64 (if y = 0 then (↑A : Int) + u else 0)), (6, Value.int IntKind.i64 x), (5, Value.int IntKind.i64 0), (4, Value.pointer (some { block := g2, off := 0 })), (2, Value.pointer (some { block := g1, off := 0 })), (1, Value.int IntKind.i64 most)]) [Ch.blk g1 66 [Value.string (mkS s), Value.int IntKind.i64 (↑A : Int), Value.int IntKind.i64 0], Ch.blk g2 66 [Value.string { data := #[] }, Value.int IntKind.i64 0, Value.int IntKind.i64 0]] [] (by kernel_rfl) (by kernel_rfl) trivial ?_
      refine wpr_call (dst := some 26) (rest := [Ch.blk g1 66 [Value.string (mkS s), Value.int IntKind.i64 (↑A : Int), Value.int IntKind.i64 0], Ch.blk g2 66 [Value.string { data := #[] }, Value.int IntKind.i64 0, Value.int IntKind.i64 0]]) (by kernel_rfl) (rwrong_spec s A 0 y) (give [] (by kernel_rfl)) ?_
      rintro v hp' ⟨rfl, rfl⟩
      unfold rrd
      refine wpr_run (l₂ := []) true [3, 4] [1, 1, 1] ([(5, Value.int IntKind.i64 0), (7, Value.int IntKind.i64 (if y = 0 then (↑A : Int) + u else 0)), (6, Value.int IntKind.i64 x), (4, Value.pointer (some { block := g2, off := 0 })), (2, Value.pointer (some { block := g1, off := 0 })), (1, Value.int IntKind.i64 most)]) [Ch.blk g1 66 [Value.string (mkS s), Value.int IntKind.i64 (↑A : Int), Value.int IntKind.i64 0], Ch.blk g2 66 [Value.string (mkS s), Value.int IntKind.i64 (↑A : Int), Value.int IntKind.i64 y]] [] (by kernel_rfl) (by kernel_rfl) trivial ?_
      refine wpr_nil ?_
      refine nx_then ?_
      refine wpc_ret ?_
      refine nx_then_ret ?_
      refine nx_end (hp' := []) (rest := [Ch.blk g1 66 [Value.string (mkS s), Value.int IntKind.i64 (↑A : Int), Value.int IntKind.i64 0], Ch.blk g2 66 [Value.string (mkS s), Value.int IntKind.i64 (↑A : Int), Value.int IntKind.i64 y]]) [1, 1, 1] ((Value.tuple #[Value.agg #[Value.string (mkS s), Value.int IntKind.i64 (↑A : Int), Value.int IntKind.i64 y], Value.int IntKind.i64 0])) (by kernel_rfl) (by kernel_rfl) (give [] (by kernel_rfl)) (by first | ((repeat (first | exact trivial | refine ⟨trivial, ?_⟩)); done) | assumption) ?_ (.inr rfl)
      exact ⟨rfl, rfl⟩
    · have hy' : ¬ y ≠ 0 := by simpa using hy
      obtain rfl : y = 0 := Classical.not_not.1 hy'
      rw [if_neg hy'] at hC
      rw [if_pos rfl]
      refine wpc_skip ?_
      refine nx_then ?_
      refine wpc_seq ?_
      refine wpc_seq ?_
      refine wpc_region [0, 1] (by kernel_rfl) ?_
      refine wpr_run (l₂ := []) true [0, 1] [] ([(28, Value.bool (decide (x < 0))), (7, Value.int IntKind.i64 ((↑A : Int) + u)), (6, Value.int IntKind.i64 x), (5, Value.int IntKind.i64 0), (4, Value.pointer (some { block := g2, off := 0 })), (2, Value.pointer (some { block := g1, off := 0 })), (1, Value.int IntKind.i64 most)]) [Ch.blk g1 66 [Value.string (mkS s), Value.int IntKind.i64 (↑A : Int), Value.int IntKind.i64 0], Ch.blk g2 66 [Value.string { data := #[] }, Value.int IntKind.i64 0, Value.int IntKind.i64 0]] [] (by kernel_rfl) (by kernel_rfl) trivial ?_
      refine wpr_nil ?_
      refine nx_then ?_
      refine wpc_if ((x < 0)) (by kernel_rfl) (fun h2 => ?_) (fun h2 => ?_)
      · rw [if_pos h2] at hC
        rw [hC]
        dsimp only
        rw [if_pos (show (4 : Int) ≠ 0 by decide)]
        refine wpc_seq ?_
        refine wpc_region [0, 1, 2, 3] (by kernel_rfl) ?_
        refine wpr_run (l₂ := [1, 2, 3]) true [0] [0, 0, 0] ([(29, Value.agg #[Value.string (mkS s), Value.int IntKind.i64 (↑A : Int), Value.int IntKind.i64 0]), (7, Value.int IntKind.i64 ((↑A : Int) + u)), (6, Value.int IntKind.i64 x), (5, Value.int IntKind.i64 0), (4, Value.pointer (some { block := g2, off := 0 })), (2, Value.pointer (some { block := g1, off := 0 })), (1, Value.int IntKind.i64 most)]) [Ch.blk g1 66 [Value.string (mkS s), Value.int IntKind.i64 (↑A : Int), Value.int IntKind.i64 0], Ch.blk g2 66 [Value.string { data := #[] }, Value.int IntKind.i64 0, Value.int IntKind.i64 0]] [] (by kernel_rfl) (by kernel_rfl) trivial ?_
        refine wpr_call (dst := some 30) (rest := [Ch.blk g1 66 [Value.string (mkS s), Value.int IntKind.i64 (↑A : Int), Value.int IntKind.i64 0], Ch.blk g2 66 [Value.string { data := #[] }, Value.int IntKind.i64 0, Value.int IntKind.i64 0]]) (by kernel_rfl) (rwrong_spec s A 0 4) (give [] (by kernel_rfl)) ?_
        rintro v hp' ⟨rfl, rfl⟩
        unfold rrd
        refine wpr_run (l₂ := []) true [2, 3] [1, 1, 1] ([(5, Value.int IntKind.i64 0), (7, Value.int IntKind.i64 ((↑A : Int) + u)), (6, Value.int IntKind.i64 x), (4, Value.pointer (some { block := g2, off := 0 })), (2, Value.pointer (some { block := g1, off := 0 })), (1, Value.int IntKind.i64 most)]) [Ch.blk g1 66 [Value.string (mkS s), Value.int IntKind.i64 (↑A : Int), Value.int IntKind.i64 0], Ch.blk g2 66 [Value.string (mkS s), Value.int IntKind.i64 (↑A : Int), Value.int IntKind.i64 4]] [] (by kernel_rfl) (by kernel_rfl) trivial ?_
        refine wpr_nil ?_
        refine nx_then ?_
        refine wpc_ret ?_
        refine nx_then_ret ?_
        refine nx_end (hp' := []) (rest := [Ch.blk g1 66 [Value.string (mkS s), Value.int IntKind.i64 (↑A : Int), Value.int IntKind.i64 0], Ch.blk g2 66 [Value.string (mkS s), Value.int IntKind.i64 (↑A : Int), Value.int IntKind.i64 4]]) [1, 1, 1] ((Value.tuple #[Value.agg #[Value.string (mkS s), Value.int IntKind.i64 (↑A : Int), Value.int IntKind.i64 4], Value.int IntKind.i64 0])) (by kernel_rfl) (by kernel_rfl) (give [] (by kernel_rfl)) (by first | ((repeat (first | exact trivial | refine ⟨trivial, ?_⟩)); done) | assumption) ?_ (.inr rfl)
        exact ⟨rfl, rfl⟩
      · rw [if_neg h2] at hC
        refine wpc_skip ?_
        refine nx_then ?_
        refine wpc_seq ?_
        refine wpc_seq ?_
        refine wpc_region [0, 1, 2, 3] (by kernel_rfl) ?_
        refine wpr_run (l₂ := []) true [0, 1, 2, 3] [] ([(34, Value.bool (decide (x > if most > 0 then most else 0))), (7, Value.int IntKind.i64 ((↑A : Int) + u)), (6, Value.int IntKind.i64 x), (5, Value.int IntKind.i64 0), (4, Value.pointer (some { block := g2, off := 0 })), (2, Value.pointer (some { block := g1, off := 0 }))]) [Ch.blk g1 66 [Value.string (mkS s), Value.int IntKind.i64 (↑A : Int), Value.int IntKind.i64 0], Ch.blk g2 66 [Value.string { data := #[] }, Value.int IntKind.i64 0, Value.int IntKind.i64 0]] [] (by kernel_rfl) (by kernel_rfl) trivial ?_
        refine wpr_nil ?_
        refine nx_then ?_
        have hmx : (if most > 0 then most else 0) = max 0 most := by split <;> omega
        refine wpc_if ((x > if most > 0 then most else 0)) (by kernel_rfl) (fun h3 => ?_) (fun h3 => ?_)
        · rw [if_pos (show x > max 0 most by rw [← hmx]; exact h3)] at hC
          rw [hC]
          dsimp only
          rw [if_pos (show (5 : Int) ≠ 0 by decide)]
          refine wpc_seq ?_
          refine wpc_region [0, 1, 2, 3] (by kernel_rfl) ?_
          refine wpr_run (l₂ := [1, 2, 3]) true [0] [0, 0, 0] ([(35, Value.agg #[Value.string (mkS s), Value.int IntKind.i64 (↑A : Int), Value.int IntKind.i64 0]), (7, Value.int IntKind.i64 ((↑A : Int) + u)), (6, Value.int IntKind.i64 x), (5, Value.int IntKind.i64 0), (4, Value.pointer (some { block := g2, off := 0 })), (2, Value.pointer (some { block := g1, off := 0 }))]) [Ch.blk g1 66 [Value.string (mkS s), Value.int IntKind.i64 (↑A : Int), Value.int IntKind.i64 0], Ch.blk g2 66 [Value.string { data := #[] }, Value.int IntKind.i64 0, Value.int IntKind.i64 0]] [] (by kernel_rfl) (by kernel_rfl) trivial ?_
          refine wpr_call (dst := some 36) (rest := [Ch.blk g1 66 [Value.string (mkS s), Value.int IntKind.i64 (↑A : Int), Value.int IntKind.i64 0], Ch.blk g2 66 [Value.string { data := #[] }, Value.int IntKind.i64 0, Value.int IntKind.i64 0]]) (by kernel_rfl) (rwrong_spec s A 0 5) (give [] (by kernel_rfl)) ?_
          rintro v hp' ⟨rfl, rfl⟩
          unfold rrd
          refine wpr_run (l₂ := []) true [2, 3] [1, 1, 1] ([(5, Value.int IntKind.i64 0), (7, Value.int IntKind.i64 ((↑A : Int) + u)), (6, Value.int IntKind.i64 x), (4, Value.pointer (some { block := g2, off := 0 })), (2, Value.pointer (some { block := g1, off := 0 }))]) [Ch.blk g1 66 [Value.string (mkS s), Value.int IntKind.i64 (↑A : Int), Value.int IntKind.i64 0], Ch.blk g2 66 [Value.string (mkS s), Value.int IntKind.i64 (↑A : Int), Value.int IntKind.i64 5]] [] (by kernel_rfl) (by kernel_rfl) trivial ?_
          refine wpr_nil ?_
          refine nx_then ?_
          refine wpc_ret ?_
          refine nx_then_ret ?_
          refine nx_end (hp' := []) (rest := [Ch.blk g1 66 [Value.string (mkS s), Value.int IntKind.i64 (↑A : Int), Value.int IntKind.i64 0], Ch.blk g2 66 [Value.string (mkS s), Value.int IntKind.i64 (↑A : Int), Value.int IntKind.i64 5]]) [1, 1, 1] ((Value.tuple #[Value.agg #[Value.string (mkS s), Value.int IntKind.i64 (↑A : Int), Value.int IntKind.i64 5], Value.int IntKind.i64 0])) (by kernel_rfl) (by kernel_rfl) (give [] (by kernel_rfl)) (by first | ((repeat (first | exact trivial | refine ⟨trivial, ?_⟩)); done) | assumption) ?_ (.inr rfl)
          exact ⟨rfl, rfl⟩
        · rw [if_neg (show ¬ x > max 0 most by rw [← hmx]; exact h3)] at hC
          rw [hC]
          have hAu : ((A + u.toNat : Nat) : Int) = A + u := by omega
          dsimp only
          rw [if_neg (show ¬ (0 : Int) ≠ 0 by decide), hAu]
          refine wpc_skip ?_
          refine nx_then ?_
          refine wpc_seq ?_
          refine wpc_region [0, 1, 2] (by kernel_rfl) ?_
          refine wpr_run (l₂ := []) true [0, 1, 2] [0] [(6, Value.int IntKind.i64 x), (5, Value.int IntKind.i64 0), (4, Value.pointer (some { block := g2, off := 0 })), (2, Value.pointer (some { block := g1, off := 0 }))] ([Ch.blk g1 66 [Value.string (mkS s), Value.int IntKind.i64 ((↑A : Int) + u), Value.int IntKind.i64 0], Ch.blk g2 66 [Value.string { data := #[] }, Value.int IntKind.i64 0, Value.int IntKind.i64 0]]) [] (by kernel_rfl) (by kernel_rfl) trivial ?_
          refine wpr_nil ?_
          refine nx_then ?_
          refine wpc_seq ?_
          refine wpc_region [0, 1, 2, 3] (by kernel_rfl) ?_
          refine wpr_run (l₂ := []) true [0, 1, 2, 3] [0, 0, 0, 1, 1, 1] [(5, Value.int IntKind.i64 x), (4, Value.pointer (some { block := g2, off := 0 }))] ([Ch.blk g1 66 [Value.string (mkS s), Value.int IntKind.i64 ((↑A : Int) + u), Value.int IntKind.i64 0], Ch.blk g2 66 [Value.string (mkS s), Value.int IntKind.i64 ((↑A : Int) + u), Value.int IntKind.i64 0]]) [] (by kernel_rfl) (by kernel_rfl) trivial ?_
          refine wpr_nil ?_
          refine nx_then ?_
          refine wpc_ret ?_
          refine nx_end (hp' := []) (rest := ([Ch.blk g1 66 [Value.string (mkS s), Value.int IntKind.i64 ((↑A : Int) + u), Value.int IntKind.i64 0], Ch.blk g2 66 [Value.string (mkS s), Value.int IntKind.i64 ((↑A : Int) + u), Value.int IntKind.i64 0]])) [1, 1, 1] ((Value.tuple #[Value.agg #[Value.string (mkS s), Value.int IntKind.i64 ((↑A : Int) + u), Value.int IntKind.i64 0], Value.int IntKind.i64 x])) (by kernel_rfl) (by kernel_rfl) (give [] (by kernel_rfl)) (by first | ((repeat (first | exact trivial | refine ⟨trivial, ?_⟩)); done) | assumption) ?_ (.inr rfl)
          exact ⟨rfl, rfl⟩

theorem txt_eq {s : List UInt8} (most : Int) {n u e : Int} (h : cnt s most = (n, u, e)) : txt s most = if e ≠ 0 then ([], 0, e) else if n > s.length - u then ([], 0, 3) else ((s.drop u.toNat).take n.toNat, u + n, 0) := by unfold txt; rw [h]

end Go.Proofs.Ytmjhcadciblcdaa
