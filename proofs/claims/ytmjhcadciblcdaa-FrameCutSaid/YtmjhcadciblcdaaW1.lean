import Derived.Test.YtmjhcadciblcdaaProg
import Derived.Test.YtmjhcadciblcdaaX13
namespace Go.Proofs.Ytmjhcadciblcdaa
open Go Go.Sx
set_option linter.unusedVariables false
set_option linter.unusedSimpArgs false

theorem fold_spec (n : Int) (h1 : -9223372036854775808 ≤ n) (h2 : n ≤ 9223372036854775807) : Does Try.prog 34 [.int .i64 n] [] (fun v hp' => v = .int .u64 (foldN n) ∧ hp' = []) := by
  refine fn_enter Try.func34 rfl 10 rfl fun w0 h0 => ?_
  refine wpc_seq ?_
  refine wpc_region [0] (by kernel_rfl) ?_
  refine wpr_run (l₂ := []) true [0] [] [(2, Value.int IntKind.u64 0), (0, Value.int IntKind.i64 n)] [] [] (by kernel_rfl) (by kernel_rfl) trivial ?_
  refine wpr_nil ?_
  refine nx_then ?_
  refine wpc_seq ?_
  refine wpc_region [0, 1, 2, 3, 4, 5, 6, 7] (by kernel_rfl) ?_
  refine wpr_run (l₂ := []) true [0, 1, 2, 3, 4, 5, 6, 7] [] [(2, Value.int IntKind.u64 (IntKind.u64.wrap (↑(BitVec.ofInt IntKind.u64.bits (IntKind.u64.wrap (IntKind.u64.wrap n * 2 ^ min (Int.toNat 1) IntKind.u64.bits)) ^^^ BitVec.ofInt IntKind.u64.bits (IntKind.u64.wrap (n.fdiv (2 ^ min (Int.toNat 63) IntKind.i64.bits)))).toNat : Int)))] [] [(0 : Int) ≤ (1 : Int), (0 : Int) ≤ (63 : Int)] (by kernel_rfl) (by kernel_rfl) ⟨by omega, by omega, trivial⟩ ?_
  refine wpr_nil ?_
  refine nx_then ?_
  refine wpc_ret ?_
  refine nx_end (hp' := []) (rest := []) [] ((Value.int IntKind.u64 (IntKind.u64.wrap (↑(BitVec.ofInt IntKind.u64.bits (IntKind.u64.wrap (IntKind.u64.wrap n * 2 ^ min (Int.toNat 1) IntKind.u64.bits)) ^^^ BitVec.ofInt IntKind.u64.bits (IntKind.u64.wrap (n.fdiv (2 ^ min (Int.toNat 63) IntKind.i64.bits)))).toNat : Int)))) (by kernel_rfl) (by kernel_rfl) give_all (by first | ((repeat (first | exact trivial | refine ⟨trivial, ?_⟩)); done) | assumption) ?_ (.inr rfl)
  exact ⟨congrArg _ (fold_math n h1 h2), rfl⟩

theorem unfold_spec (n : Int) (h1 : 0 ≤ n) (h2 : n < 18446744073709551616) : Does Try.prog 46 [.int .u64 n] [] (fun v hp' => v = .int .i64 (unfoldN n) ∧ hp' = []) := by
  refine fn_enter Try.func46 rfl 11 rfl fun w0 h0 => ?_
  refine wpc_seq ?_
  refine wpc_region [0] (by kernel_rfl) ?_
  refine wpr_run (l₂ := []) true [0] [] [(2, Value.int IntKind.i64 0), (0, Value.int IntKind.u64 n)] [] [] (by kernel_rfl) (by kernel_rfl) trivial ?_
  refine wpr_nil ?_
  refine nx_then ?_
  refine wpc_seq ?_
  refine wpc_region [0, 1, 2, 3, 4, 5, 6, 7, 8] (by kernel_rfl) ?_
  refine wpr_run (l₂ := []) true [0, 1, 2, 3, 4, 5, 6, 7, 8] [] [(2, Value.int IntKind.i64 (IntKind.i64.wrap (↑(BitVec.ofInt IntKind.i64.bits (IntKind.i64.wrap (n.fdiv (2 ^ min (Int.toNat 1) IntKind.u64.bits))) ^^^ BitVec.ofInt IntKind.i64.bits (IntKind.i64.wrap (0 - IntKind.i64.wrap (IntKind.u64.wrap (↑(BitVec.ofInt IntKind.u64.bits n &&& BitVec.ofInt IntKind.u64.bits 1).toNat : Int))))).toNat : Int)))] [] [(0 : Int) ≤ (1 : Int)] (by kernel_rfl) (by kernel_rfl) ⟨by omega, trivial⟩ ?_
  refine wpr_nil ?_
  refine nx_then ?_
  refine wpc_ret ?_
  refine nx_end (hp' := []) (rest := []) [] ((Value.int IntKind.i64 (IntKind.i64.wrap (↑(BitVec.ofInt IntKind.i64.bits (IntKind.i64.wrap (n.fdiv (2 ^ min (Int.toNat 1) IntKind.u64.bits))) ^^^ BitVec.ofInt IntKind.i64.bits (IntKind.i64.wrap (0 - IntKind.i64.wrap (IntKind.u64.wrap (↑(BitVec.ofInt IntKind.u64.bits n &&& BitVec.ofInt IntKind.u64.bits 1).toNat : Int))))).toNat : Int)))) (by kernel_rfl) (by kernel_rfl) give_all (by first | ((repeat (first | exact trivial | refine ⟨trivial, ?_⟩)); done) | assumption) ?_ (.inr rfl)
  exact ⟨congrArg _ (unfold_math n h1 h2), rfl⟩

theorem rfold_spec (n : Int) (h1 : -9223372036854775808 ≤ n) (h2 : n ≤ 9223372036854775807) : Does Try.prog 43 [.int .i64 n] [] (fun v hp' => v = .int .u64 (foldN n) ∧ hp' = []) := by
  refine fn_enter Try.func43 rfl 14 rfl fun w0 h0 => ?_
  refine wpc_seq ?_
  refine wpc_region [0] (by kernel_rfl) ?_
  refine wpr_run (l₂ := []) true [0] [] [(2, Value.int IntKind.u64 0), (0, Value.int IntKind.i64 n)] [] [] (by kernel_rfl) (by kernel_rfl) trivial ?_
  refine wpr_nil ?_
  refine nx_then ?_
  refine wpc_seq ?_
  refine wpc_seq ?_
  refine wpc_region [0, 1] (by kernel_rfl) ?_
  refine wpr_run (l₂ := []) true [0, 1] [] [(4, Value.bool (decide (n < 0))), (2, Value.int IntKind.u64 0), (0, Value.int IntKind.i64 n)] [] [] (by kernel_rfl) (by kernel_rfl) trivial ?_
  refine wpr_nil ?_
  refine nx_then ?_
  refine wpc_if ((n < 0)) (by kernel_rfl) (fun h => ?_) (fun h => ?_)
  · refine wpc_seq ?_
    refine wpc_region [0, 1, 2, 3, 4, 5, 6] (by kernel_rfl) ?_
    refine wpr_run (l₂ := []) true [0, 1, 2, 3, 4, 5, 6] [] ([(2, Value.int IntKind.u64 (IntKind.u64.wrap (IntKind.u64.wrap (IntKind.u64.wrap (IntKind.i64.wrap (0 - (n + 1))) * 2) + 1))), (0, Value.int IntKind.i64 n)]) [] ([inI64 (n + (1 : Int))]) (by kernel_rfl) (by kernel_rfl) ⟨by unfold inI64; omega, trivial⟩ ?_
    refine wpr_nil ?_
    refine nx_then ?_
    refine wpc_ret ?_
    refine nx_then_ret ?_
    refine nx_end (hp' := []) (rest := []) [] ((Value.int IntKind.u64 (IntKind.u64.wrap (IntKind.u64.wrap (IntKind.u64.wrap (IntKind.i64.wrap (0 - (n + 1))) * 2) + 1)))) (by kernel_rfl) (by kernel_rfl) give_all (by first | ((repeat (first | exact trivial | refine ⟨trivial, ?_⟩)); done) | assumption) ?_ (.inr rfl)
    exact ⟨congrArg _ (by simp only [u64_wrap, i64_wrap, foldN]; rw [if_pos h]; split <;> omega), rfl⟩
  · refine wpc_skip ?_
    refine nx_then ?_
    refine wpc_seq ?_
    refine wpc_region [0, 1, 2, 3] (by kernel_rfl) ?_
    refine wpr_run (l₂ := []) true [0, 1, 2, 3] [] [(2, Value.int IntKind.u64 (IntKind.u64.wrap (IntKind.u64.wrap n * 2)))] [] [] (by kernel_rfl) (by kernel_rfl) trivial ?_
    refine wpr_nil ?_
    refine nx_then ?_
    refine wpc_ret ?_
    refine nx_end (hp' := []) (rest := []) [] ((Value.int IntKind.u64 (IntKind.u64.wrap (IntKind.u64.wrap n * 2)))) (by kernel_rfl) (by kernel_rfl) give_all (by first | ((repeat (first | exact trivial | refine ⟨trivial, ?_⟩)); done) | assumption) ?_ (.inr rfl)
    exact ⟨congrArg _ (by simp only [u64_wrap, foldN]; rw [if_neg h]; omega), rfl⟩

theorem runfold_spec (n : Int) (h1 : 0 ≤ n) (h2 : n < 18446744073709551616) : Does Try.prog 45 [.int .u64 n] [] (fun v hp' => v = .int .i64 (unfoldN n) ∧ hp' = []) := by
  refine fn_enter Try.func45 rfl 14 rfl fun w0 h0 => ?_
  have ht : n.tdiv 2 = n / 2 := Int.tdiv_eq_ediv_of_nonneg h1
  have hm : n.tmod 2 = n % 2 := Int.tmod_eq_emod_of_nonneg h1
  have hq0 : 0 ≤ n.tdiv 2 := by omega
  have hw1 : IntKind.i64.wrap (n.tdiv 2) = n / 2 := by rw [ht, i64_wrap]; split <;> omega
  have hw : IntKind.i64.wrap (0 - IntKind.i64.wrap (n.tdiv 2)) = - (n / 2) := by rw [hw1, i64_wrap]; split <;> omega
  refine wpc_seq ?_
  refine wpc_region [0] (by kernel_rfl) ?_
  refine wpr_run (l₂ := []) true [0] [] [(2, Value.int IntKind.i64 0), (0, Value.int IntKind.u64 n)] [] [] (by kernel_rfl) (by kernel_rfl) trivial ?_
  refine wpr_nil ?_
  refine nx_then ?_
  refine wpc_seq ?_
  refine wpc_seq ?_
  refine wpc_region [0, 1, 2] (by kernel_rfl) ?_
  refine wpr_run (l₂ := []) true [0, 1, 2] [] [(5, Value.bool (n.tmod 2 == 1)), (2, Value.int IntKind.i64 0), (0, Value.int IntKind.u64 n)] [] [(2 : Int) ≠ (0 : Int)] (by kernel_rfl) (by kernel_rfl) ⟨by omega, trivial⟩ ?_
  refine wpr_nil ?_
  refine nx_then ?_
  refine wpc_cond ((n.tmod 2 == 1)) (by kernel_rfl) (fun h => ?_) (fun h => ?_)
  · refine wpc_seq ?_
    refine wpc_region [0, 1, 2, 3, 4, 5] (by kernel_rfl) ?_
    refine wpr_run (l₂ := []) true [0, 1, 2, 3, 4, 5] [] [(2, Value.int IntKind.i64 (IntKind.i64.wrap (0 - IntKind.i64.wrap (n.tdiv 2)) - 1)), (0, Value.int IntKind.u64 n)] [] [(2 : Int) ≠ (0 : Int) ∧ (0 : Int) ≤ n.tdiv (2 : Int) ∧ n.tdiv (2 : Int) < (18446744073709551616 : Int), inI64 (IntKind.i64.wrap ((0 : Int) - IntKind.i64.wrap (n.tdiv (2 : Int))) - (1 : Int))] (by kernel_rfl) (by kernel_rfl) ⟨by omega, by unfold inI64; omega, trivial⟩ ?_
    refine wpr_nil ?_
    refine nx_then ?_
    refine wpc_ret ?_
    refine nx_then_ret ?_
    refine nx_end (hp' := []) (rest := []) [] ((Value.int IntKind.i64 (IntKind.i64.wrap (0 - IntKind.i64.wrap (n.tdiv 2)) - 1))) (by kernel_rfl) (by kernel_rfl) give_all (by first | ((repeat (first | exact trivial | refine ⟨trivial, ?_⟩)); done) | assumption) ?_ (.inr rfl)
    have h' : n % 2 = 1 := by rw [← hm]; simpa using h
    exact ⟨congrArg _ (by rw [hw, unfoldN, if_pos h']), rfl⟩
  · refine wpc_skip ?_
    refine nx_then ?_
    refine wpc_seq ?_
    refine wpc_region [0, 1, 2, 3] (by kernel_rfl) ?_
    refine wpr_run (l₂ := []) true [0, 1, 2, 3] [] [(2, Value.int IntKind.i64 (IntKind.i64.wrap (n.tdiv 2)))] [] [(2 : Int) ≠ (0 : Int) ∧ (0 : Int) ≤ n.tdiv (2 : Int) ∧ n.tdiv (2 : Int) < (18446744073709551616 : Int)] (by kernel_rfl) (by kernel_rfl) ⟨by omega, trivial⟩ ?_
    refine wpr_nil ?_
    refine nx_then ?_
    refine wpc_ret ?_
    refine nx_end (hp' := []) (rest := []) [] ((Value.int IntKind.i64 (IntKind.i64.wrap (n.tdiv 2)))) (by kernel_rfl) (by kernel_rfl) give_all (by first | ((repeat (first | exact trivial | refine ⟨trivial, ?_⟩)); done) | assumption) ?_ (.inr rfl)
    have h' : ¬ n % 2 = 1 := by rw [← hm]; simpa using h
    exact ⟨congrArg _ (by rw [hw1, unfoldN, if_neg h']), rfl⟩

/-- A number not below 0 in digits of 7 bits, the least first. -/
def vb (f : Nat) : List UInt8 := if h : f < 128 then [UInt8.ofNat f] else UInt8.ofNat (f % 128 + 128) :: vb (f / 128)
termination_by f
decreasing_by omega

theorem vb_lt {f : Nat} (h : f < 128) : vb f = [UInt8.ofNat f] := by rw [vb, dif_pos h]

theorem vb_ge {f : Nat} (h : ¬ f < 128) : vb f = UInt8.ofNat (f % 128 + 128) :: vb (f / 128) := by rw [vb, dif_neg h]

theorem vb_len : ∀ (k f : Nat), f < 128 ^ (k + 1) → (vb f).length ≤ k + 1
  | 0, f, h => by rw [vb_lt (by simpa using h)]; simp
  | k + 1, f, h => by
    by_cases hf : f < 128
    · rw [vb_lt hf]; simp
    · rw [vb_ge hf, List.length_cons]
      have := vb_len k (f / 128) (by rw [Nat.div_lt_iff_lt_mul (by decide)]; rw [Nat.pow_succ] at h; exact h)
      omega

theorem vb_len10 {f : Nat} (h : f < 18446744073709551616) : (vb f).length ≤ 10 := vb_len 9 f (Nat.lt_of_lt_of_le h (by decide))

theorem vb_pos (f : Nat) : 0 < (vb f).length := by
  by_cases hf : f < 128
  · rw [vb_lt hf]; simp
  · rw [vb_ge hf]; simp

/-- A number's bytes. -/
def encI (n : Int) : List UInt8 := vb (foldN n).toNat

theorem foldN_nn (n : Int) : 0 ≤ foldN n := by unfold foldN; split <;> omega

theorem foldN_lt {n : Int} (h1 : -9223372036854775808 ≤ n) (h2 : n ≤ 9223372036854775807) : foldN n < 18446744073709551616 := by unfold foldN; split <;> omega

theorem encI_len {n : Int} (h1 : -9223372036854775808 ≤ n) (h2 : n ≤ 9223372036854775807) : (encI n).length ≤ 10 := vb_len10 (by have := foldN_lt h1 h2; have := foldN_nn n; omega)

theorem u8_wrap (x : Int) : IntKind.u8.wrap x = x % 256 := by simp [IntKind.wrap, IntKind.signed, IntKind.bits]

set_option maxRecDepth 20000 in
theorem or128 : ∀ g : Nat, g < 256 → g ||| 128 = g % 128 + 128 := by decide

theorem or_math (f : Nat) : IntKind.u8.wrap ↑(BitVec.ofInt IntKind.u8.bits (IntKind.u8.wrap (f : Int)) ||| BitVec.ofInt IntKind.u8.bits 128).toNat = ((UInt8.ofNat (f % 128 + 128)).toNat : Int) := by
  have e8 : IntKind.u8.bits = 8 := rfl
  rw [e8, BitVec.toNat_or, u8_wrap, u8_wrap]
  have h1 : (BitVec.ofInt 8 ((f : Int) % 256)).toNat = f % 256 := by rw [BitVec.toNat_ofInt]; omega
  have h2 : (BitVec.ofInt 8 128).toNat = 128 := by decide
  rw [h1, h2, or128 _ (Nat.mod_lt _ (by decide)), UInt8.toNat_ofNat']
  omega

theorem low_math (f : Nat) (h : f < 128) : IntKind.u8.wrap (f : Int) = ((UInt8.ofNat f).toNat : Int) := by
  rw [u8_wrap, UInt8.toNat_ofNat']; omega

theorem shr7 (f : Nat) : (f : Int).fdiv (2 ^ min (Int.toNat 7) IntKind.u64.bits) = ((f / 128 : Nat) : Int) := by
  have e : (2 : Int) ^ min (Int.toNat 7) IntKind.u64.bits = 128 := by decide
  rw [e, Int.fdiv_eq_ediv_of_nonneg _ (by omega)]
  omega

structure PI (F : Nat) where
  f : Nat
  ys : List UInt8
  a : Option Addr
  c : Nat
  h : ys ++ vb f = vb F
  hf : f < 18446744073709551616

theorem PutInt_spec (a : Option Addr) (c : Nat) (bs : List UInt8) (n : Int) (h1 : -9223372036854775808 ≤ n) (h2 : n ≤ 9223372036854775807) (hl : bs.length ≤ 1099511627776) :
    Does Try.prog 23 [.slice a bs.length c, .int .i64 n] [row 5 1 a bs.length c (u8s bs)] (fun v hp' => ∃ a' c', v = .slice a' (bs ++ encI n).length c' ∧ hp' = [row 5 1 a' (bs ++ encI n).length c' (u8s (bs ++ encI n))]) := by
  refine fn_enter Try.func23 rfl 23 rfl fun w0 h0 => ?_
  obtain ⟨F, hF⟩ : ∃ F : Nat, (F : Int) = foldN n := ⟨(foldN n).toNat, Int.toNat_of_nonneg (foldN_nn n)⟩
  have hF2 : F < 18446744073709551616 := by have := foldN_lt h1 h2; omega
  have hE : encI n = vb F := by unfold encI; rw [← hF]; rfl
  refine wpc_seq ?_
  refine wpc_region [0] (by kernel_rfl) ?_
  refine wpr_run (l₂ := []) true [0] [] [(4, Value.slice none 0 0), (0, Value.slice a bs.length c), (1, Value.int IntKind.i64 n)] [row 5 1 a bs.length c (u8s bs)] [] (by kernel_rfl) (by kernel_rfl) trivial ?_
  refine wpr_nil ?_
  refine nx_then ?_
  refine wpc_seq ?_
  refine wpc_region [0, 1, 2] (by kernel_rfl) ?_
  refine wpr_run (l₂ := [1, 2]) true [0] [] [(6, Value.int IntKind.i64 n), (4, Value.slice none 0 0), (0, Value.slice a bs.length c)] [row 5 1 a bs.length c (u8s bs)] [] (by kernel_rfl) (by kernel_rfl) trivial ?_
  refine wpr_call (dst := some 7) (rest := [row 5 1 a bs.length c (u8s bs)]) (by kernel_rfl) (fold_spec n h1 h2) (give [] (by kernel_rfl)) ?_
  rintro v hp' ⟨rfl, rfl⟩
  rw [← hF, hE]
  refine wpr_run (l₂ := []) true [2] [] [(5, Value.int IntKind.u64 (↑F : Int)), (4, Value.slice none 0 0), (0, Value.slice a bs.length c)] [row 5 1 a bs.length c (u8s bs)] [] (by kernel_rfl) (by kernel_rfl) trivial ?_
  refine wpr_nil ?_
  refine nx_then ?_
  refine wpc_seq ?_
  refine wpc_block ?_
  refine wpc_loop (X := PI F) (fun x => St.mk [(5, .int .u64 (x.f : Int)), (0, .slice x.a (bs ++ x.ys).length x.c), (4, .slice none 0 0)] [row 5 1 x.a (bs ++ x.ys).length x.c (u8s (bs ++ x.ys))]) (fun x => x.f) ⟨F, [], a, c, rfl, hF2⟩ (by simp only [List.append_nil]; exact ent_fr (by kernel_rfl)) ?_
  rintro ⟨f, ys, a1, c1, hi, hf⟩
  dsimp only
  have hlen := congrArg List.length hi
  rw [List.length_append] at hlen
  have h10 := vb_len10 hF2
  have hL : (bs ++ ys).length = bs.length + ys.length := List.length_append
  refine wpc_seq ?_
  refine wpc_seq ?_
  refine wpc_region [0, 1] (by kernel_rfl) ?_
  refine wpr_run (l₂ := []) true [0, 1] [] ([(9, Value.bool (decide ((↑f : Int) ≥ 128))), (5, Value.int IntKind.u64 (↑f : Int)), (0, Value.slice a1 (bs ++ ys).length c1), (4, Value.slice none 0 0)]) ([row 5 1 a1 (bs ++ ys).length c1 (u8s (bs ++ ys))]) [] (by kernel_rfl) (by kernel_rfl) trivial ?_
  refine wpr_nil ?_
  refine nx_then ?_
  refine wpc_if (((↑f : Int) ≥ 128)) (by kernel_rfl) (fun hge => ?_) (fun hge => ?_)
  · have hv := vb_ge (f := f) (by omega)
    rw [hv] at hi
    rw [hv, List.length_cons] at hlen
    refine wpc_skip ?_
    refine nx_then ?_
    refine wpc_seq ?_
    refine wpc_block ?_
    refine wpc_region [0, 1, 2, 3, 4, 5, 6] (by kernel_rfl) ?_
    refine wpr_new (l₂ := [5, 6]) true [0, 1, 2, 3, 4] [] (fun g1 => ([(16, Value.slice (some { block := g1, off := 0 }) 1 1), (12, Value.slice a1 (bs ++ ys).length c1), (5, Value.int IntKind.u64 (↑f : Int)), (0, Value.slice a1 (bs ++ ys).length c1), (4, Value.slice none 0 0)])) (fun g1 => ([row 5 1 a1 (bs ++ ys).length c1 (u8s (bs ++ ys)), Ch.blk g1 5 [Value.int IntKind.u8 (IntKind.u8.wrap (↑(BitVec.ofInt IntKind.u8.bits (IntKind.u8.wrap (↑f : Int)) ||| BitVec.ofInt IntKind.u8.bits 128).toNat : Int))]])) (fun g1 => []) (fun g1 => by kernel_rfl) (fun g1 => by kernel_rfl) (fun g1 => trivial) fun g1 => ?_
    refine wpr_ent (ent_turn 1 (ro (some ⟨g1, 0, none⟩) (u8s [UInt8.ofNat (f % 128 + 128)])) rfl (turn_ro [UInt8.ofNat (f % 128 + 128)] (by rw [or_math]; rfl)) rfl) ?_
    refine wpr_app (a := a1) (n := ((bs ++ ys).length)) (cap := c1) (x := (Value.slice (some { block := g1, off := 0 }) 1 1)) (t := 22) (xt := 22) (dst := some 17) (by kernel_rfl) (e := 5) (sz := 1) (bytes := 1) (by kernel_rfl) 0 (xs := (u8s (bs ++ ys))) (by kernel_rfl) (m := 1) (news := (u8s [UInt8.ofNat (f % 128 + 128)])) (fun w h => src_ro h 1 rfl rfl (fun e => by cases e)) (by unfold maxLen; omega) (by omega) ?_
    intro a2 c2 hn
    rw [show (bs ++ ys).length + 1 = (bs ++ (ys ++ [UInt8.ofNat (f % 128 + 128)])).length from by simp; omega, show u8s (bs ++ ys) ++ u8s [UInt8.ofNat (f % 128 + 128)] = u8s (bs ++ (ys ++ [UInt8.ofNat (f % 128 + 128)])) from by simp [u8s]]
    refine wpr_run (l₂ := []) true [6] [] ([(0, Value.slice a2 (bs ++ (ys ++ [UInt8.ofNat (f % 128 + 128)])).length c2), (5, Value.int IntKind.u64 (↑f : Int)), (4, Value.slice none 0 0)]) ([row 5 1 a2 (bs ++ (ys ++ [UInt8.ofNat (f % 128 + 128)])).length c2 (u8s (bs ++ (ys ++ [UInt8.ofNat (f % 128 + 128)]))), ro (some { block := g1, off := 0 }) (u8s [UInt8.ofNat (f % 128 + 128)])]) [] (by kernel_rfl) (by kernel_rfl) trivial ?_
    refine wpr_nil ?_
    refine nx_block ?_
    refine nx_then ?_
    refine wpc_region [0, 1, 2] (by kernel_rfl) ?_
    refine wpr_run (l₂ := []) true [0, 1, 2] [] ([(5, Value.int IntKind.u64 ((↑f : Int).fdiv (2 ^ min (Int.toNat 7) IntKind.u64.bits))), (0, Value.slice a2 (bs ++ (ys ++ [UInt8.ofNat (f % 128 + 128)])).length c2), (4, Value.slice none 0 0)]) ([row 5 1 a2 (bs ++ (ys ++ [UInt8.ofNat (f % 128 + 128)])).length c2 (u8s (bs ++ (ys ++ [UInt8.ofNat (f % 128 + 128)]))), ro (some { block := g1, off := 0 }) (u8s [UInt8.ofNat (f % 128 + 128)])]) [(0 : Int) ≤ (7 : Int)] (by kernel_rfl) (by kernel_rfl) ⟨by omega, trivial⟩ ?_
    refine wpr_nil ?_
    refine nx_ent (ent_set 5 (Value.int IntKind.u64 ((↑f : Int).fdiv (2 ^ min (Int.toNat 7) IntKind.u64.bits))) (Value.int .u64 ((f / 128 : Nat) : Int)) (by kernel_rfl) (congrArg _ (shr7 f))) ?_
    exact fun a' w hS => ⟨⟨f / 128, ys ++ [UInt8.ofNat (f % 128 + 128)], a2, c2, by rw [List.append_assoc]; exact hi, by omega⟩, by dsimp only; omega, ent_fr (by kernel_rfl) _ _ (ent_hp [0] rfl _ _ hS)⟩
  · have hv := vb_lt (f := f) (by omega)
    rw [hv] at hi
    refine wpc_exit ?_
    refine nx_then_exit ?_
    refine nx_then_exit ?_
    refine nx_block_here ?_
    refine nx_then ?_
    refine wpc_seq ?_
    refine wpc_region [0, 1, 2, 3, 4, 5] (by kernel_rfl) ?_
    refine wpr_new (l₂ := [4, 5]) true [0, 1, 2, 3] [] (fun g1 => ([(21, Value.slice (some { block := g1, off := 0 }) 1 1), (18, Value.slice a1 (bs ++ ys).length c1), (4, Value.slice none 0 0)])) (fun g1 => ([row 5 1 a1 (bs ++ ys).length c1 (u8s (bs ++ ys)), Ch.blk g1 5 [Value.int IntKind.u8 (IntKind.u8.wrap (↑f : Int))]])) (fun g1 => []) (fun g1 => by kernel_rfl) (fun g1 => by kernel_rfl) (fun g1 => trivial) fun g1 => ?_
    refine wpr_ent (ent_turn 1 (ro (some ⟨g1, 0, none⟩) (u8s [UInt8.ofNat f])) rfl (turn_ro [UInt8.ofNat f] (by rw [low_math f (by omega)]; rfl)) rfl) ?_
    refine wpr_app (a := a1) (n := ((bs ++ ys).length)) (cap := c1) (x := (Value.slice (some { block := g1, off := 0 }) 1 1)) (t := 22) (xt := 22) (dst := some 22) (by kernel_rfl) (e := 5) (sz := 1) (bytes := 1) (by kernel_rfl) 0 (xs := (u8s (bs ++ ys))) (by kernel_rfl) (m := 1) (news := (u8s [UInt8.ofNat f])) (fun w h => src_ro h 1 rfl rfl (fun e => by cases e)) (by unfold maxLen; omega) (by omega) ?_
    intro a2 c2 hn
    rw [show (bs ++ ys).length + 1 = (bs ++ vb F).length from by rw [← hi]; simp; omega, show u8s (bs ++ ys) ++ u8s [UInt8.ofNat f] = u8s (bs ++ vb F) from by rw [← hi]; simp [u8s]]
    refine wpr_run (l₂ := []) true [5] [] ([(4, Value.slice a2 (bs ++ vb F).length c2)]) ([row 5 1 a2 (bs ++ vb F).length c2 (u8s (bs ++ vb F)), ro (some { block := g1, off := 0 }) (u8s [UInt8.ofNat f])]) [] (by kernel_rfl) (by kernel_rfl) trivial ?_
    refine wpr_nil ?_
    refine nx_then ?_
    refine wpc_ret ?_
    refine nx_end (hp' := ([row 5 1 a2 (bs ++ vb F).length c2 (u8s (bs ++ vb F))])) (rest := [ro (some { block := g1, off := 0 }) (u8s [UInt8.ofNat f])]) [] ((Value.slice a2 (bs ++ vb F).length c2)) (by kernel_rfl) (by kernel_rfl) (give [0] (by kernel_rfl)) (by first | ((repeat (first | exact trivial | refine ⟨trivial, ?_⟩)); done) | assumption) ?_ (.inr rfl)
    exact ⟨a2, c2, rfl, rfl⟩

theorem quo128 (f : Nat) : (f : Int).tdiv 128 = ((f / 128 : Nat) : Int) := by
  rw [Int.tdiv_eq_ediv_of_nonneg (by omega)]; omega

theorem rem128 (f : Nat) : IntKind.u8.wrap ((f : Int).tmod 128) = ((UInt8.ofNat (f % 128)).toNat : Int) := by
  rw [Int.tmod_eq_emod_of_nonneg (by omega), u8_wrap, UInt8.toNat_ofNat']; omega

theorem add128 (f : Nat) : IntKind.u8.wrap (IntKind.u8.wrap ((f : Int).tmod 128) + 128) = ((UInt8.ofNat (f % 128 + 128)).toNat : Int) := by
  rw [Int.tmod_eq_emod_of_nonneg (by omega), u8_wrap, u8_wrap, UInt8.toNat_ofNat']; omega

theorem RInt_spec (n : Int) (h1 : -9223372036854775808 ≤ n) (h2 : n ≤ 9223372036854775807) :
    Does Try.prog 36 [.int .i64 n] [] (fun v hp' => v = .string (mkS (encI n)) ∧ hp' = []) := by
  refine fn_enter Try.func36 rfl 24 rfl fun w0 h0 => ?_
  obtain ⟨F, hF⟩ : ∃ F : Nat, (F : Int) = foldN n := ⟨(foldN n).toNat, Int.toNat_of_nonneg (foldN_nn n)⟩
  have hF2 : F < 18446744073709551616 := by have := foldN_lt h1 h2; omega
  have hE : encI n = vb F := by unfold encI; rw [← hF]; rfl
  refine wpc_seq ?_
  refine wpc_region [0] (by kernel_rfl) ?_
  refine wpr_run (l₂ := []) true [0] [] [(2, Value.string { data := #[] }), (0, Value.int IntKind.i64 n)] [] [] (by kernel_rfl) (by kernel_rfl) trivial ?_
  refine wpr_nil ?_
  refine nx_then ?_
  refine wpc_seq ?_
  refine wpc_region [0, 1, 2] (by kernel_rfl) ?_
  refine wpr_run (l₂ := [1, 2]) true [0] [] [(5, Value.int IntKind.i64 n), (2, Value.string { data := #[] })] [] [] (by kernel_rfl) (by kernel_rfl) trivial ?_
  refine wpr_call_all (dst := some 6) (by kernel_rfl) (rfold_spec n h1 h2) give_all ?_
  rintro v hp' ⟨rfl, rfl⟩
  rw [← hF, hE]
  refine wpr_run (l₂ := []) true [2] [] [(3, Value.int IntKind.u64 (↑F : Int)), (2, Value.string { data := #[] })] [] [] (by kernel_rfl) (by kernel_rfl) trivial ?_
  refine wpr_nil ?_
  refine nx_then ?_
  refine wpc_seq ?_
  refine wpc_region [0] (by kernel_rfl) ?_
  refine wpr_run (l₂ := []) true [0] [] [(4, Value.slice none 0 0), (3, Value.int IntKind.u64 (↑F : Int)), (2, Value.string { data := #[] })] [] [] (by kernel_rfl) (by kernel_rfl) trivial ?_
  refine wpr_nil ?_
  refine nx_then ?_
  refine wpc_seq ?_
  refine wpc_block ?_
  refine wpc_ent (ent_nil 5 1) ?_
  refine wpc_loop (X := PI F) (fun x => St.mk [(4, .slice x.a x.ys.length x.c), (3, .int .u64 (x.f : Int)), (2, .string (mkS []))] [row 5 1 x.a x.ys.length x.c (u8s x.ys)]) (fun x => x.f) ⟨F, [], none, 0, rfl, hF2⟩ (ent_fr (by kernel_rfl)) ?_
  rintro ⟨f, ys, a1, c1, hi, hf⟩
  dsimp only
  have hlen := congrArg List.length hi
  rw [List.length_append] at hlen
  have h10 := vb_len10 hF2
  refine wpc_seq ?_
  refine wpc_seq ?_
  refine wpc_region [0, 1] (by kernel_rfl) ?_
  refine wpr_run (l₂ := []) true [0, 1] [] [(8, Value.bool (decide ((↑f : Int) ≥ 128))), (4, Value.slice a1 ys.length c1), (3, Value.int IntKind.u64 (↑f : Int)), (2, Value.string (mkS []))] [row 5 1 a1 ys.length c1 (u8s ys)] [] (by kernel_rfl) (by kernel_rfl) trivial ?_
  refine wpr_nil ?_
  refine nx_then ?_
  refine wpc_if (((↑f : Int) ≥ 128)) (by kernel_rfl) (fun hge => ?_) (fun hge => ?_)
  · have hq := quo128 f
    have hv := vb_ge (f := f) (by omega)
    rw [hv] at hi
    rw [hv, List.length_cons] at hlen
    refine wpc_skip ?_
    refine nx_then ?_
    refine wpc_block ?_
    refine wpc_seq ?_
    refine wpc_region [0, 1, 2, 3, 4, 5, 6, 7] (by kernel_rfl) ?_
    refine wpr_new (l₂ := [6, 7]) true [0, 1, 2, 3, 4, 5] [] (fun g1 => [(14, Value.slice (some { block := g1, off := 0 }) 1 1), (9, Value.slice a1 ys.length c1), (4, Value.slice a1 ys.length c1), (3, Value.int IntKind.u64 (↑f : Int)), (2, Value.string (mkS []))]) (fun g1 => ([row 5 1 a1 ys.length c1 (u8s ys), Ch.blk g1 5 [Value.int IntKind.u8 (IntKind.u8.wrap (IntKind.u8.wrap ((↑f : Int).tmod 128) + 128))]])) (fun g1 => [(128 : Int) ≠ (0 : Int)]) (fun g1 => by kernel_rfl) (fun g1 => by kernel_rfl) (fun g1 => ⟨by omega, trivial⟩) fun g1 => ?_
    refine wpr_ent (ent_turn 1 (ro (some ⟨g1, 0, none⟩) (u8s [UInt8.ofNat (f % 128 + 128)])) rfl (turn_ro [UInt8.ofNat (f % 128 + 128)] (by rw [add128]; rfl)) rfl) ?_
    refine wpr_app (a := a1) (n := ys.length) (cap := c1) (x := (Value.slice (some { block := g1, off := 0 }) 1 1)) (t := 22) (xt := 22) (dst := some 15) (by kernel_rfl) (e := 5) (sz := 1) (bytes := 1) (by kernel_rfl) 0 (xs := (u8s ys)) (by kernel_rfl) (m := 1) (news := (u8s [UInt8.ofNat (f % 128 + 128)])) (fun w h => src_ro h 1 rfl rfl (fun e => by cases e)) (by unfold maxLen; omega) (by omega) ?_
    intro a2 c2 hn
    rw [show ys.length + 1 = (ys ++ [UInt8.ofNat (f % 128 + 128)]).length from by simp, show u8s ys ++ u8s [UInt8.ofNat (f % 128 + 128)] = u8s (ys ++ [UInt8.ofNat (f % 128 + 128)]) from by simp [u8s]]
    refine wpr_run (l₂ := []) true [7] [] ([(4, Value.slice a2 (ys ++ [UInt8.ofNat (f % 128 + 128)]).length c2), (3, Value.int IntKind.u64 (↑f : Int)), (2, Value.string (mkS []))]) ([row 5 1 a2 (ys ++ [UInt8.ofNat (f % 128 + 128)]).length c2 (u8s (ys ++ [UInt8.ofNat (f % 128 + 128)])), ro (some { block := g1, off := 0 }) (u8s [UInt8.ofNat (f % 128 + 128)])]) [] (by kernel_rfl) (by kernel_rfl) trivial ?_
    refine wpr_nil ?_
    refine nx_then ?_
    refine wpc_region [0, 1, 2] (by kernel_rfl) ?_
    refine wpr_run (l₂ := []) true [0, 1, 2] [] ([(3, Value.int IntKind.u64 ((↑f : Int).tdiv 128)), (4, Value.slice a2 (ys ++ [UInt8.ofNat (f % 128 + 128)]).length c2), (2, Value.string (mkS []))]) ([row 5 1 a2 (ys ++ [UInt8.ofNat (f % 128 + 128)]).length c2 (u8s (ys ++ [UInt8.ofNat (f % 128 + 128)])), ro (some { block := g1, off := 0 }) (u8s [UInt8.ofNat (f % 128 + 128)])]) [(128 : Int) ≠ (0 : Int) ∧ (0 : Int) ≤ (↑f : Int).tdiv (128 : Int) ∧ (↑f : Int).tdiv (128 : Int) < (18446744073709551616 : Int)] (by kernel_rfl) (by kernel_rfl) ⟨by omega, trivial⟩ ?_
    refine wpr_nil ?_
    refine nx_block ?_
    refine nx_ent (ent_set 3 (Value.int IntKind.u64 ((↑f : Int).tdiv 128)) (Value.int .u64 ((f / 128 : Nat) : Int)) (by kernel_rfl) (congrArg _ (quo128 f))) ?_
    exact fun a' w hS => ⟨⟨f / 128, ys ++ [UInt8.ofNat (f % 128 + 128)], a2, c2, by rw [List.append_assoc]; exact hi, by omega⟩, by dsimp only; omega, ent_fr (by kernel_rfl) _ _ (ent_hp [0] rfl _ _ hS)⟩
  · have hv := vb_lt (f := f) (by omega)
    rw [hv] at hi
    refine wpc_exit ?_
    refine nx_then_exit ?_
    refine nx_then_exit ?_
    refine nx_block_here ?_
    refine nx_then ?_
    refine wpc_seq ?_
    refine wpc_region [0, 1, 2, 3, 4, 5, 6] (by kernel_rfl) ?_
    refine wpr_new (l₂ := [4, 5, 6]) true [0, 1, 2, 3] [] (fun g1 => [(21, Value.slice (some { block := g1, off := 0 }) 1 1), (18, Value.slice a1 ys.length c1), (2, Value.string (mkS []))]) (fun g1 => [row 5 1 a1 ys.length c1 (u8s ys), Ch.blk g1 5 [Value.int IntKind.u8 (IntKind.u8.wrap (↑f : Int))]]) (fun g1 => []) (fun g1 => by kernel_rfl) (fun g1 => by kernel_rfl) (fun g1 => trivial) fun g1 => ?_
    refine wpr_ent (ent_turn 1 (ro (some ⟨g1, 0, none⟩) (u8s [UInt8.ofNat f])) rfl (turn_ro [UInt8.ofNat f] (by rw [low_math f (by omega)]; rfl)) rfl) ?_
    refine wpr_app (a := a1) (n := ys.length) (cap := c1) (x := (Value.slice (some { block := g1, off := 0 }) 1 1)) (t := 22) (xt := 22) (dst := some 22) (by kernel_rfl) (e := 5) (sz := 1) (bytes := 1) (by kernel_rfl) 0 (xs := (u8s ys)) (by kernel_rfl) (m := 1) (news := (u8s [UInt8.ofNat f])) (fun w h => src_ro h 1 rfl rfl (fun e => by cases e)) (by unfold maxLen; omega) (by omega) ?_
    intro a2 c2 hn
    rw [show ys.length + 1 = (vb F).length from by rw [← hi]; simp, show u8s ys ++ u8s [UInt8.ofNat f] = u8s (vb F) from by rw [← hi]; simp [u8s]]
    refine wpr_eq (b2s (a := 22) (b := 9) (ad := a2) (n := ((vb F).length)) (c := c2) (dst := some 23) (by kernel_rfl) (by kernel_rfl) (vb F) (by first | rfl | simp) (fun w h => b2s_row h 0 rfl)) ?_
    refine wpr_run (l₂ := []) true [6] [] [(2, Value.string (mkS (vb F)))] [row 5 1 a2 (vb F).length c2 (u8s (vb F)), ro (some { block := g1, off := 0 }) (u8s [UInt8.ofNat f])] [] (by kernel_rfl) (by kernel_rfl) trivial ?_
    refine wpr_nil ?_
    refine nx_then ?_
    refine wpc_ret ?_
    refine nx_end (hp' := []) (rest := [row 5 1 a2 (vb F).length c2 (u8s (vb F)), ro (some { block := g1, off := 0 }) (u8s [UInt8.ofNat f])]) [] ((Value.string (mkS (vb F)))) (by kernel_rfl) (by kernel_rfl) (give [] (by kernel_rfl)) (by first | ((repeat (first | exact trivial | refine ⟨trivial, ?_⟩)); done) | assumption) ?_ (.inr rfl)
    exact ⟨rfl, rfl⟩

def encB (b : Bool) : List UInt8 := [cond b 1 0]

def encT (t : List UInt8) : List UInt8 := encI t.length ++ t

def rdr (r : Nat) (s : List UInt8) (at_ e : Int) : Ch := .blk r 75 [.bool true, .string (mkS s), .int .i64 at_, .int .i64 e]

theorem NewReader_spec (a : Option Addr) (c : Nat) (bs : List UInt8) (ha : a = none → bs = []) :
    Does Try.prog 27 [.slice a bs.length c] [ro a (u8s bs)] (fun v hp' => ∃ r, v = .pointer (some ⟨r, 0, none⟩) ∧ hp' = [rdr r bs 0 0]) := by
  refine fn_enter Try.func27 rfl 7 rfl fun w0 h0 => ?_
  refine wpc_seq ?_
  refine wpc_region [0] (by kernel_rfl) ?_
  refine wpr_run (l₂ := []) true [0] [] [(2, Value.pointer none), (0, Value.slice a bs.length c)] [ro a (u8s bs)] [] (by kernel_rfl) (by kernel_rfl) trivial ?_
  refine wpr_nil ?_
  refine nx_then ?_
  refine wpc_seq ?_
  refine wpc_region [0, 1, 2, 3, 4] (by kernel_rfl) ?_
  refine wpr_run (l₂ := [1, 2, 3, 4]) true [0] [] [(3, Value.slice a bs.length c), (2, Value.pointer none)] [ro a (u8s bs)] [] (by kernel_rfl) (by kernel_rfl) trivial ?_
  refine wpr_eq (b2s (a := 22) (b := 9) (ad := a) (n := bs.length) (c := c) (dst := some 4) (by kernel_rfl) (by kernel_rfl) bs (by first | rfl | simp) (fun w h => b2s_ro h 0 rfl)) ?_
  refine wpr_new (l₂ := [4]) true [2, 3] [] (fun g1 => [(6, Value.pointer (some { block := g1, off := 0 })), (2, Value.pointer none)]) (fun g1 => [ro a (u8s bs), Ch.blk g1 75 [Value.bool true, Value.string (mkS bs), Value.int IntKind.i64 0, Value.int IntKind.i64 0]]) (fun g1 => []) (fun g1 => by kernel_rfl) (fun g1 => by kernel_rfl) (fun g1 => trivial) fun g1 => ?_
  refine wpr_run (l₂ := []) true [4] [] [(2, Value.pointer (some { block := g1, off := 0 }))] [ro a (u8s bs), Ch.blk g1 75 [Value.bool true, Value.string (mkS bs), Value.int IntKind.i64 0, Value.int IntKind.i64 0]] [] (by kernel_rfl) (by kernel_rfl) trivial ?_
  refine wpr_nil ?_
  refine nx_then ?_
  refine wpc_ret ?_
  refine nx_end (hp' := [Ch.blk g1 75 [Value.bool true, Value.string (mkS bs), Value.int IntKind.i64 0, Value.int IntKind.i64 0]]) (rest := [ro a (u8s bs)]) [] ((Value.pointer (some { block := g1, off := 0 }))) (by kernel_rfl) (by kernel_rfl) (give [1] (by kernel_rfl)) (by first | ((repeat (first | exact trivial | refine ⟨trivial, ?_⟩)); done) | assumption) ?_ (.inr rfl)
  exact ⟨_, rfl, rfl⟩

theorem Err_spec (r : Nat) (s : List UInt8) (at_ e : Int) : Does Try.prog 29 [.pointer (some ⟨r, 0, none⟩)] [rdr r s at_ e] (fun v hp' => v = .int .i64 e ∧ hp' = [rdr r s at_ e]) := by
  refine fn_enter Try.func29 rfl 16 rfl fun w0 h0 => ?_
  unfold rdr
  refine wpc_seq ?_
  refine wpc_region [0] (by kernel_rfl) ?_
  refine wpr_run (l₂ := []) true [0] [] [(2, Value.int IntKind.i64 0), (0, Value.pointer (some { block := r, off := 0 }))] [Ch.blk r 75 [Value.bool true, Value.string (mkS s), Value.int IntKind.i64 at_, Value.int IntKind.i64 e]] [] (by kernel_rfl) (by kernel_rfl) trivial ?_
  refine wpr_nil ?_
  refine nx_then ?_
  refine wpc_seq ?_
  refine wpc_seq ?_
  refine wpc_region [0, 1, 2, 3, 4, 5, 6, 7, 8] (by kernel_rfl) ?_
  refine wpr_run (l₂ := []) true [0, 1, 2, 3, 4, 5, 6, 7, 8] [0] [(11, Value.bool false), (2, Value.int IntKind.i64 0), (0, Value.pointer (some { block := r, off := 0 }))] [Ch.blk r 75 [Value.bool true, Value.string (mkS s), Value.int IntKind.i64 at_, Value.int IntKind.i64 e]] [] (by kernel_rfl) (by kernel_rfl) trivial ?_
  refine wpr_nil ?_
  refine nx_then ?_
  refine wpc_false (by kernel_rfl) ?_
  refine wpc_skip ?_
  refine nx_then ?_
  refine wpc_seq ?_
  refine wpc_region [0, 1, 2, 3, 4] (by kernel_rfl) ?_
  refine wpr_run (l₂ := []) true [0, 1, 2, 3, 4] [0] [(2, Value.int IntKind.i64 e)] [Ch.blk r 75 [Value.bool true, Value.string (mkS s), Value.int IntKind.i64 at_, Value.int IntKind.i64 e]] [] (by kernel_rfl) (by kernel_rfl) trivial ?_
  refine wpr_nil ?_
  refine nx_then ?_
  refine wpc_ret ?_
  refine nx_end (hp' := [Ch.blk r 75 [Value.bool true, Value.string (mkS s), Value.int IntKind.i64 at_, Value.int IntKind.i64 e]]) (rest := []) [] ((Value.int IntKind.i64 e)) (by kernel_rfl) (by kernel_rfl) give_all (by first | ((repeat (first | exact trivial | refine ⟨trivial, ?_⟩)); done) | assumption) ?_ (.inr rfl)
  exact ⟨rfl, rfl⟩

theorem At_spec (r : Nat) (s : List UInt8) (at_ e : Int) : Does Try.prog 30 [.pointer (some ⟨r, 0, none⟩)] [rdr r s at_ e] (fun v hp' => v = .int .i64 at_ ∧ hp' = [rdr r s at_ e]) := by
  refine fn_enter Try.func30 rfl 9 rfl fun w0 h0 => ?_
  unfold rdr
  refine wpc_seq ?_
  refine wpc_region [0] (by kernel_rfl) ?_
  refine wpr_run (l₂ := []) true [0] [] [(2, Value.int IntKind.i64 0), (0, Value.pointer (some { block := r, off := 0 }))] [Ch.blk r 75 [Value.bool true, Value.string (mkS s), Value.int IntKind.i64 at_, Value.int IntKind.i64 e]] [] (by kernel_rfl) (by kernel_rfl) trivial ?_
  refine wpr_nil ?_
  refine nx_then ?_
  refine wpc_seq ?_
  refine wpc_seq ?_
  refine wpc_region [0, 1] (by kernel_rfl) ?_
  refine wpr_run (l₂ := []) true [0, 1] [] [(4, Value.bool false), (2, Value.int IntKind.i64 0), (0, Value.pointer (some { block := r, off := 0 }))] [Ch.blk r 75 [Value.bool true, Value.string (mkS s), Value.int IntKind.i64 at_, Value.int IntKind.i64 e]] [] (by kernel_rfl) (by kernel_rfl) trivial ?_
  refine wpr_nil ?_
  refine nx_then ?_
  refine wpc_false (by kernel_rfl) ?_
  refine wpc_skip ?_
  refine nx_then ?_
  refine wpc_seq ?_
  refine wpc_region [0, 1, 2, 3, 4] (by kernel_rfl) ?_
  refine wpr_run (l₂ := []) true [0, 1, 2, 3, 4] [0] [(2, Value.int IntKind.i64 at_)] [Ch.blk r 75 [Value.bool true, Value.string (mkS s), Value.int IntKind.i64 at_, Value.int IntKind.i64 e]] [] (by kernel_rfl) (by kernel_rfl) trivial ?_
  refine wpr_nil ?_
  refine nx_then ?_
  refine wpc_ret ?_
  refine nx_end (hp' := [Ch.blk r 75 [Value.bool true, Value.string (mkS s), Value.int IntKind.i64 at_, Value.int IntKind.i64 e]]) (rest := []) [] ((Value.int IntKind.i64 at_)) (by kernel_rfl) (by kernel_rfl) give_all (by first | ((repeat (first | exact trivial | refine ⟨trivial, ?_⟩)); done) | assumption) ?_ (.inr rfl)
  exact ⟨rfl, rfl⟩

def endE (s : List UInt8) (at_ e : Int) : Int := if e ≠ 0 then e else if at_ < s.length then 5 else 0

end Go.Proofs.Ytmjhcadciblcdaa
