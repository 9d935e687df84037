import Derived.Test.YtgkcodkeikaeeaaD1
import Derived.Test.YtgkcodkeikaeeaaX12
namespace Go.Proofs.Ytgkcodkeikaeeaa
open Go Go.Sx
set_option linter.unusedVariables false
set_option linter.unusedSimpArgs false

/-- A number not below 0 in digits of 7 bits, the least first. -/
def vb (f : Nat) : List UInt8 := if h : f < 128 then [UInt8.ofNat f] else UInt8.ofNat (f % 128 + 128) :: vb (f / 128)
termination_by f
decreasing_by omega
theorem vb_lt {f : Nat} (h : f < 128) : vb f = [UInt8.ofNat f] := by rw [vb, dif_pos h]
theorem vb_ge {f : Nat} (h : ¬ f < 128) : vb f = UInt8.ofNat (f % 128 + 128) :: vb (f / 128) := by rw [vb, dif_neg h]
theorem vb_len : ∀ (k f : Nat), f < 128 ^ (k + 1) → (vb f).length ≤ k + 1
  | 0, f, h => by rw [vb_lt (by simpa using h)]; simp
  | k + 1, f, h => by
    by_cases hf : f < 128
    · rw [vb_lt hf]; simp
    · rw [vb_ge hf, List.length_cons]
      have := vb_len k (f / 128) (by rw [Nat.div_lt_iff_lt_mul (by decide)]; rw [Nat.pow_succ] at h; exact h)
      omega
theorem vb_len10 {f : Nat} (h : f < 18446744073709551616) : (vb f).length ≤ 10 := vb_len 9 f (Nat.lt_of_lt_of_le h (by decide))
theorem vb_pos (f : Nat) : 0 < (vb f).length := by
  by_cases hf : f < 128
  · rw [vb_lt hf]; simp
  · rw [vb_ge hf]; simp
/-- A number's bytes. -/
def encI (n : Int) : List UInt8 := vb (foldN n).toNat
theorem foldN_nn (n : Int) : 0 ≤ foldN n := by unfold foldN; split <;> omega
theorem foldN_lt {n : Int} (h1 : -9223372036854775808 ≤ n) (h2 : n ≤ 9223372036854775807) : foldN n < 18446744073709551616 := by unfold foldN; split <;> omega
theorem encI_len {n : Int} (h1 : -9223372036854775808 ≤ n) (h2 : n ≤ 9223372036854775807) : (encI n).length ≤ 10 := vb_len10 (by have := foldN_lt h1 h2; have := foldN_nn n; omega)
theorem u8_wrap (x : Int) : IntKind.u8.wrap x = x % 256 := by simp [IntKind.wrap, IntKind.signed, IntKind.bits]
set_option maxRecDepth 20000 in
theorem or128 : ∀ g : Nat, g < 256 → g ||| 128 = g % 128 + 128 := by decide
theorem or_math (f : Nat) : IntKind.u8.wrap ↑(BitVec.ofInt IntKind.u8.bits (IntKind.u8.wrap (f : Int)) ||| BitVec.ofInt IntKind.u8.bits 128).toNat = ((UInt8.ofNat (f % 128 + 128)).toNat : Int) := by
  have e8 : IntKind.u8.bits = 8 := rfl
  rw [e8, BitVec.toNat_or, u8_wrap, u8_wrap]
  have h1 : (BitVec.ofInt 8 ((f : Int) % 256)).toNat = f % 256 := by rw [BitVec.toNat_ofInt]; omega
  have h2 : (BitVec.ofInt 8 128).toNat = 128 := by decide
  rw [h1, h2, or128 _ (Nat.mod_lt _ (by decide)), UInt8.toNat_ofNat']
  omega
theorem low_math (f : Nat) (h : f < 128) : IntKind.u8.wrap (f : Int) = ((UInt8.ofNat f).toNat : Int) := by
  rw [u8_wrap, UInt8.toNat_ofNat']; omega

theorem shr7 (f : Nat) : (f : Int).fdiv (2 ^ min (Int.toNat 7) IntKind.u64.bits) = ((f / 128 : Nat) : Int) := by
  have e : (2 : Int) ^ min (Int.toNat 7) IntKind.u64.bits = 128 := by decide
  rw [e, Int.fdiv_eq_ediv_of_nonneg _ (by omega)]
  omega

structure PI (F : Nat) where
  f : Nat
  ys : List UInt8
  a : Option Addr
  c : Nat
  h : ys ++ vb f = vb F
  hf : f < 18446744073709551616

theorem PutInt_spec (a : Option Addr) (c : Nat) (bs : List UInt8) (n : Int) (h1 : -9223372036854775808 ≤ n) (h2 : n ≤ 9223372036854775807) (hl : bs.length ≤ 140737488352000) :
    Does Try.prog 10 [.slice a bs.length c, .int .i64 n] [row 5 1 a bs.length c (u8s bs)] (fun v hp' => ∃ a' c', v = .slice a' (bs ++ encI n).length c' ∧ hp' = [row 5 1 a' (bs ++ encI n).length c' (u8s (bs ++ encI n))]) := by
  refine fn_enter Try.func10 rfl 23 rfl fun w0 h0 => ?_
  obtain ⟨F, hF⟩ : ∃ F : Nat, (F : Int) = foldN n := ⟨(foldN n).toNat, Int.toNat_of_nonneg (foldN_nn n)⟩
  have hF2 : F < 18446744073709551616 := by have := foldN_lt h1 h2; omega
  have hE : encI n = vb F := by unfold encI; rw [← hF]; rfl
  refine wpc_seq ?_
  refine wpc_region [0] (by kernel_rfl) ?_
  refine wpr_run (l₂ := []) true [0] [] [(4, Value.slice none 0 0), (0, Value.slice a bs.length c), (1, Value.int IntKind.i64 n)] [row 5 1 a bs.length c (u8s bs)] [] (by kernel_rfl) (by kernel_rfl) trivial ?_
  refine wpr_nil ?_
  refine nx_then ?_
  refine wpc_seq ?_
  refine wpc_region [0, 1, 2] (by kernel_rfl) ?_
  refine wpr_run (l₂ := [1, 2]) true [0] [] [(6, Value.int IntKind.i64 n), (4, Value.slice none 0 0), (0, Value.slice a bs.length c)] [row 5 1 a bs.length c (u8s bs)] [] (by kernel_rfl) (by kernel_rfl) trivial ?_
  refine wpr_call (dst := some 7) (rest := [row 5 1 a bs.length c (u8s bs)]) (by kernel_rfl) (fold_spec n h1 h2) (give [] (by kernel_rfl)) ?_
  rintro v hp' ⟨rfl, rfl⟩
  rw [← hF, hE]
  refine wpr_run (l₂ := []) true [2] [] [(5, Value.int IntKind.u64 (↑F : Int)), (4, Value.slice none 0 0), (0, Value.slice a bs.length c)] [row 5 1 a bs.length c (u8s bs)] [] (by kernel_rfl) (by kernel_rfl) trivial ?_
  refine wpr_nil ?_
  refine nx_then ?_
  refine wpc_seq ?_
  refine wpc_block ?_
  refine wpc_loop (X := PI F) (fun x => St.mk [(5, .int .u64 (x.f : Int)), (0, .slice x.a (bs ++ x.ys).length x.c), (4, .slice none 0 0)] [row 5 1 x.a (bs ++ x.ys).length x.c (u8s (bs ++ x.ys))]) (fun x => x.f) ⟨F, [], a, c, rfl, hF2⟩ (by simp only [List.append_nil]; exact ent_fr (by kernel_rfl)) ?_
  rintro ⟨f, ys, a1, c1, hi, hf⟩
  dsimp only
  have hlen := congrArg List.length hi
  rw [List.length_append] at hlen
  have h10 := vb_len10 hF2
  have hL : (bs ++ ys).length = bs.length + ys.length := List.length_append
  refine wpc_seq ?_
  refine wpc_seq ?_
  refine wpc_region [0, 1] (by kernel_rfl) ?_
  refine wpr_run (l₂ := []) true [0, 1] [] ([(9, Value.bool (decide ((↑f : Int) ≥ 128))), (5, Value.int IntKind.u64 (↑f : Int)), (0, Value.slice a1 (bs ++ ys).length c1), (4, Value.slice none 0 0)]) ([row 5 1 a1 (bs ++ ys).length c1 (u8s (bs ++ ys))]) [] (by kernel_rfl) (by kernel_rfl) trivial ?_
  refine wpr_nil ?_
  refine nx_then ?_
  refine wpc_if (((↑f : Int) ≥ 128)) (by kernel_rfl) (fun hge => ?_) (fun hge => ?_)
  · have hv := vb_ge (f := f) (by omega)
    rw [hv] at hi
    rw [hv, List.length_cons] at hlen
    refine wpc_skip ?_
    refine nx_then ?_
    refine wpc_seq ?_
    refine wpc_block ?_
    refine wpc_region [0, 1, 2, 3, 4, 5, 6] (by kernel_rfl) ?_
    refine wpr_new (l₂ := [5, 6]) true [0, 1, 2, 3, 4] [] (fun g1 => ([(16, Value.slice (some { block := g1, off := 0 }) 1 1), (12, Value.slice a1 (bs ++ ys).length c1), (5, Value.int IntKind.u64 (↑f : Int)), (0, Value.slice a1 (bs ++ ys).length c1), (4, Value.slice none 0 0)])) (fun g1 => ([row 5 1 a1 (bs ++ ys).length c1 (u8s (bs ++ ys)), Ch.blk g1 5 [Value.int IntKind.u8 (IntKind.u8.wrap (↑(BitVec.ofInt IntKind.u8.bits (IntKind.u8.wrap (↑f : Int)) ||| BitVec.ofInt IntKind.u8.bits 128).toNat : Int))]])) (fun g1 => []) (fun g1 => by kernel_rfl) (fun g1 => by kernel_rfl) (fun g1 => trivial) fun g1 => ?_
    refine wpr_ent (ent_turn 1 (ro (some ⟨g1, 0, none⟩) (u8s [UInt8.ofNat (f % 128 + 128)])) rfl (turn_ro [UInt8.ofNat (f % 128 + 128)] (by rw [or_math]; rfl)) rfl) ?_
    refine wpr_app (a := a1) (n := ((bs ++ ys).length)) (cap := c1) (x := (Value.slice (some { block := g1, off := 0 }) 1 1)) (t := 22) (xt := 22) (dst := some 17) (by kernel_rfl) (e := 5) (sz := 1) (bytes := 1) (by kernel_rfl) 0 (xs := (u8s (bs ++ ys))) (by kernel_rfl) (m := 1) (news := (u8s [UInt8.ofNat (f % 128 + 128)])) (fun w h => src_ro h 1 rfl rfl (fun e => by cases e)) (by unfold maxLen; omega) (by omega) ?_
    intro a2 c2 hn
    rw [show (bs ++ ys).length + 1 = (bs ++ (ys ++ [UInt8.ofNat (f % 128 + 128)])).length from by simp; omega, show u8s (bs ++ ys) ++ u8s [UInt8.ofNat (f % 128 + 128)] = u8s (bs ++ (ys ++ [UInt8.ofNat (f % 128 + 128)])) from by simp [u8s]]
    refine wpr_run (l₂ := []) true [6] [] ([(0, Value.slice a2 (bs ++ (ys ++ [UInt8.ofNat (f % 128 + 128)])).length c2), (5, Value.int IntKind.u64 (↑f : Int)), (4, Value.slice none 0 0)]) ([row 5 1 a2 (bs ++ (ys ++ [UInt8.ofNat (f % 128 + 128)])).length c2 (u8s (bs ++ (ys ++ [UInt8.ofNat (f % 128 + 128)]))), ro (some { block := g1, off := 0 }) (u8s [UInt8.ofNat (f % 128 + 128)])]) [] (by kernel_rfl) (by kernel_rfl) trivial ?_
    refine wpr_nil ?_
    refine nx_block ?_
    refine nx_then ?_
    refine wpc_region [0, 1, 2] (by kernel_rfl) ?_
    refine wpr_run (l₂ := []) true [0, 1, 2] [] ([(5, Value.int IntKind.u64 ((↑f : Int).fdiv (2 ^ min (Int.toNat 7) IntKind.u64.bits))), (0, Value.slice a2 (bs ++ (ys ++ [UInt8.ofNat (f % 128 + 128)])).length c2), (4, Value.slice none 0 0)]) ([row 5 1 a2 (bs ++ (ys ++ [UInt8.ofNat (f % 128 + 128)])).length c2 (u8s (bs ++ (ys ++ [UInt8.ofNat (f % 128 + 128)]))), ro (some { block := g1, off := 0 }) (u8s [UInt8.ofNat (f % 128 + 128)])]) [(0 : Int) ≤ (7 : Int)] (by kernel_rfl) (by kernel_rfl) ⟨by omega, trivial⟩ ?_
    refine wpr_nil ?_
    refine nx_ent (ent_set 5 (Value.int IntKind.u64 ((↑f : Int).fdiv (2 ^ min (Int.toNat 7) IntKind.u64.bits))) (Value.int .u64 ((f / 128 : Nat) : Int)) (by kernel_rfl) (congrArg _ (shr7 f))) ?_
    exact fun a' w hS => ⟨⟨f / 128, ys ++ [UInt8.ofNat (f % 128 + 128)], a2, c2, by rw [List.append_assoc]; exact hi, by omega⟩, by dsimp only; omega, ent_fr (by kernel_rfl) _ _ (ent_hp [0] rfl _ _ hS)⟩
  · have hv := vb_lt (f := f) (by omega)
    rw [hv] at hi
    refine wpc_exit ?_
    refine nx_then_exit ?_
    refine nx_then_exit ?_
    refine nx_block_here ?_
    refine nx_then ?_
    refine wpc_seq ?_
    refine wpc_region [0, 1, 2, 3, 4, 5] (by kernel_rfl) ?_
    refine wpr_new (l₂ := [4, 5]) true [0, 1, 2, 3] [] (fun g1 => ([(21, Value.slice (some { block := g1, off := 0 }) 1 1), (18, Value.slice a1 (bs ++ ys).length c1), (4, Value.slice none 0 0)])) (fun g1 => ([row 5 1 a1 (bs ++ ys).length c1 (u8s (bs ++ ys)), Ch.blk g1 5 [Value.int IntKind.u8 (IntKind.u8.wrap (↑f : Int))]])) (fun g1 => []) (fun g1 => by kernel_rfl) (fun g1 => by kernel_rfl) (fun g1 => trivial) fun g1 => ?_
    refine wpr_ent (ent_turn 1 (ro (some ⟨g1, 0, none⟩) (u8s [UInt8.ofNat f])) rfl (turn_ro [UInt8.ofNat f] (by rw [low_math f (by omega)]; rfl)) rfl) ?_
    refine wpr_app (a := a1) (n := ((bs ++ ys).length)) (cap := c1) (x := (Value.slice (some { block := g1, off := 0 }) 1 1)) (t := 22) (xt := 22) (dst := some 22) (by kernel_rfl) (e := 5) (sz := 1) (bytes := 1) (by kernel_rfl) 0 (xs := (u8s (bs ++ ys))) (by kernel_rfl) (m := 1) (news := (u8s [UInt8.ofNat f])) (fun w h => src_ro h 1 rfl rfl (fun e => by cases e)) (by unfold maxLen; omega) (by omega) ?_
    intro a2 c2 hn
    rw [show (bs ++ ys).length + 1 = (bs ++ vb F).length from by rw [← hi]; simp; omega, show u8s (bs ++ ys) ++ u8s [UInt8.ofNat f] = u8s (bs ++ vb F) from by rw [← hi]; simp [u8s]]
    refine wpr_run (l₂ := []) true [5] [] ([(4, Value.slice a2 (bs ++ vb F).length c2)]) ([row 5 1 a2 (bs ++ vb F).length c2 (u8s (bs ++ vb F)), ro (some { block := g1, off := 0 }) (u8s [UInt8.ofNat f])]) [] (by kernel_rfl) (by kernel_rfl) trivial ?_
    refine wpr_nil ?_
    refine nx_then ?_
    refine wpc_ret ?_
    refine nx_end (hp' := ([row 5 1 a2 (bs ++ vb F).length c2 (u8s (bs ++ vb F))])) (rest := [ro (some { block := g1, off := 0 }) (u8s [UInt8.ofNat f])]) [] ((Value.slice a2 (bs ++ vb F).length c2)) (by kernel_rfl) (by kernel_rfl) (give [0] (by kernel_rfl)) (by first | ((repeat (first | exact trivial | refine ⟨trivial, ?_⟩)); done) | assumption) ?_ (.inr rfl)
    exact ⟨a2, c2, rfl, rfl⟩
end Go.Proofs.Ytgkcodkeikaeeaa
