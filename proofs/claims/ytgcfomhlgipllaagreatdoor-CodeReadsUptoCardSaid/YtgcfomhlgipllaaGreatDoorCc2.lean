import Derived.Test.YtgcfomhlgipllaaGreatDoorProg
import Derived.Lib.Strings
import Derived.Lib.Walk
import Derived.Lib.BufferWrite
import Derived.Lib.UnsafeStr
import Derived.Lib.Hide
import Derived.Laws.MakeOwn
import Derived.WalkKit
import Derived.RangeFuncNested
import Derived.OwnWalkIn
import Derived.Laws.StructEq
import Derived.Defers
import Derived.Lib.OthersKept
import Derived.Laws.RangeAny
import Derived.LaidEqlPtr
import Derived.Test.YtgcfomhlgipllaaGreatDoorCc1
set_option linter.unusedVariables false
set_option linter.unusedSimpArgs false
namespace Go.Proofs.YtgcfomhlgipllaaGreatDoor
open Go Go.Sx
theorem fold_spec (n : Int) (h1 : -9223372036854775808 ≤ n) (h2 : n ≤ 9223372036854775807) : Does Tryz.prog 103 [.int .i64 n] [] (fun v hp' => v = .int .u64 (foldN n) ∧ hp' = []) := by
 refine fn_enter Tryz.func103 rfl 10 rfl fun w0 h0 => ?_
 refine SQ (RG ?_)
 refine RR [] .z (.i 2 (.int .u64 0) .a) .a ?_
 refine RZ (NT (SQ (RG ?_)))
 refine RV true [] .z (.i 2 (.int .u64 (IntKind.wrap IntKind.u64 (↑(BitVec.toNat (BitVec.ofInt (IntKind.bits IntKind.u64) (IntKind.wrap IntKind.u64 (IntKind.wrap IntKind.u64 n * 2 ^ min (Int.toNat 1) (IntKind.bits IntKind.u64))) ^^^ BitVec.ofInt (IntKind.bits IntKind.u64) (IntKind.wrap IntKind.u64 (Int.fdiv n (2 ^ min (Int.toNat 63) (IntKind.bits IntKind.i64)))))) : Int))) .z) .a [(0 : Int) ≤ (1 : Int), (0 : Int) ≤ (63 : Int)] ⟨by omega, by omega, trivial⟩ ?_
 refine RZ (NT (RE ?_))
 refine NE [] .a .a [] (.int .u64 (IntKind.wrap IntKind.u64 (↑(BitVec.toNat (BitVec.ofInt (IntKind.bits IntKind.u64) (IntKind.wrap IntKind.u64 (IntKind.wrap IntKind.u64 n * 2 ^ min (Int.toNat 1) (IntKind.bits IntKind.u64))) ^^^ BitVec.ofInt (IntKind.bits IntKind.u64) (IntKind.wrap IntKind.u64 (Int.fdiv n (2 ^ min (Int.toNat 63) (IntKind.bits IntKind.i64)))))) : Int))) ?_
 exact ⟨congrArg _ (fold_math n h1 h2), rfl⟩
theorem unfold_spec (n : Int) (h1 : 0 ≤ n) (h2 : n < 18446744073709551616) : Does Tryz.prog 158 [.int .u64 n] [] (fun v hp' => v = .int .i64 (unfoldN n) ∧ hp' = []) := by
 refine fn_enter Tryz.func158 rfl 11 rfl fun w0 h0 => ?_
 refine SQ (RG ?_)
 refine RR [] .z (.i 2 (.int .i64 0) .a) .a ?_
 refine RZ (NT (SQ (RG ?_)))
 refine RV true [] .z (.i 2 (.int .i64 (IntKind.wrap IntKind.i64 (↑(BitVec.toNat (BitVec.ofInt (IntKind.bits IntKind.i64) (IntKind.wrap IntKind.i64 (Int.fdiv n (2 ^ min (Int.toNat 1) (IntKind.bits IntKind.u64)))) ^^^ BitVec.ofInt (IntKind.bits IntKind.i64) (IntKind.wrap IntKind.i64 (0 - IntKind.wrap IntKind.i64 (IntKind.wrap IntKind.u64 (↑(BitVec.toNat (BitVec.ofInt (IntKind.bits IntKind.u64) n &&& BitVec.ofInt (IntKind.bits IntKind.u64) 1)) : Int)))))) : Int))) .z) .a [(0 : Int) ≤ (1 : Int)] ⟨by omega, trivial⟩ ?_
 refine RZ (NT (RE ?_))
 refine NE [] .a .a [] (.int .i64 (IntKind.wrap IntKind.i64 (↑(BitVec.toNat (BitVec.ofInt (IntKind.bits IntKind.i64) (IntKind.wrap IntKind.i64 (Int.fdiv n (2 ^ min (Int.toNat 1) (IntKind.bits IntKind.u64)))) ^^^ BitVec.ofInt (IntKind.bits IntKind.i64) (IntKind.wrap IntKind.i64 (0 - IntKind.wrap IntKind.i64 (IntKind.wrap IntKind.u64 (↑(BitVec.toNat (BitVec.ofInt (IntKind.bits IntKind.u64) n &&& BitVec.ofInt (IntKind.bits IntKind.u64) 1)) : Int)))))) : Int))) ?_
 exact ⟨congrArg _ (unfold_math n h1 h2), rfl⟩
theorem rfold_spec (n : Int) (h1 : -9223372036854775808 ≤ n) (h2 : n ≤ 9223372036854775807) : Does Tryz.prog 149 [.int .i64 n] [] (fun v hp' => v = .int .u64 (foldN n) ∧ hp' = []) := by
 refine fn_enter Tryz.func149 rfl 14 rfl fun w0 h0 => ?_
 refine SQ (RG ?_)
 refine RR [] .z (.i 2 (.int .u64 0) .a) .a ?_
 refine RZ (NT (SQ (SQ (RG ?_))))
 refine RR [] .z (.i 4 (.bool (decide (n < (0 : Int)))) .a) .a ?_
 refine RZ (NT ?_)
 refine wpc_if ((n < 0)) (by kernel_rfl) (fun h => ?_) (fun h => ?_)
 ·refine SQ (RG ?_)
  refine RV true [] .z (.i 2 (.int .u64 (IntKind.u64.wrap (IntKind.u64.wrap (IntKind.u64.wrap (IntKind.i64.wrap (0 - (n + 1))) * 2) + 1))) (.d (.d (.k .a)))) .a ([inI64 (n + (1 : Int))]) ⟨by unfold inI64; omega, trivial⟩ ?_
  refine RZ (NT (RE (TR ?_)))
  refine NE [] .a .a [] (.int .u64 (IntKind.u64.wrap (IntKind.u64.wrap (IntKind.u64.wrap (IntKind.i64.wrap (0 - (n + 1))) * 2) + 1))) ?_
  exact ⟨congrArg _ (by simp only [u64_wrap, i64_wrap, foldN]; rw [if_pos h]; split <;> omega), rfl⟩
 ·refine SK (NT (SQ (RG ?_)))
  refine RR [] .z (.i 2 (.int .u64 (IntKind.u64.wrap (IntKind.u64.wrap n * 2))) .z) .a ?_
  refine RZ (NT (RE ?_))
  refine NE [] .a .a [] (.int .u64 (IntKind.u64.wrap (IntKind.u64.wrap n * 2))) ?_
  exact ⟨congrArg _ (by simp only [u64_wrap, foldN]; rw [if_neg h]; omega), rfl⟩
theorem runfold_spec (n : Int) (h1 : 0 ≤ n) (h2 : n < 18446744073709551616) : Does Tryz.prog 188 [.int .u64 n] [] (fun v hp' => v = .int .i64 (unfoldN n) ∧ hp' = []) := by
 refine fn_enter Tryz.func188 rfl 14 rfl fun w0 h0 => ?_
 have ht : n.tdiv 2 = n / 2 := Int.tdiv_eq_ediv_of_nonneg h1
 have hm : n.tmod 2 = n % 2 := Int.tmod_eq_emod_of_nonneg h1
 have hq0 : 0 ≤ n.tdiv 2 := by omega
 have hw1 : IntKind.i64.wrap (n.tdiv 2) = n / 2 := by rw [ht, i64_wrap]; split <;> omega
 have hw : IntKind.i64.wrap (0 - IntKind.i64.wrap (n.tdiv 2)) = - (n / 2) := by rw [hw1, i64_wrap]; split <;> omega
 refine SQ (RG ?_)
 refine RR [] .z (.i 2 (.int .i64 0) .a) .a ?_
 refine RZ (NT (SQ (SQ (RG ?_))))
 refine RV true [] .z (.i 5 (.bool (n.tmod (2 : Int) == (1 : Int))) .a) .a [(2 : Int) ≠ (0 : Int)] ⟨by omega, trivial⟩ ?_
 refine RZ (NT ?_)
 refine wpc_cond ((n.tmod 2 == 1)) (by kernel_rfl) (fun h => ?_) (fun h => ?_)
 ·refine SQ (RG ?_)
  refine RV true [] .z (.i 2 (.int .i64 (IntKind.i64.wrap (0 - IntKind.i64.wrap (n.tdiv 2)) - 1)) (.d (.d (.k .a)))) .a [(2 : Int) ≠ (0 : Int) ∧ (0 : Int) ≤ n.tdiv (2 : Int) ∧ n.tdiv (2 : Int) < (18446744073709551616 : Int), inI64 (IntKind.i64.wrap ((0 : Int) - IntKind.i64.wrap (n.tdiv (2 : Int))) - (1 : Int))] ⟨by omega, by unfold inI64; omega, trivial⟩ ?_
  refine RZ (NT (RE (TR ?_)))
  refine NE [] .a .a [] (.int .i64 (IntKind.i64.wrap (0 - IntKind.i64.wrap (n.tdiv 2)) - 1)) ?_
  have h' : n % 2 = 1 := by rw [← hm]; simpa using h
  exact ⟨congrArg _ (by rw [hw, unfoldN, if_pos h']), rfl⟩
 ·refine SK (NT (SQ (RG ?_)))
  refine RV true [] .z (.i 2 (.int .i64 (IntKind.i64.wrap (n.tdiv 2))) .z) .a [(2 : Int) ≠ (0 : Int) ∧ (0 : Int) ≤ n.tdiv (2 : Int) ∧ n.tdiv (2 : Int) < (18446744073709551616 : Int)] ⟨by omega, trivial⟩ ?_
  refine RZ (NT (RE ?_))
  refine NE [] .a .a [] (.int .i64 (IntKind.i64.wrap (n.tdiv 2))) ?_
  have h' : ¬ n % 2 = 1 := by rw [← hm]; simpa using h
  exact ⟨congrArg _ (by rw [hw1, unfoldN, if_neg h']), rfl⟩
def vb (f : Nat) : List UInt8 := if h : f < 128 then [UInt8.ofNat f] else UInt8.ofNat (f % 128 + 128) :: vb (f / 128)
termination_by f
decreasing_by omega
theorem vb_lt {f : Nat} (h : f < 128) : vb f = [UInt8.ofNat f] := by rw [vb, dif_pos h]
theorem vb_ge {f : Nat} (h : ¬ f < 128) : vb f = UInt8.ofNat (f % 128 + 128) :: vb (f / 128) := by rw [vb, dif_neg h]
theorem vb_len : ∀ (k f : Nat), f < 128 ^ (k + 1) → (vb f).length ≤ k + 1
 | 0, f, h => by rw [vb_lt (by simpa using h)]; simp
 | k + 1, f, h => by
  by_cases hf : f < 128
  ·rw [vb_lt hf]; simp
  ·rw [vb_ge hf, List.length_cons]
   have := vb_len k (f / 128) (by rw [Nat.div_lt_iff_lt_mul (by decide)]; rw [Nat.pow_succ] at h; exact h)
   omega
theorem vb_len10 {f : Nat} (h : f < 18446744073709551616) : (vb f).length ≤ 10 := vb_len 9 f (Nat.lt_of_lt_of_le h (by decide))
def encI (n : Int) : List UInt8 := vb (foldN n).toNat
theorem foldN_nn (n : Int) : 0 ≤ foldN n := by unfold foldN; split <;> omega
theorem foldN_lt {n : Int} (h1 : -9223372036854775808 ≤ n) (h2 : n ≤ 9223372036854775807) : foldN n < 18446744073709551616 := by unfold foldN; split <;> omega
theorem encI_len {n : Int} (h1 : -9223372036854775808 ≤ n) (h2 : n ≤ 9223372036854775807) : (encI n).length ≤ 10 := vb_len10 (by have := foldN_lt h1 h2; have := foldN_nn n; omega)
theorem u8_wrap (x : Int) : IntKind.u8.wrap x = x % 256 := by simp [IntKind.wrap, IntKind.signed, IntKind.bits]
set_option maxRecDepth 20000 in
theorem or128 : ∀ g : Nat, g < 256 → g ||| 128 = g % 128 + 128 := by decide
theorem or_math (f : Nat) : IntKind.u8.wrap ↑(BitVec.ofInt IntKind.u8.bits (IntKind.u8.wrap (f : Int)) ||| BitVec.ofInt IntKind.u8.bits 128).toNat = ((UInt8.ofNat (f % 128 + 128)).toNat : Int) := by
 have e8 : IntKind.u8.bits = 8 := rfl
 rw [e8, BitVec.toNat_or, u8_wrap, u8_wrap]
 have h1 : (BitVec.ofInt 8 ((f : Int) % 256)).toNat = f % 256 := by rw [BitVec.toNat_ofInt]; omega
 have h2 : (BitVec.ofInt 8 128).toNat = 128 := by decide
 rw [h1, h2, or128 _ (Nat.mod_lt _ (by decide)), UInt8.toNat_ofNat']
 omega
theorem low_math (f : Nat) (h : f < 128) : IntKind.u8.wrap (f : Int) = ((UInt8.ofNat f).toNat : Int) := by
 rw [u8_wrap, UInt8.toNat_ofNat']; omega
theorem shr7 (f : Nat) : (f : Int).fdiv (2 ^ min (Int.toNat 7) IntKind.u64.bits) = ((f / 128 : Nat) : Int) := by
 have e : (2 : Int) ^ min (Int.toNat 7) IntKind.u64.bits = 128 := by decide
 rw [e, Int.fdiv_eq_ediv_of_nonneg _ (by omega)]
 omega
structure PI (F : Nat) where
 f : Nat
 ys : List UInt8
 a : Option Addr
 c : Nat
 h : ys ++ vb f = vb F
 hf : f < 18446744073709551616
theorem PutInt_spec (a : Option Addr) (c : Nat) (bs : List UInt8) (n : Int) (h1 : -9223372036854775808 ≤ n) (h2 : n ≤ 9223372036854775807) (hl : bs.length ≤ 1099511627776) :
  Does Tryz.prog 46 [.slice a bs.length c, .int .i64 n] [row 5 1 a bs.length c (u8s bs)] (fun v hp' => ∃ a' c', v = .slice a' (bs ++ encI n).length c' ∧ hp' = [row 5 1 a' (bs ++ encI n).length c' (u8s (bs ++ encI n))]) := by
 refine fn_enter Tryz.func46 rfl 23 rfl fun w0 h0 => ?_
 obtain ⟨F, hF⟩ : ∃ F : Nat, (F : Int) = foldN n := ⟨(foldN n).toNat, Int.toNat_of_nonneg (foldN_nn n)⟩
 have hF2 : F < 18446744073709551616 := by have := foldN_lt h1 h2; omega
 have hE : encI n = vb F := by unfold encI; rw [← hF]; rfl
 refine SQ (RG ?_)
 refine RR [] .z (.i 4 (.slice none 0 0) .a) .a ?_
 refine RZ (NT (SQ (RG ?_)))
 refine RR [] (.d .a) (.i 6 (.int .i64 n) (.k (.k .z))) .a ?_
 refine RC (dst := some 7) [] .a (fold_spec n h1 h2) ?_
 rintro v hp' ⟨rfl, rfl⟩
 rw [← hF, hE]
 refine RR [] .z (.i 5 (.int .u64 (↑F : Int)) (.d (.d (.k .a)))) .a ?_
 refine RZ (NT (SQ (BK ?_)))
 refine wpc_loop (X := PI F) (fun x => St.mk [(5, .int .u64 (x.f : Int)), (0, .slice x.a (bs ++ x.ys).length x.c), (4, .slice none 0 0)] [row 5 1 x.a (bs ++ x.ys).length x.c (u8s (bs ++ x.ys))]) (fun x => x.f) ⟨F, [], a, c, rfl, hF2⟩ (by simp only [List.append_nil]; exact ent_fr (by kernel_rfl)) ?_
 rintro ⟨f, ys, a1, c1, hi, hf⟩
 dsimp only
 have hlen := congrArg List.length hi
 rw [List.length_append] at hlen
 have h10 := vb_len10 hF2
 have hL : (bs ++ ys).length = bs.length + ys.length := List.length_append
 refine SQ (SQ (RG ?_))
 refine RR [] .z (.i 9 (.bool (decide ((↑f : Int) ≥ (128 : Int)))) .a) .a ?_
 refine RZ (NT ?_)
 refine wpc_if (((↑f : Int) ≥ 128)) (by kernel_rfl) (fun hge => ?_) (fun hge => ?_)
 ·have hv := vb_ge (f := f) (by omega)
  rw [hv] at hi
  rw [hv, List.length_cons] at hlen
  refine SK (NT (SQ (BK (RG ?_))))
  refine RN [] (.d (.d (.d (.d (.d .a))))) 16 (fun g1 => (.slice (some ⟨g1, 0, none⟩) 1 1)) (.i 12 (.slice a1 (bs ++ ys).length c1) (.d (.k .a))) .a 5 [.int .u8 (IntKind.u8.wrap (↑(BitVec.ofInt IntKind.u8.bits (IntKind.u8.wrap (↑f : Int)) ||| BitVec.ofInt IntKind.u8.bits 128).toNat : Int))] fun g1 => ?_
  refine wpr_ent (ent_turn 1 (ro (some ⟨g1, 0, none⟩) (u8s [UInt8.ofNat (f % 128 + 128)])) rfl (turn_ro [UInt8.ofNat (f % 128 + 128)] (by rw [or_math]; rfl)) rfl) ?_
  refine wpr_app (a := a1) (n := ((bs ++ ys).length)) (cap := c1) (x := (.slice (some ⟨g1, 0, none⟩) 1 1)) (t := 39) (xt := 39) (dst := some 17) (by kernel_rfl) (e := 5) (sz := 1) (bytes := 1) (by kernel_rfl) 0 (xs := (u8s (bs ++ ys))) (by kernel_rfl) (m := 1) (news := (u8s [UInt8.ofNat (f % 128 + 128)])) (fun w h => src_ro h 1 rfl rfl (fun e => by cases e)) (by unfold maxLen; omega) (by omega) ?_
  intro a2 c2 hn
  rw [show (bs ++ ys).length + 1 = (bs ++ (ys ++ [UInt8.ofNat (f % 128 + 128)])).length from by simp; omega, show u8s (bs ++ ys) ++ u8s [UInt8.ofNat (f % 128 + 128)] = u8s (bs ++ (ys ++ [UInt8.ofNat (f % 128 + 128)])) from by simp [u8s]]
  refine RR [] .z (.i 0 (.slice a2 (bs ++ (ys ++ [UInt8.ofNat (f % 128 + 128)])).length c2) (.d (.d (.d (.k (.d (.k .a))))))) .a ?_
  refine RZ (BN (NT (RG ?_)))
  refine RV true [] .z (.i 5 (.int .u64 (Int.fdiv (↑f : Int) (2 ^ min (Int.toNat 7) (IntKind.bits IntKind.u64)))) (.k (.d (.k .a)))) .a [(0 : Int) ≤ (7 : Int)] ⟨by omega, trivial⟩ ?_
  refine RZ ?_
  refine nx_ent (ent_set 5 (.int .u64 (Int.fdiv (↑f : Int) (2 ^ min (Int.toNat 7) (IntKind.bits IntKind.u64)))) (Value.int .u64 ((f / 128 : Nat) : Int)) (by kernel_rfl) (congrArg _ (shr7 f))) ?_
  exact fun a' w hS => ⟨⟨f / 128, ys ++ [UInt8.ofNat (f % 128 + 128)], a2, c2, by rw [List.append_assoc]; exact hi, by omega⟩, by dsimp only; omega, ent_fr (by kernel_rfl) _ _ (ent_hp [0] rfl _ _ hS)⟩
 ·have hv := vb_lt (f := f) (by omega)
  rw [hv] at hi
  refine EX (TE (TE (BH (NT (SQ (RG ?_))))))
  refine RN [] (.d (.d (.d (.d .a)))) 21 (fun g1 => (.slice (some ⟨g1, 0, none⟩) 1 1)) (.i 18 (.slice a1 (bs ++ ys).length c1) (.d (.d (.d (.k .a))))) .a 5 [.int .u8 (IntKind.u8.wrap (↑f : Int))] fun g1 => ?_
  refine wpr_ent (ent_turn 1 (ro (some ⟨g1, 0, none⟩) (u8s [UInt8.ofNat f])) rfl (turn_ro [UInt8.ofNat f] (by rw [low_math f (by omega)]; rfl)) rfl) ?_
  refine wpr_app (a := a1) (n := ((bs ++ ys).length)) (cap := c1) (x := (.slice (some ⟨g1, 0, none⟩) 1 1)) (t := 39) (xt := 39) (dst := some 22) (by kernel_rfl) (e := 5) (sz := 1) (bytes := 1) (by kernel_rfl) 0 (xs := (u8s (bs ++ ys))) (by kernel_rfl) (m := 1) (news := (u8s [UInt8.ofNat f])) (fun w h => src_ro h 1 rfl rfl (fun e => by cases e)) (by unfold maxLen; omega) (by omega) ?_
  intro a2 c2 hn
  rw [show (bs ++ ys).length + 1 = (bs ++ vb F).length from by rw [← hi]; simp; omega, show u8s (bs ++ ys) ++ u8s [UInt8.ofNat f] = u8s (bs ++ vb F) from by rw [← hi]; simp [u8s]]
  refine RR [] .z (.i 4 (.slice a2 (bs ++ vb F).length c2) .z) .a ?_
  refine RZ (NT (RE ?_))
  refine NE [0] (.k .z) (.d (.k .a)) [] (.slice a2 (bs ++ vb F).length c2) ?_
  exact ⟨a2, c2, rfl, rfl⟩
theorem quo128 (f : Nat) : (f : Int).tdiv 128 = ((f / 128 : Nat) : Int) := by
 rw [Int.tdiv_eq_ediv_of_nonneg (by omega)]; omega
theorem add128 (f : Nat) : IntKind.u8.wrap (IntKind.u8.wrap ((f : Int).tmod 128) + 128) = ((UInt8.ofNat (f % 128 + 128)).toNat : Int) := by
 rw [Int.tmod_eq_emod_of_nonneg (by omega), u8_wrap, u8_wrap, UInt8.toNat_ofNat']; omega
theorem RInt_spec (n : Int) (h1 : -9223372036854775808 ≤ n) (h2 : n ≤ 9223372036854775807) :
  Does Tryz.prog 105 [.int .i64 n] [] (fun v hp' => v = .string (mkS (encI n)) ∧ hp' = []) := by
 refine fn_enter Tryz.func105 rfl 24 rfl fun w0 h0 => ?_
 obtain ⟨F, hF⟩ : ∃ F : Nat, (F : Int) = foldN n := ⟨(foldN n).toNat, Int.toNat_of_nonneg (foldN_nn n)⟩
 have hF2 : F < 18446744073709551616 := by have := foldN_lt h1 h2; omega
 have hE : encI n = vb F := by unfold encI; rw [← hF]; rfl
 refine SQ (RG ?_)
 refine RR [] .z (.i 2 (.string ⟨#[]⟩) .a) .a ?_
 refine RZ (NT (SQ (RG ?_)))
 refine RR [] (.d .a) (.i 5 (.int .i64 n) (.k .z)) .a ?_
 refine RCA (dst := some 6) (rfold_spec n h1 h2) ?_
 rintro v hp' ⟨rfl, rfl⟩
 rw [← hF, hE]
 refine RR [] .z (.i 3 (.int .u64 (↑F : Int)) (.d (.d (.k .a)))) .a ?_
 refine RZ (NT (SQ (RG ?_)))
 refine RR [] .z (.i 4 (.slice none 0 0) .a) .a ?_
 refine RZ (NT (SQ (BK ?_)))
 refine wpc_ent (ent_nil 5 1) ?_
 refine wpc_loop (X := PI F) (fun x => St.mk [(4, .slice x.a x.ys.length x.c), (3, .int .u64 (x.f : Int)), (2, .string (mkS []))] [row 5 1 x.a x.ys.length x.c (u8s x.ys)]) (fun x => x.f) ⟨F, [], none, 0, rfl, hF2⟩ (ent_fr (by kernel_rfl)) ?_
 rintro ⟨f, ys, a1, c1, hi, hf⟩
 dsimp only
 have hlen := congrArg List.length hi
 rw [List.length_append] at hlen
 have h10 := vb_len10 hF2
 refine SQ (SQ (RG ?_))
 refine RR [] .z (.i 8 (.bool (decide ((↑f : Int) ≥ (128 : Int)))) .a) .a ?_
 refine RZ (NT ?_)
 refine wpc_if (((↑f : Int) ≥ 128)) (by kernel_rfl) (fun hge => ?_) (fun hge => ?_)
 ·have hq := quo128 f
  have hv := vb_ge (f := f) (by omega)
  rw [hv] at hi
  rw [hv, List.length_cons] at hlen
  refine SK (NT (BK (SQ (RG ?_))))
  refine wpr_new (l₂ := [6, 7]) true [0, 1, 2, 3, 4, 5] [] (fun g1 => [(14, .slice (some ⟨g1, 0, none⟩) 1 1), (9, .slice a1 ys.length c1), (4, .slice a1 ys.length c1), (3, .int .u64 (↑f : Int)), (2, .string (mkS []))]) (fun g1 => ([row 5 1 a1 ys.length c1 (u8s ys), .blk g1 5 [.int .u8 (IntKind.u8.wrap (IntKind.u8.wrap ((↑f : Int).tmod 128) + 128))]])) (fun g1 => [(128 : Int) ≠ (0 : Int)]) (fun g1 => by kernel_rfl) (fun g1 => by kernel_rfl) (fun g1 => ⟨by omega, trivial⟩) fun g1 => ?_
  refine wpr_ent (ent_turn 1 (ro (some ⟨g1, 0, none⟩) (u8s [UInt8.ofNat (f % 128 + 128)])) rfl (turn_ro [UInt8.ofNat (f % 128 + 128)] (by rw [add128]; rfl)) rfl) ?_
  refine wpr_app (a := a1) (n := ys.length) (cap := c1) (x := (.slice (some ⟨g1, 0, none⟩) 1 1)) (t := 39) (xt := 39) (dst := some 15) (by kernel_rfl) (e := 5) (sz := 1) (bytes := 1) (by kernel_rfl) 0 (xs := (u8s ys)) (by kernel_rfl) (m := 1) (news := (u8s [UInt8.ofNat (f % 128 + 128)])) (fun w h => src_ro h 1 rfl rfl (fun e => by cases e)) (by unfold maxLen; omega) (by omega) ?_
  intro a2 c2 hn
  rw [show ys.length + 1 = (ys ++ [UInt8.ofNat (f % 128 + 128)]).length from by simp, show u8s ys ++ u8s [UInt8.ofNat (f % 128 + 128)] = u8s (ys ++ [UInt8.ofNat (f % 128 + 128)]) from by simp [u8s]]
  refine RR [] .z (.i 4 (.slice a2 (ys ++ [UInt8.ofNat (f % 128 + 128)]).length c2) (.d (.d (.d (.d (.k .a)))))) .a ?_
  refine RZ (NT (RG ?_))
  refine RV true [] .z (.i 3 (.int .u64 ((↑f : Int).tdiv 128)) (.k (.d (.k .a)))) .a [(128 : Int) ≠ (0 : Int) ∧ (0 : Int) ≤ (↑f : Int).tdiv (128 : Int) ∧ (↑f : Int).tdiv (128 : Int) < (18446744073709551616 : Int)] ⟨by omega, trivial⟩ ?_
  refine RZ (BN ?_)
  refine nx_ent (ent_set 3 (.int .u64 ((↑f : Int).tdiv 128)) (Value.int .u64 ((f / 128 : Nat) : Int)) (by kernel_rfl) (congrArg _ (quo128 f))) ?_
  exact fun a' w hS => ⟨⟨f / 128, ys ++ [UInt8.ofNat (f % 128 + 128)], a2, c2, by rw [List.append_assoc]; exact hi, by omega⟩, by dsimp only; omega, ent_fr (by kernel_rfl) _ _ (ent_hp [0] rfl _ _ hS)⟩
 ·have hv := vb_lt (f := f) (by omega)
  rw [hv] at hi
  refine EX (TE (TE (BH (NT (SQ (RG ?_))))))
  refine RN [] (.d (.d (.d (.d .a)))) 21 (fun g1 => (.slice (some ⟨g1, 0, none⟩) 1 1)) (.i 18 (.slice a1 ys.length c1) (.d (.d (.d (.k .a))))) .a 5 [.int .u8 (IntKind.u8.wrap (↑f : Int))] fun g1 => ?_
  refine wpr_ent (ent_turn 1 (ro (some ⟨g1, 0, none⟩) (u8s [UInt8.ofNat f])) rfl (turn_ro [UInt8.ofNat f] (by rw [low_math f (by omega)]; rfl)) rfl) ?_
  refine wpr_app (a := a1) (n := ys.length) (cap := c1) (x := (.slice (some ⟨g1, 0, none⟩) 1 1)) (t := 39) (xt := 39) (dst := some 22) (by kernel_rfl) (e := 5) (sz := 1) (bytes := 1) (by kernel_rfl) 0 (xs := (u8s ys)) (by kernel_rfl) (m := 1) (news := (u8s [UInt8.ofNat f])) (fun w h => src_ro h 1 rfl rfl (fun e => by cases e)) (by unfold maxLen; omega) (by omega) ?_
  intro a2 c2 hn
  rw [show ys.length + 1 = (vb F).length from by rw [← hi]; simp, show u8s ys ++ u8s [UInt8.ofNat f] = u8s (vb F) from by rw [← hi]; simp [u8s]]
  refine wpr_eq (b2s (a := 39) (b := 9) (ad := a2) (n := ((vb F).length)) (c := c2) (dst := some 23) (by kernel_rfl) (by kernel_rfl) (vb F) (by first | rfl | simp) (fun w h => b2s_row h 0 rfl)) ?_
  refine RR [] .z (.i 2 (.string (mkS (vb F))) .z) .a ?_
  refine RZ (NT (RE ?_))
  refine NE [] .z .a [] (.string (mkS (vb F))) ?_
  exact ⟨rfl, rfl⟩
def encB (b : Bool) : List UInt8 := [cond b 1 0]
theorem PutBool_spec (a : Option Addr) (c : Nat) (bs : List UInt8) (b : Bool) (hl : bs.length ≤ 1099511627776) :
  Does Tryz.prog 49 [.slice a bs.length c, .bool b] [row 5 1 a bs.length c (u8s bs)] (fun v hp' => ∃ a' c', v = .slice a' (bs ++ encB b).length c' ∧ hp' = [row 5 1 a' (bs ++ encB b).length c' (u8s (bs ++ encB b))]) := by
 cases b with
 | true =>
  refine fn_enter Tryz.func49 rfl 12 rfl fun w0 h0 => ?_
  refine SQ (RG ?_)
  refine RR [] .z (.i 4 (.slice none 0 0) .a) .a ?_
  refine RZ (NT (SQ (SQ (RG ?_))))
  refine RR [] .z (.i 5 (.bool true) (.k (.k .z))) .a ?_
  refine RZ (NT (CT (SQ (RG ?_))))
  refine RN [] (.d (.d .a)) 7 (fun g1 => (.slice (some ⟨g1, 0, none⟩) 1 1)) (.i 6 (.slice a bs.length c) (.d (.k .a))) .a 5 [.int .u8 1] fun g1 => ?_
  refine wpr_ent (ent_turn 1 (ro (some ⟨g1, 0, none⟩) (u8s [1])) rfl (turn_ro [1] rfl) rfl) ?_
  refine wpr_app (a := a) (n := bs.length) (cap := c) (x := (.slice (some ⟨g1, 0, none⟩) 1 1)) (t := 39) (xt := 39) (dst := some 8) (by kernel_rfl) (e := 5) (sz := 1) (bytes := 1) (by kernel_rfl) 0 (xs := (u8s bs)) (by kernel_rfl) (m := 1) (news := (u8s [1])) (fun w h => src_ro h 1 rfl rfl (fun e => by cases e)) (by unfold maxLen; omega) (by omega) ?_
  intro a2 c2 hn
  rw [show bs.length + 1 = (bs ++ encB true).length from by simp [encB], show u8s bs ++ u8s [1] = u8s (bs ++ encB true) from by simp [u8s, encB]]
  refine RR [] .z (.i 4 (.slice a2 (bs ++ encB true).length c2) (.d (.d (.d (.d (.k .a)))))) .a ?_
  refine RZ (NT (RE (TR ?_)))
  refine NE [0] (.k .z) (.d (.k .a)) [] (.slice a2 (bs ++ encB true).length c2) ?_
  exact ⟨a2, c2, rfl, rfl⟩
 | false =>
  refine fn_enter Tryz.func49 rfl 12 rfl fun w0 h0 => ?_
  refine SQ (RG ?_)
  refine RR [] .z (.i 4 (.slice none 0 0) .a) .a ?_
  refine RZ (NT (SQ (SQ (RG ?_))))
  refine RR [] .z (.i 5 (.bool false) (.k (.k .z))) .a ?_
  refine RZ (NT (CF (SK (NT (SQ (RG ?_))))))
  refine RN [] (.d (.d .a)) 10 (fun g1 => (.slice (some ⟨g1, 0, none⟩) 1 1)) (.i 9 (.slice a bs.length c) (.d (.k .z))) .a 5 [.int .u8 0] fun g1 => ?_
  refine wpr_ent (ent_turn 1 (ro (some ⟨g1, 0, none⟩) (u8s [0])) rfl (turn_ro [0] rfl) rfl) ?_
  refine wpr_app (a := a) (n := bs.length) (cap := c) (x := (.slice (some ⟨g1, 0, none⟩) 1 1)) (t := 39) (xt := 39) (dst := some 11) (by kernel_rfl) (e := 5) (sz := 1) (bytes := 1) (by kernel_rfl) 0 (xs := (u8s bs)) (by kernel_rfl) (m := 1) (news := (u8s [0])) (fun w h => src_ro h 1 rfl rfl (fun e => by cases e)) (by unfold maxLen; omega) (by omega) ?_
  intro a2 c2 hn
  rw [show bs.length + 1 = (bs ++ encB false).length from by simp [encB], show u8s bs ++ u8s [0] = u8s (bs ++ encB false) from by simp [u8s, encB]]
  refine RR [] .z (.i 4 (.slice a2 (bs ++ encB false).length c2) .z) .a ?_
  refine RZ (NT (RE ?_))
  refine NE [0] (.k .z) (.d (.k .a)) [] (.slice a2 (bs ++ encB false).length c2) ?_
  exact ⟨a2, c2, rfl, rfl⟩
theorem RBool_spec (b : Bool) : Does Tryz.prog 107 [.bool b] [] (fun v hp' => v = .string (mkS (encB b)) ∧ hp' = []) := by
 cases b with
 | true =>
  refine fn_enter Tryz.func107 rfl 4 rfl fun w0 h0 => ?_
  refine SQ (RG ?_)
  refine RR [] .z (.i 2 (.string ⟨#[]⟩) .a) .a ?_
  refine RZ (NT (SQ (SQ (RG ?_))))
  refine RR [] .z (.i 3 (.bool true) (.k .z)) .a ?_
  refine RZ (NT (CT (SQ (RG ?_))))
  refine RR [] .z (.i 2 (.string { data := #[1] }) .z) .a ?_
  refine RZ (NT (RE (TR ?_)))
  refine NE [] .a .a [] (.string { data := #[1] }) ?_
  exact ⟨rfl, rfl⟩
 | false =>
  refine fn_enter Tryz.func107 rfl 4 rfl fun w0 h0 => ?_
  refine SQ (RG ?_)
  refine RR [] .z (.i 2 (.string ⟨#[]⟩) .a) .a ?_
  refine RZ (NT (SQ (SQ (RG ?_))))
  refine RR [] .z (.i 3 (.bool false) (.k .z)) .a ?_
  refine RZ (NT (CF (SK (NT (SQ (RG ?_))))))
  refine RR [] .z (.i 2 (.string { data := #[0] }) .z) .a ?_
  refine RZ (NT (RE ?_))
  refine NE [] .a .a [] (.string { data := #[0] }) ?_
  exact ⟨rfl, rfl⟩
def encT (t : List UInt8) : List UInt8 := encI t.length ++ t
theorem PutText_spec (a : Option Addr) (c : Nat) (bs t : List UInt8) (hl : bs.length ≤ 1099511627000) (ht : t.length ≤ 1099511627000) :
  Does Tryz.prog 47 [.slice a bs.length c, .string (mkS t)] [row 5 1 a bs.length c (u8s bs)] (fun v hp' => ∃ a' c', v = .slice a' (bs ++ encT t).length c' ∧ hp' = [row 5 1 a' (bs ++ encT t).length c' (u8s (bs ++ encT t))]) := by
 refine fn_enter Tryz.func47 rfl 11 rfl fun w0 h0 => ?_
 have hE := encI_len (n := t.length) (by omega) (by omega)
 have hL : (bs ++ encI t.length).length = bs.length + (encI t.length).length := List.length_append
 refine SQ (RG ?_)
 refine RR [] .z (.i 4 (.slice none 0 0) .a) .a ?_
 refine RZ (NT (SQ (RG ?_)))
 refine RR [] (.d (.d (.d .a))) (.i 7 (.int .i64 (↑t.length : Int)) (.i 5 (.slice a bs.length c) (.k (.d (.k .a))))) .a ?_
 refine RCA (dst := some 8) (PutInt_spec a c bs t.length (by omega) (by omega) (by omega)) ?_
 rintro v hp' ⟨a1, c1, rfl, rfl⟩
 refine RR [] (.d .a) (.i 9 (.string (mkS t)) (.k (.d (.d (.k .z))))) .a ?_
 refine wpr_app (a := a1) (n := ((bs ++ encI (↑t.length : Int)).length)) (cap := c1) (x := (.string (mkS t))) (t := 39) (xt := 9) (dst := some 10) (by kernel_rfl) (e := 5) (sz := 1) (bytes := 1) (by kernel_rfl) 0 (xs := (u8s (bs ++ encI (↑t.length : Int)))) (by kernel_rfl) (m := (t.length)) (news := (u8s t)) (fun w h => src_str (mkS t)) (by unfold maxLen; omega) (by omega) ?_
 intro a2 c2 hn
 rw [show (bs ++ encI t.length).length + t.length = (bs ++ encT t).length from by simp [encT]; omega, show u8s (bs ++ encI t.length) ++ u8s t = u8s (bs ++ encT t) from by simp [u8s, encT]]
 refine RR [] .z (.i 4 (.slice a2 (bs ++ encT t).length c2) .z) .a ?_
 refine RZ (NT (RE ?_))
 refine NE [0] .a .z [] (.slice a2 (bs ++ encT t).length c2) ?_
 exact ⟨a2, c2, rfl, rfl⟩
theorem RText_spec (t : List UInt8) (ht : t.length ≤ 1099511627000) :
  Does Tryz.prog 106 [.string (mkS t)] [] (fun v hp' => v = .string (mkS (encT t)) ∧ hp' = []) := by
 refine fn_enter Tryz.func106 rfl 8 rfl fun w0 h0 => ?_
 have hE := encI_len (n := t.length) (by omega) (by omega)
 refine SQ (RG ?_)
 refine RR [] .z (.i 2 (.string ⟨#[]⟩) .a) .a ?_
 refine RZ (NT (SQ (RG ?_)))
 refine RR [] (.d (.d .a)) (.i 4 (.int .i64 (↑t.length : Int)) .a) .a ?_
 refine RCA (dst := some 5) (RInt_spec t.length (by omega) (by omega)) ?_
 rintro v hp' ⟨rfl, rfl⟩
 refine RV true [] .z (.i 2 (.string (mkS (encI (↑t.length : Int) ++ t))) .z) .a ([(encI (↑t.length : Int)).length + t.length ≤ (9223372036854775807 : Nat)]) ⟨by omega, trivial⟩ ?_
 refine RZ (NT (RE ?_))
 refine NE [] .a .a [] (.string (mkS (encI (↑t.length : Int) ++ t))) ?_
 exact ⟨rfl, rfl⟩
/-! ### a reader -/
def rdr (r : Nat) (s : List UInt8) (at_ e : Int) : Ch := .blk r 184 [.bool true, .string (mkS s), .int .i64 at_, .int .i64 e]
theorem NewReader_spec (a : Option Addr) (c : Nat) (bs : List UInt8) (ha : a = none → bs = []) :
  Does Tryz.prog 57 [.slice a bs.length c] [ro a (u8s bs)] (fun v hp' => ∃ r, v = .pointer (some ⟨r, 0, none⟩) ∧ hp' = [rdr r bs 0 0]) := by
 refine fn_enter Tryz.func57 rfl 7 rfl fun w0 h0 => ?_
 refine SQ (RG ?_)
 refine RR [] .z (.i 2 (.pointer none) .a) .a ?_
 refine RZ (NT (SQ (RG ?_)))
 refine RR [] (.d .a) (.i 3 (.slice a bs.length c) (.k .z)) .a ?_
 refine wpr_eq (b2s (a := 39) (b := 9) (ad := a) (n := bs.length) (c := c) (dst := some 4) (by kernel_rfl) (by kernel_rfl) bs (by first | rfl | simp) (fun w h => b2s_ro h 0 rfl)) ?_
 refine RP [] (.d (.d .a)) 6 (.d (.d (.k .a))) .a 184 [.bool true, .string (mkS bs), .int .i64 0, .int .i64 0] fun g1 => ?_
 refine RR [] .z (.i 2 (.pointer (some ⟨g1, 0, none⟩)) .z) .a ?_
 refine RZ (NT (RE ?_))
 refine NE [1] (.d (.k .a)) (.k .z) [] (.pointer (some ⟨g1, 0, none⟩)) ?_
 exact ⟨_, rfl, rfl⟩
theorem Err_spec (r : Nat) (s : List UInt8) (at_ e : Int) : Does Tryz.prog 110 [.pointer (some ⟨r, 0, none⟩)] [rdr r s at_ e] (fun v hp' => v = .int .i64 e ∧ hp' = [rdr r s at_ e]) := by
 refine fn_enter Tryz.func110 rfl 16 rfl fun w0 h0 => ?_
 unfold rdr
 refine SQ (RG ?_)
 refine RR [] .z (.i 2 (.int .i64 0) .a) .a ?_
 refine RZ (NT (SQ (SQ (RG ?_))))
 refine RR [0] .z (.i 11 (.bool false) .a) .a ?_
 refine RZ (NT (CF (SK (NT (SQ (RG ?_))))))
 refine RR [0] .z (.i 2 (.int .i64 e) .z) .a ?_
 refine RZ (NT (RE ?_))
 refine NE [0] .a .z [] (.int .i64 e) ?_
 exact ⟨rfl, rfl⟩
def endE (s : List UInt8) (at_ e : Int) : Int := if e ≠ 0 then e else if at_ < s.length then 5 else 0
theorem End_spec (r : Nat) (s : List UInt8) (at_ e : Int) : Does Tryz.prog 65 [.pointer (some ⟨r, 0, none⟩)] [rdr r s at_ e] (fun v hp' => v = .int .i64 (endE s at_ e) ∧ hp' = [rdr r s at_ e]) := by
 refine fn_enter Tryz.func65 rfl 19 rfl fun w0 h0 => ?_
 refine SQ (RG ?_)
 refine RR [] .z (.i 2 (.int .i64 0) .a) (.i (.blk r 184 [.bool true, .string (mkS s), .int .i64 at_, .int .i64 e]) .z) ?_
 refine RZ (NT (SQ (SQ (RG ?_))))
 refine RR [] (.d .a) (.i 4 (.pointer (some ⟨r, 0, none⟩)) .a) .a ?_
 refine RCA (dst := some 5) (Err_spec r s at_ e) ?_
 rintro v hp' ⟨rfl, rfl⟩
 unfold rdr
 refine RR [] .z (.i 3 (.int .i64 e) (.d (.d (.k .a)))) .a ?_
 refine RZ (NT (SQ (RG ?_)))
 refine RR [] .z (.i 7 (.bool (e != (0 : Int))) .a) .a ?_
 refine RZ (NT ?_)
 refine wpc_cond ((e != 0)) (by kernel_rfl) (fun he => ?_) (fun he => ?_)
 ·refine SQ (RG ?_)
  refine RR [] .z (.i 2 (.int .i64 e) (.d (.d (.d (.k .a))))) .a ?_
  refine RZ (NT (RE (TR ?_)))
  refine NE [0] .a .z [] (.int .i64 e) ?_
  exact ⟨by rw [endE, if_pos (by simpa using he)], rfl⟩
 ·refine SK (NT (SQ (SQ ?_)))
  refine wpc_draw (by kernel_rfl) [.blk r 184 [.bool true, .string (mkS s), .int .i64 at_, .int .i64 e]] (sub_of [0] (by kernel_rfl)) 10 (by kernel_rfl) ?_
  refine TK 0 [(0, []), (1, []), (2, []), (3, [0]), (4, []), (5, []), (6, []), (7, [0]), (8, []), (9, [])] (.i 18 (.bool (decide (at_ < (↑s.length : Int)))) (.d (.d (.k .z)))) (#[true, true, true, true, true, true, true, true, true, true]) ?_
  refine wpa_done 0 (by kernel_rfl) ?_
  refine NT ?_
  refine wpc_if ((at_ < (↑s.length : Int))) (by kernel_rfl) (fun hlt => ?_) (fun hlt => ?_)
  ·refine SQ (RG ?_)
   refine RR [] .z (.i 2 (.int .i64 5) .z) .a ?_
   refine RZ (NT (RE (TR ?_)))
   refine NE [0] .a .z [] (.int .i64 5) ?_
   exact ⟨by rw [endE, if_neg (by simpa using he), if_pos hlt], rfl⟩
  ·refine SK (NT (SQ (RG ?_)))
   refine RR [] .z (.d (.k .a)) .a ?_
   refine RZ (NT (RE ?_))
   refine NE [0] .a .z [] (.int .i64 0) ?_
   exact ⟨by rw [endE, if_neg (by simpa using he), if_neg hlt], rfl⟩
end Go.Proofs.YtgcfomhlgipllaaGreatDoor
namespace Go.Proofs.YtgcfomhlgipllaaGreatDoor
open Go Go.Sx
def numGo : Nat → Nat → Nat → List UInt8 → Int × Int × Int
 | 0, _, _, _ => (0, 0, 4)
 | _ + 1, _, _, [] => (0, 0, 3)
 | k + 1, i, f, c :: s =>
  if i = 9 ∧ c ≠ 1 then (0, 0, 4)
  else if 128 ≤ c.toNat then numGo k (i + 1) (f + c.toNat % 128 * 128 ^ i) s
  else if c = 0 ∧ 0 < i then (0, 0, 4)
  else (unfoldN (f + c.toNat % 128 * 128 ^ i : Nat), i + 1, 0)
def num (s : List UInt8) : Int × Int × Int := numGo 10 0 0 s
theorem wbt_at {s : List UInt8} {i : Nat} (h : i < s.length) : bt (mkS s) (i : Int) = (s[i].toNat : Int) := by
 simp [bt, mkS, List.getD, h]
theorem and127 (c : UInt8) : IntKind.u8.wrap ↑(BitVec.ofInt IntKind.u8.bits (c.toNat : Int) &&& BitVec.ofInt IntKind.u8.bits 127).toNat = ((c.toNat % 128 : Nat) : Int) := by
 have e8 : IntKind.u8.bits = 8 := rfl
 have hc := c.toNat_lt
 rw [e8, BitVec.toNat_and, u8_wrap]
 have h1 : (BitVec.ofInt 8 (c.toNat : Int)).toNat = c.toNat := by rw [BitVec.toNat_ofInt]; omega
 have h2 : (BitVec.ofInt 8 127).toNat = 2 ^ 7 - 1 := by decide
 rw [h1, h2, Nat.and_two_pow_sub_one_eq_mod]
 omega
set_option maxRecDepth 20000 in
theorem and128' : ∀ g : Nat, g < 256 → (((g &&& 128 : Nat) : Int) % 256 != 0) = decide (128 ≤ g) := by decide
theorem and128 (c : UInt8) : (IntKind.u8.wrap ↑(BitVec.ofInt IntKind.u8.bits (c.toNat : Int) &&& BitVec.ofInt IntKind.u8.bits 128).toNat != 0) = decide (128 ≤ c.toNat) := by
 have e8 : IntKind.u8.bits = 8 := rfl
 have hc := c.toNat_lt
 rw [e8, BitVec.toNat_and, u8_wrap]
 have h1 : (BitVec.ofInt 8 (c.toNat : Int)).toNat = c.toNat := by rw [BitVec.toNat_ofInt]; omega
 have h2 : (BitVec.ofInt 8 128).toNat = 128 := by decide
 rw [h1, h2, and128' _ hc]
theorem acc_lt {f i x : Nat} (hf : f < 128 ^ i) (hi : i ≤ 9) (hx : x < 128) (h9 : i = 9 → x ≤ 1) : x * 128 ^ i < 18446744073709551616 ∧ f + x * 128 ^ i < 18446744073709551616 := by
 rcases Nat.lt_or_ge i 9 with h | h
 ·have hp : 128 ^ i ≤ 128 ^ 8 := Nat.pow_le_pow_right (by decide) (by omega)
  have h2 : x * 128 ^ i ≤ 127 * 128 ^ 8 := Nat.mul_le_mul (by omega) hp
  have e : (128 : Nat) ^ 8 = 72057594037927936 := by decide
  rw [e] at hp h2
  constructor <;> omega
 ·have e : i = 9 := by omega
  subst e
  have := h9 rfl
  have e : (128 : Nat) ^ 9 = 9223372036854775808 := by decide
  rw [e] at hf ⊢
  constructor <;> omega
theorem or_acc {f i x : Nat} (hf : f < 128 ^ i) (hi : i ≤ 9) (hx : x < 128) (h9 : i = 9 → x ≤ 1) :
  IntKind.u64.wrap ↑(BitVec.ofInt IntKind.u64.bits (f : Int) ||| BitVec.ofInt IntKind.u64.bits (IntKind.u64.wrap (IntKind.u64.wrap (x : Int) * 2 ^ min (7 * (i : Int)).toNat IntKind.u64.bits))).toNat = ((f + x * 128 ^ i : Nat) : Int) := by
 have e64 : IntKind.u64.bits = 64 := rfl
 obtain ⟨h1, h2⟩ := acc_lt hf hi hx h9
 have hm : min (7 * (i : Int)).toNat 64 = 7 * i := by omega
 have hp : (128 : Nat) ^ i = 2 ^ (7 * i) := by rw [Nat.pow_mul]
 rw [e64, hm, BitVec.toNat_or]
 simp only [u64_wrap]
 have hx2 : (x : Int) % 18446744073709551616 = x := by omega
 have hpi : ((2 : Int) ^ (7 * i)) = ((128 ^ i : Nat) : Int) := by rw [hp]; simp
 rw [hx2, hpi, ← Int.natCast_mul]
 have ef : (BitVec.ofInt 64 (f : Int)).toNat = f := by rw [BitVec.toNat_ofInt]; omega
 have ex : (BitVec.ofInt 64 (((x * 128 ^ i : Nat) : Int) % 18446744073709551616)).toNat = x * 128 ^ i := by rw [BitVec.toNat_ofInt]; omega
 rw [ef, ex]
 have hor : f ||| x * 128 ^ i = f + x * 128 ^ i := by
  rw [hp] at hf ⊢
  rw [Nat.mul_comm x, Nat.or_comm, ← Nat.two_pow_add_eq_or_of_lt hf, Nat.add_comm]
 rw [hor]
 omega
structure NI (s : List UInt8) where
 i : Nat
 f : Nat
 hi : i ≤ 10
 hs : i ≤ s.length
 hf : f < 128 ^ i
 hn : numGo (10 - i) i f (s.drop i) = num s
theorem wnumber_spec (s : List UInt8) (hl : s.length ≤ 1099511627776) :
  Does Tryz.prog 118 [.string (mkS s)] [] (fun v hp' => v = .tuple #[.int .i64 (num s).1, .int .i64 (num s).2.1, .int .i64 (num s).2.2] ∧ hp' = []) := by
 refine fn_enter Tryz.func118 rfl 46 rfl fun w0 h0 => ?_
 refine SQ (RG ?_)
 refine RR [] .z (.i 4 (.int .i64 0) (.i 3 (.int .i64 0) (.i 2 (.int .i64 0) .a))) .a ?_
 refine RZ (NT (SQ (RG ?_)))
 refine RR [] .z (.i 5 (.int .u64 0) .a) .a ?_
 refine RZ (NT (SQ (SQ (RG ?_))))
 refine RR [] .z (.i 8 (.int .i64 0) .a) .a ?_
 refine RZ (NT (BK ?_))
 refine wpc_loop (X := NI s) (fun x => St.mk [(8, .int .i64 (x.i : Int)), (5, .int .u64 (x.f : Int)), (0, .string (mkS s)), (2, .int .i64 0), (3, .int .i64 0), (4, .int .i64 0)] []) (fun x => 10 - x.i) ⟨0, 0, by omega, by omega, by decide, rfl⟩ (ent_fr (by kernel_rfl)) ?_
 rintro ⟨i, f, hi, hs, hf, hn⟩
 dsimp only
 refine SQ (RG ?_)
 refine RR [] .z (.i 9 (.bool (decide ((↑i : Int) < (10 : Int)))) .a) .a ?_
 refine RZ (NT (SQ ?_))
 refine wpc_if (((↑i : Int) < 10)) (by kernel_rfl) (fun hlt => ?_) (fun hlt => ?_)
 ·refine SK (NT (SQ (BK (SQ (RG ?_)))))
  refine RR [] .z (.i 6 (.int .i64 (↑i : Int)) (.d (.k .a))) .a ?_
  refine RZ (NT (SQ (SQ (RG ?_))))
  refine RR [] .z (.i 14 (.bool ((↑i : Int) == (↑s.length : Int))) .a) .a ?_
  refine RZ (NT ?_)
  refine wpc_cond (((↑i : Int) == (↑s.length : Int))) (by kernel_rfl) (fun hend => ?_) (fun hend => ?_)
  ·have he : i = s.length := by have := eq_of_beq hend; omega
   refine SQ (RG ?_)
   refine RR [] .z (.i 4 (.int .i64 3) (.i 3 (.int .i64 0) (.i 2 (.int .i64 0) (.d (.k (.k (.k (.k .z)))))))) .a ?_
   refine RZ (NT (RE (TR (BR (TR (TR (BR (TR ?_))))))))
   refine NE [] .a .a [] (.tuple #[.int .i64 0, .int .i64 0, .int .i64 3]) ?_
   refine ⟨?_, rfl⟩
   rw [← hn, List.drop_eq_nil_of_le (by omega)]
   rw [show 10 - i = (9 - i) + 1 by omega]
   rfl
  ·have hlen : i < s.length := by
    rcases Nat.lt_or_ge i s.length with h | h
    ·exact h
    ·have e : i = s.length := by omega
     rw [e] at hend; simp at hend
   obtain ⟨c, hc⟩ : ∃ c, c = s[i] := ⟨_, rfl⟩
   have hbt : bt (mkS s) (i : Int) = (c.toNat : Int) := by rw [hc]; exact wbt_at hlen
   have hd : s.drop i = c :: s.drop (i + 1) := by rw [hc]; exact List.drop_eq_getElem_cons hlen
   rw [hd, show 10 - i = (9 - i) + 1 by omega] at hn
   unfold numGo at hn
   by_cases h9 : i = 9 ∧ c ≠ 1
   ·rw [if_pos h9] at hn
    have hne : (!((c.toNat : Int) == 1)) = true := by
     have : c.toNat ≠ 1 := fun e => h9.2 (UInt8.toNat_inj.1 e)
     simp; omega
    obtain ⟨rfl, _⟩ := h9
    refine SK (NT (SQ (RG ?_)))
    refine RV true [] .z (.i 7 (.int .u8 (bt (mkS s) 9)) (.i 6 (.int .i64 9) (.i 8 (.int .i64 9) (.d (.d (.d (.k .a))))))) .a [(0 : Int) ≤ (9 : Int) ∧ (9 : Int) < (↑s.length : Int)] ⟨by omega, trivial⟩ ?_
    refine RZ (NT (SQ (SQ (RG ?_))))
    refine RR [] .z (.i 23 (.bool (bt (mkS s) (9 : Int) != (1 : Int))) .a) .a ?_
    refine RZ (NT ?_)
    refine wpc_ent (ent_set 23 (.bool (bt (mkS s) 9 != 1)) (.bool true) (by kernel_rfl) (congrArg _ (by show (bt (mkS s) ((9 : Nat) : Int) != 1) = true; rw [hbt]; exact hne))) ?_
    refine CT (EX (TE (BF (TE (TE (BH (NT (SQ (RG ?_)))))))))
    refine RR [] .z (.i 4 (.int .i64 4) (.i 3 (.int .i64 0) (.d (.d (.d (.d (.d (.d (.d (.k .z)))))))))) .a ?_
    refine RZ (NT (RE ?_))
    refine NE [] .a .a [] (.tuple #[.int .i64 0, .int .i64 0, .int .i64 4]) ?_
    exact ⟨by rw [← hn], rfl⟩
   ·rw [if_neg h9] at hn
    refine SK (NT (SQ (RG ?_)))
    refine RV true [] .z (.i 7 (.int .u8 (bt (mkS s) (↑i : Int))) (.d (.k .a))) .a [(0 : Int) ≤ (↑i : Int) ∧ (↑i : Int) < (↑s.length : Int)] ⟨by omega, trivial⟩ ?_
    refine RZ (NT (SQ (SQ (RG ?_))))
    refine RR [] (.d (.d (.d .a))) (.i 20 (.bool ((↑i : Int) == (9 : Int))) .a) .a ?_
    refine wpr_join ⟨[(23, .bool false), (7, (.int .u8 (bt (mkS s) (↑i : Int)))), (6, (.int .i64 (↑i : Int))), (8, (.int .i64 (↑i : Int))), (5, (.int .u64 (↑f : Int))), (0, (.string (mkS s))), (2, (.int .i64 0)), (3, (.int .i64 0)), (4, (.int .i64 0))], []⟩ (fun Q1 hQ1 hk => ?_) ?_
    ·refine wpr_case 20 (((↑i : Int) == 9)) (by kernel_rfl) (fun h => ?_) (fun h => ?_)
     ·refine RR [] .z (.i 23 (.bool (bt (mkS s) (↑i : Int) != (1 : Int))) (.d (.d (.k .a)))) .a ?_
      refine RZ ?_
      refine nx_ent (ent_set 23 (.bool (bt (mkS s) (↑i : Int) != 1)) (.bool false) (by kernel_rfl) (congrArg _ (by
                    rw [hbt]
                    have e9 : i = 9 := by have := eq_of_beq h; omega
                    have e1 : c = 1 := Classical.byContradiction fun hc1 => h9 ⟨e9, hc1⟩
                    rw [e1]; rfl))) ?_
      exact nx_ent (ent_fr (by kernel_rfl)) hk
     ·refine RR [] .z (.i 23 (.bool false) (.d (.d (.k .a)))) .a ?_
      refine RZ ?_
      exact nx_ent (ent_fr (by kernel_rfl)) hk
    have h9x : i = 9 → c.toNat % 128 ≤ 1 := fun e => by
     have e1 : c = 1 := Classical.byContradiction fun hc1 => h9 ⟨e, hc1⟩
     rw [e1]; decide
    have hacc := acc_lt hf (by omega) (Nat.mod_lt c.toNat (show 0 < 128 by decide)) h9x
    refine NT (CF (SK (NT (SQ (RG ?_)))))
    refine RV true [] .z (.i 5 (.int .u64 (IntKind.wrap IntKind.u64 (↑(BitVec.toNat (BitVec.ofInt (IntKind.bits IntKind.u64) (↑f : Int) ||| BitVec.ofInt (IntKind.bits IntKind.u64) (IntKind.wrap IntKind.u64 (IntKind.wrap IntKind.u64 (IntKind.wrap IntKind.u8 (↑(BitVec.toNat (BitVec.ofInt (IntKind.bits IntKind.u8) (bt (mkS s) (↑i : Int)) &&& BitVec.ofInt (IntKind.bits IntKind.u8) 127)) : Int)) * 2 ^ min (Int.toNat (7 * (↑i : Int))) (IntKind.bits IntKind.u64))))) : Int))) (.d (.k (.k (.k (.d (.k .a))))))) .a [inI64 ((7 : Int) * (↑i : Int)), (0 : Int) ≤ (7 : Int) * (↑i : Int)] ⟨by unfold inI64; omega, by omega, trivial⟩ ?_
    refine RZ (NT (SQ (SQ (RG ?_))))
    refine RR [] .z (.i 34 (.bool (IntKind.u8.wrap (↑(BitVec.ofInt IntKind.u8.bits (bt (mkS s) (↑i : Int)) &&& BitVec.ofInt IntKind.u8.bits (128 : Int)).toNat : Int) != (0 : Int))) .a) .a ?_
    refine RZ (NT ?_)
    refine wpc_ent (ent_set 34 (.bool (IntKind.u8.wrap (↑(BitVec.ofInt IntKind.u8.bits (bt (mkS s) (↑i : Int)) &&& BitVec.ofInt IntKind.u8.bits 128).toNat : Int) != 0)) (.bool (decide (128 ≤ c.toNat))) (by kernel_rfl) (congrArg _ (by rw [hbt, and128]))) ?_
    refine wpc_ent (ent_set 5 (.int .u64 (IntKind.wrap IntKind.u64 (↑(BitVec.toNat (BitVec.ofInt (IntKind.bits IntKind.u64) (↑f : Int) ||| BitVec.ofInt (IntKind.bits IntKind.u64) (IntKind.wrap IntKind.u64 (IntKind.wrap IntKind.u64 (IntKind.wrap IntKind.u8 (↑(BitVec.toNat (BitVec.ofInt (IntKind.bits IntKind.u8) (bt (mkS s) (↑i : Int)) &&& BitVec.ofInt (IntKind.bits IntKind.u8) 127)) : Int)) * 2 ^ min (Int.toNat (7 * (↑i : Int))) (IntKind.bits IntKind.u64))))) : Int))) (Value.int .u64 ((f + c.toNat % 128 * 128 ^ i : Nat) : Int)) (by kernel_rfl) (congrArg _ (by rw [hbt, and127]; exact or_acc hf (by omega) (Nat.mod_lt _ (by decide)) h9x))) ?_
    refine wpc_if ((128 ≤ c.toNat)) (by kernel_rfl) (fun hbig => ?_) (fun hbig => ?_)
    ·rw [if_pos hbig] at hn
     refine EX (TE (BH (NT (RG ?_))))
     refine RV true [] .z (.i 8 (.int .i64 ((↑i : Int) + 1)) (.k (.d (.d (.d (.d (.d (.d (.k .a))))))))) .a ([inI64 ((↑i : Int) + (1 : Int))]) ⟨by unfold inI64; omega, trivial⟩ ?_
     refine RZ ?_
     exact fun a' w hS => ⟨⟨i + 1, f + c.toNat % 128 * 128 ^ i, by omega, by omega, by
      have : c.toNat % 128 * 128 ^ i ≤ 127 * 128 ^ i := Nat.mul_le_mul_right _ (by omega)
      rw [Nat.pow_succ]; omega, by rw [show 10 - (i + 1) = 9 - i by omega]; exact hn⟩, by dsimp only; omega, ent_fr (by kernel_rfl) _ _ hS⟩
    ·rw [if_neg hbig] at hn
     refine SK (NT (SQ (SQ (RG ?_))))
     refine RR [] (.d (.d (.d .a))) (.i 37 (.bool (bt (mkS s) (↑i : Int) == (0 : Int))) (.k (.d (.d (.d (.d (.k .a))))))) .a ?_
     refine wpr_case 37 ((bt (mkS s) (↑i : Int) == 0)) (by kernel_rfl) (fun hz => ?_) (fun hz => ?_)
     ·have hc0 : c = 0 := by
       rw [hbt] at hz
       have := eq_of_beq hz
       exact UInt8.toNat_inj.1 (by show c.toNat = 0; omega)
      refine RR [] .z (.i 40 (.bool (decide ((↑i : Int) > (0 : Int)))) (.d (.d (.k .a)))) .a ?_
      refine RZ (NT ?_)
      refine wpc_if (((↑i : Int) > 0)) (by kernel_rfl) (fun hi0 => ?_) (fun hi0 => ?_)
      ·rw [if_pos ⟨hc0, by omega⟩] at hn
       refine EX (TE (BF (TE (TE (BH (NT (SQ (RG ?_))))))))
       refine RR [] .z (.i 4 (.int .i64 4) (.i 3 (.int .i64 0) (.d (.d (.d (.d (.d (.k .z)))))))) .a ?_
       refine RZ (NT (RE ?_))
       refine NE [] .a .a [] (.tuple #[.int .i64 0, .int .i64 0, .int .i64 4]) ?_
       exact ⟨by rw [← hn], rfl⟩
      ·rw [if_neg (fun h => hi0 (by omega))] at hn
       refine SK (NT (SQ (RG ?_)))
       refine RR [] (.d .a) (.i 41 (.int .u64 (↑(f + c.toNat % 128 * 128 ^ i) : Int)) (.d (.k .a))) .a ?_
       refine RCA (dst := some 42) (unfold_spec (f + c.toNat % 128 * 128 ^ i : Nat) (by omega) (by omega)) ?_
       rintro v hp' ⟨rfl, rfl⟩
       refine RV true [] .z (.i 4 (.int .i64 0) (.i 3 (.int .i64 ((↑i : Int) + 1)) (.i 2 (.int .i64 (unfoldN (↑(f + c.toNat % 128 * 128 ^ i) : Int))) (.d (.d (.k (.d (.k (.k .z))))))))) .a ([inI64 ((↑i : Int) + (1 : Int))]) ⟨by unfold inI64; omega, trivial⟩ ?_
       refine RZ (NT (RE (BR (TR (TR (BR (TR ?_)))))))
       refine NE [] .a .a [] (.tuple #[.int .i64 (unfoldN (↑(f + c.toNat % 128 * 128 ^ i) : Int)), .int .i64 ((↑i : Int) + 1), .int .i64 0]) ?_
       exact ⟨by rw [← hn], rfl⟩
     ·have hc0 : c ≠ 0 := fun e => by
       rw [hbt, e] at hz
       simp at hz
      rw [if_neg (fun h => hc0 h.1)] at hn
      refine RR [] .z (.i 40 (.bool false) (.d (.d (.k .a)))) .a ?_
      refine RZ (NT (CF (SK (NT (SQ (RG ?_))))))
      refine RR [] (.d .a) (.i 41 (.int .u64 (↑(f + c.toNat % 128 * 128 ^ i) : Int)) (.d (.k .a))) .a ?_
      refine RCA (dst := some 42) (unfold_spec (f + c.toNat % 128 * 128 ^ i : Nat) (by omega) (by omega)) ?_
      rintro v hp' ⟨rfl, rfl⟩
      refine RV true [] .z (.i 4 (.int .i64 0) (.i 3 (.int .i64 ((↑i : Int) + 1)) (.i 2 (.int .i64 (unfoldN (↑(f + c.toNat % 128 * 128 ^ i) : Int))) (.d (.d (.k (.d (.k (.k .z))))))))) .a ([inI64 ((↑i : Int) + (1 : Int))]) ⟨by unfold inI64; omega, trivial⟩ ?_
      refine RZ (NT (RE (BR (TR (TR (BR (TR ?_)))))))
      refine NE [] .a .a [] (.tuple #[.int .i64 (unfoldN (↑(f + c.toNat % 128 * 128 ^ i) : Int)), .int .i64 ((↑i : Int) + 1), .int .i64 0]) ?_
      exact ⟨by rw [← hn], rfl⟩
 ·refine EX (TE (TE (BH (NT (SQ (RG ?_))))))
  refine RR [] .z (.i 4 (.int .i64 4) (.i 3 (.int .i64 0) (.d (.d (.d (.d (.k .z))))))) .a ?_
  refine RZ (NT (RE ?_))
  refine NE [] .a .a [] (.tuple #[.int .i64 0, .int .i64 0, .int .i64 4]) ?_
  refine ⟨?_, rfl⟩
  rw [show 10 - i = 0 by omega] at hn
  rw [← hn]; rfl
end Go.Proofs.YtgcfomhlgipllaaGreatDoor
namespace Go.Proofs.YtgcfomhlgipllaaGreatDoor
open Go.RowKit
set_option maxHeartbeats 4000000 in
set_option maxRecDepth 100000 in
theorem clone_calls (s : ByteArray) (w : World) (hlim : s.size ≤ 281474976710656) :
  Calls Tryz.prog 187 #[.string s] w fun e w' => e = .returned (.string s) ∧ Below w.heap.size w w' := by
 by_cases h0 : s.size = 0
 ·have hs : s = ⟨#[]⟩ := by
   apply ByteArray.ext
   exact Array.eq_empty_of_size_eq_zero h0
  subst hs
  go_enter Tryz.func187, Tryz.ntmps187
  go_wp2
  go_ret
  exact ⟨rfl, Below.refl _ _⟩
 ·obtain ⟨i0, hi, hz0, hz1, hz2⟩ : ∃ i0, Tryz.prog.info? 5 = some i0 ∧ i0.zero = some (.int .u8 0) ∧ i0.size = 1 ∧ i0.bytes = 1 := ⟨_, rfl, rfl, rfl, rfl⟩
  have hinfo : (Tryz.prog.info? 5).map (·.size) = some 1 := by rw [hi]; simp [hz1]
  have hco : Tryz.prog.cellsOf 5 = 1 := by simp [Program.cellsOf, hi, hz1]
  obtain ⟨M, hM⟩ : ∃ M, M = madeCells (Value.int .u8 0).cells (((s.size : Nat) : Int).toNat * i0.size) := ⟨_, rfl⟩
  have hMs : M.size = s.size := by rw [hM, size_madeCells, hz1]; simp
  have hmk : ∀ W : World, (Instr.makeSlice 39 (.int .i64 (s.size : Int)) (.int .i64 (s.size : Int))).run Tryz.prog W = .ok (.slice (some ⟨W.heap.size, 0, none⟩) s.size s.size) (W.alloc (.cells M 5)) := fun W => by
   have h := run_make (P := Tryz.prog) W 39 5 i0 (.int .u8 0) Tryz.underlying39 hi hz0 .i64 .i64 (s.size : Int) (s.size : Int) (by omega) (by omega) (by rw [hz2]; omega) (by omega)
   rw [← hM] at h
   simpa using h
  clear hM
  have hcp := Lib.run_copy_row_string (P := Tryz.prog) (w.alloc (.cells M 5)) 39 9 3 5 w.heap.size 0 s.size s.size s M 5 Tryz.underlying39 hinfo (heap_alloc_new w _) (Nat.le_refl _) (by omega)
  obtain ⟨Y, hY⟩ : ∃ Y, Y = (M.toList.take 0 ++ Lib.byteCells s.data.toList ++ M.toList.drop (0 + s.size)).toArray := ⟨_, rfl⟩
  rw [← hY] at hcp
  have hYl : Y.toList = Lib.byteCells s.data.toList := by
   rw [hY, List.toList_toArray, List.take_zero, List.nil_append, List.drop_of_length_le (by rw [Array.length_toList]; omega), List.append_nil]
  have hYs : Y.size = s.size := by rw [← Array.length_toList, hYl, Lib.byteCells_length, ← Lib.size_eq]
  have hgY : ((w.alloc (.cells M 5)).setRow w.heap.size Y).heap[w.heap.size]? = some (.cells Y 5 (0, 0)) := setRow_heap _ _ M _ 5 (0, 0) (heap_alloc_new w _)
  have hne : s.data.toList ≠ [] := fun e => h0 (by rw [Lib.size_eq, e]; rfl)
  have hUS := Lib.run_unsafeString_row (P := Tryz.prog) ((w.alloc (.cells M 5)).setRow w.heap.size Y) 241 3 9 5 Tryz.underlying241 hco w.heap.size Y.size (by unfold World.shape?; rw [hgY]) s.data.toList hne (by rw [← Lib.size_eq]; omega) (by rw [← Lib.size_eq]; omega)
   (fun j x hx => Lib.cells_of_row hgY Y.size j _ (by rw [List.take_of_length_le (by rw [Array.length_toList]; exact Nat.le_refl _), hYl]; simp [Lib.byteCells, hx]))
  rw [← Lib.size_eq] at hUS
  clear hY
  go_enter Tryz.func187, Tryz.ntmps187
  go_wp2
  go_ret
  have hb1 : Below w.heap.size w (w.alloc (.cells M 5)) := (Below.refl _ w).alloc (Nat.le_refl _) _
  have hb2 : Below w.heap.size (w.alloc (.cells M 5)) ((w.alloc (.cells M 5)).setRow w.heap.size Y) := ⟨rfl, rfl, rfl, by simp, fun k hk => setRow_other _ _ _ _ (by omega)⟩
  exact ⟨rfl, Lib.below_freeze (hb1.trans hb2) (p := ⟨w.heap.size, 0, none⟩) (Nat.le_refl _) _⟩
open Go.Sx in
theorem does_of_calls {P : Program} {f : FuncId} {args : List Value} {v : Value} (h : ∀ w, Calls P f args.toArray w fun e w' => e = .returned v ∧ Below w.heap.size w w') : Does P f args [] (fun v' hp' => v' = v ∧ hp' = []) := fun w _ =>
 (h w).mono fun e w' ⟨h1, h2⟩ => ⟨v, [], ⟨rfl, rfl⟩, h1, ⟨(fun c hc => by cases hc), List.Pairwise.nil⟩, ⟨h2.os, h2.tape, h2.output, h2.size, fun k hk _ => h2.block k hk⟩, (fun c hc => by cases hc), fun c hc => by cases hc⟩
open Go.Sx in
theorem Clone0_spec (t : List UInt8) (ht : t.length ≤ 1099511627776) : Does Tryz.prog 187 [.string (mkS t)] [] (fun v hp' => v = .string (mkS t) ∧ hp' = []) :=
 does_of_calls fun w => clone_calls (mkS t) w (by rw [size_mkS]; omega)
end Go.Proofs.YtgcfomhlgipllaaGreatDoor
namespace Go.Proofs.YtgcfomhlgipllaaGreatDoor
open Go Go.Sx
theorem Clone_spec (t : List UInt8) (ht : t.length ≤ 1099511627776) : Does Tryz.prog 155 [.string (mkS t)] [] (fun v hp' => v = .string (mkS t) ∧ hp' = []) := by
 refine fn_enter Tryz.func155 rfl 5 rfl fun w0 h0 => ?_
 refine SQ (RG ?_)
 refine RR [] .z (.i 2 (.string ⟨#[]⟩) .a) .a ?_
 refine RZ (NT (SQ (RG ?_)))
 refine RR [] (.d .a) (.i 3 (.string (mkS t)) (.k .z)) .a ?_
 refine RCA (dst := some 4) (Clone0_spec t ht) ?_
 rintro v hp' ⟨rfl, rfl⟩
 refine RR [] .z (.i 2 (.string (mkS t)) .z) .a ?_
 refine RZ (NT (RE ?_))
 refine NE [] .a .a [] (.string (mkS t)) ?_
 exact ⟨rfl, rfl⟩
theorem numGo_ok : ∀ (k i f : Nat) (s : List UInt8), ((numGo k i f s).2.2 = 0 ∧ (i : Int) < (numGo k i f s).2.1 ∧ (numGo k i f s).2.1 ≤ i + s.length) ∨ ((numGo k i f s).1 = 0 ∧ (numGo k i f s).2.1 = 0 ∧ ((numGo k i f s).2.2 = 3 ∨ (numGo k i f s).2.2 = 4))
 | 0, _, _, _ => .inr ⟨rfl, rfl, .inr rfl⟩
 | _ + 1, _, _, [] => .inr ⟨rfl, rfl, .inl rfl⟩
 | k + 1, i, f, c :: s => by
  unfold numGo
  split
  ·exact .inr ⟨rfl, rfl, .inr rfl⟩
  ·split
   ·rcases numGo_ok k (i + 1) (f + c.toNat % 128 * 128 ^ i) s with h | h
    ·exact .inl ⟨h.1, by have := h.2.1; omega, by have := h.2.2; simp only [List.length_cons]; omega⟩
    ·exact .inr h
   ·split
    ·exact .inr ⟨rfl, rfl, .inr rfl⟩
    ·exact .inl ⟨rfl, by simp only []; omega, by simp only [List.length_cons]; omega⟩
def cnt (s : List UInt8) (most : Int) : Int × Int × Int :=
 if (num s).2.2 ≠ 0 then (0, 0, (num s).2.2) else if (num s).1 < 0 then (0, 0, 4) else if (num s).1 > max 0 most then (0, 0, 5) else ((num s).1, (num s).2.1, 0)
theorem count_spec (s : List UInt8) (most : Int) (hl : s.length ≤ 1099511627776) :
  Does Tryz.prog 152 [.string (mkS s), .int .i64 most] [] (fun v hp' => v = .tuple #[.int .i64 (cnt s most).1, .int .i64 (cnt s most).2.1, .int .i64 (cnt s most).2.2] ∧ hp' = []) := by
 refine fn_enter Tryz.func152 rfl 30 rfl fun w0 h0 => ?_
 refine SQ (RG ?_)
 refine RR [] .z (.i 6 (.int .i64 0) (.i 5 (.int .i64 0) (.i 4 (.int .i64 0) .a))) .a ?_
 refine RZ (NT (SQ (RG ?_)))
 refine RR [] (.d .a) (.i 11 (.string (mkS s)) (.k (.k (.k (.d (.k .a)))))) .a ?_
 refine RCA (dst := some 12) (wnumber_spec s hl) ?_
 rintro v hp' ⟨rfl, rfl⟩
 obtain ⟨n, u, e, hn⟩ : ∃ n u e, num s = (n, u, e) := ⟨_, _, _, rfl⟩
 unfold cnt
 rw [hn]
 dsimp only
 refine RR [] .z (.i 9 (.int .i64 e) (.i 8 (.int .i64 u) (.i 7 (.int .i64 n) (.d (.d (.k .a)))))) .a ?_
 refine RZ (NT (SQ (BK (SQ (RG ?_)))))
 refine RR [] .z (.i 16 (.bool (e != (0 : Int))) .a) .a ?_
 refine RZ (NT ?_)
 refine wpc_cond ((e != 0)) (by kernel_rfl) (fun h1 => ?_) (fun h1 => ?_)
 ·have h1' : e ≠ 0 := by simpa using h1
  rw [if_pos h1']
  refine SQ (RG ?_)
  refine RR [] .z (.i 6 (.int .i64 e) (.i 5 (.int .i64 0) (.i 4 (.int .i64 0) (.d (.d (.k (.k .z))))))) .a ?_
  refine RZ (NT (RE (BR (TR ?_))))
  refine NE [] .a .a [] (.tuple #[.int .i64 0, .int .i64 0, .int .i64 e]) ?_
  exact ⟨rfl, rfl⟩
 ·have h1' : ¬ e ≠ 0 := by simpa using h1
  rw [if_neg h1']
  refine SQ (RG ?_)
  refine RR [] .z (.i 20 (.bool (decide (n < (0 : Int)))) (.d (.d (.k .a)))) .a ?_
  refine RZ (NT ?_)
  refine wpc_if ((n < 0)) (by kernel_rfl) (fun h2 => ?_) (fun h2 => ?_)
  ·rw [if_pos h2]
   refine SQ (RG ?_)
   refine RR [] .z (.i 6 (.int .i64 4) (.i 5 (.int .i64 0) (.i 4 (.int .i64 0) (.d (.k (.k .z)))))) .a ?_
   refine RZ (NT (RE (BR (TR ?_))))
   refine NE [] .a .a [] (.tuple #[.int .i64 0, .int .i64 0, .int .i64 4]) ?_
   exact ⟨rfl, rfl⟩
  ·rw [if_neg h2]
   refine SQ (RG ?_)
   refine RR [] .z (.i 23 (.bool (decide (n > if most > (0 : Int) then most else (0 : Int)))) (.d (.k (.k (.k (.k (.k .z))))))) .a ?_
   refine RZ (NT ?_)
   have hmx : (if most > 0 then most else 0) = max 0 most := by split <;> omega
   refine wpc_if ((n > if most > 0 then most else 0)) (by kernel_rfl) (fun h3 => ?_) (fun h3 => ?_)
   ·rw [if_pos (show n > max 0 most by rw [← hmx]; exact h3)]
    refine SQ (RG ?_)
    refine RR [] .z (.i 6 (.int .i64 5) (.i 5 (.int .i64 0) (.i 4 (.int .i64 0) (.d (.k (.k .z)))))) .a ?_
    refine RZ (NT (RE (BR (TR ?_))))
    refine NE [] .a .a [] (.tuple #[.int .i64 0, .int .i64 0, .int .i64 5]) ?_
    exact ⟨rfl, rfl⟩
   ·rw [if_neg (show ¬ n > max 0 most by rw [← hmx]; exact h3)]
    refine SK (BN (NT (SQ (RG ?_))))
    refine RR [] .z (.d (.d (.d (.k (.i 5 (.int .i64 u) (.i 4 (.int .i64 n) .z)))))) .a ?_
    refine RZ (NT (RE ?_))
    refine NE [] .a .a [] (.tuple #[.int .i64 n, .int .i64 u, .int .i64 0]) ?_
    exact ⟨rfl, rfl⟩
theorem cnt_ok (s : List UInt8) (most : Int) : ((cnt s most).2.2 = 0 ∧ 0 ≤ (cnt s most).1 ∧ 0 < (cnt s most).2.1 ∧ (cnt s most).2.1 ≤ s.length) ∨ ((cnt s most).1 = 0 ∧ (cnt s most).2.1 = 0 ∧ (cnt s most).2.2 ≠ 0) := by
 have h := numGo_ok 10 0 0 s
 have hn : numGo 10 0 0 s = num s := rfl
 rw [hn] at h
 unfold cnt
 split
 ·rename_i h1; exact .inr ⟨rfl, rfl, h1⟩
 ·rename_i h1
  split
  ·exact .inr ⟨rfl, rfl, by simp⟩
  ·rename_i h2
   split
   ·exact .inr ⟨rfl, rfl, by simp⟩
   ·rcases h with h | h
    ·exact .inl ⟨rfl, by simp only []; omega, by have := h.2.1; simpa using this, by have := h.2.2; simpa using this⟩
    ·have := h.2.2; omega
def bol (s : List UInt8) : Bool × Int × Int := match s with | [] => (false, 0, 3) | c :: _ => if 1 < c.toNat then (false, 0, 4) else (c.toNat == 1, 1, 0)
theorem bol_ok (s : List UInt8) : ((bol s).2.2 = 0 ∧ 0 < (bol s).2.1 ∧ (bol s).2.1 ≤ s.length) ∨ ((bol s).1 = false ∧ (bol s).2.1 = 0 ∧ (bol s).2.2 ≠ 0) := by
 unfold bol
 split
 ·exact .inr ⟨rfl, rfl, by simp⟩
 ·split
  ·exact .inr ⟨rfl, rfl, by simp⟩
  ·exact .inl ⟨rfl, by simp, by simp only [List.length_cons]; omega⟩
theorem Bool1_spec (s : List UInt8) (hl : s.length ≤ 1099511627776) :
  Does Tryz.prog 157 [.string (mkS s)] [] (fun v hp' => v = .tuple #[.bool (bol s).1, .int .i64 (bol s).2.1, .int .i64 (bol s).2.2] ∧ hp' = []) := by
 cases s with
 | nil =>
  refine fn_enter Tryz.func157 rfl 15 rfl fun w0 h0 => ?_
  refine SQ (RG ?_)
  refine RR [] .z (.i 4 (.int .i64 0) (.i 3 (.int .i64 0) (.i 2 (.bool false) .a))) .a ?_
  refine RZ (NT (SQ (BK (SQ (RG ?_)))))
  refine RR [] .z (.i 5 (.bool true) .a) .a ?_
  refine RZ (NT (CT (SQ (RG ?_))))
  refine RR [] .z (.i 4 (.int .i64 3) (.d (.d (.k .a)))) .a ?_
  refine RZ (NT (RE (BR (TR ?_))))
  refine NE [] .a .a [] (.tuple #[.bool false, .int .i64 0, .int .i64 3]) ?_
  exact ⟨rfl, rfl⟩
 | cons c s =>
  refine fn_enter Tryz.func157 rfl 15 rfl fun w0 h0 => ?_
  have hp : 0 < (c :: s).length := by simp
  have hb : bt (mkS (c :: s)) 0 = (c.toNat : Int) := rfl
  refine SQ (RG ?_)
  refine RR [] .z (.i 4 (.int .i64 0) (.i 3 (.int .i64 0) (.i 2 (.bool false) .a))) .a ?_
  refine RZ (NT (SQ (BK (SQ (RG ?_)))))
  refine RR [] .z (.i 5 (.bool false) .a) .a ?_
  refine RZ (NT (CF (SQ (RG ?_))))
  refine RV true [] .z (.i 8 (.bool (decide (bt (mkS (c :: s)) (0 : Int) > (1 : Int)))) (.d (.k .a))) .a [(0 : Int) ≤ (0 : Int) ∧ (0 : Int) < (↑(c :: s).length : Int)] ⟨by omega, trivial⟩ ?_
  refine RZ (NT ?_)
  refine wpc_if ((bt (mkS (c :: s)) 0 > 1)) (by kernel_rfl) (fun h1 => ?_) (fun h1 => ?_)
  ·have h1' : 1 < c.toNat := by rw [hb] at h1; omega
   refine SQ (RG ?_)
   refine RR [] .z (.i 4 (.int .i64 4) (.d (.d (.k .a)))) .a ?_
   refine RZ (NT (RE (BR (TR ?_))))
   refine NE [] .a .a [] (.tuple #[.bool false, .int .i64 0, .int .i64 4]) ?_
   exact ⟨by unfold bol; dsimp only; rw [if_pos h1'], rfl⟩
  ·have h1' : ¬ 1 < c.toNat := by rw [hb] at h1; omega
   refine SK (BN (NT (SQ (RG ?_))))
   refine RV true [] .z (.d (.k (.i 3 (.int .i64 1) (.i 2 (.bool (bt (mkS (c :: s)) (0 : Int) == (1 : Int))) .z)))) .a [(0 : Int) ≤ (0 : Int) ∧ (0 : Int) < (↑(c :: s).length : Int)] ⟨by omega, trivial⟩ ?_
   refine RZ (NT (RE ?_))
   refine NE [] .a .a [] (.tuple #[.bool (bt (mkS (c :: s)) 0 == 1), .int .i64 1, .int .i64 0]) ?_
   refine ⟨?_, rfl⟩
   unfold bol; dsimp only; rw [if_neg h1', hb]
   have e : ((c.toNat : Int) == 1) = (c.toNat == 1) := by
    have := c.toNat_lt
    by_cases h : c.toNat = 1
    ·rw [h]; rfl
    ·rw [beq_eq_false_iff_ne.2 h, beq_eq_false_iff_ne.2 (by omega)]
   rw [e]
theorem Count1_spec (s : List UInt8) (t : Nat) (most : Int) (hl : s.length ≤ 1099511627776) :
  Does Tryz.prog 151 [.string (mkS s), .pointer (some ⟨t, 0, none⟩)] [.blk t 3 [.int .i64 most]] (fun v hp' => v = .tuple #[.int .i64 (cnt s most).1, .int .i64 (cnt s most).2.1, .int .i64 (cnt s most).2.2] ∧ hp' = [.blk t 3 [.int .i64 most]]) := by
 refine fn_enter Tryz.func151 rfl 12 rfl fun w0 h0 => ?_
 refine SQ (RG ?_)
 refine RR [] .z (.i 5 (.int .i64 0) (.i 4 (.int .i64 0) (.i 3 (.int .i64 0) .a))) .a ?_
 refine RZ (NT (SQ (RG ?_)))
 refine RR [0] (.d (.d .a)) (.i 7 (.int .i64 most) (.i 6 (.string (mkS s)) (.k (.k (.k .z))))) .a ?_
 refine RC (dst := some 8) [] .a (count_spec s most hl) ?_
 rintro v hp' ⟨rfl, rfl⟩
 refine RR [] .z (.i 5 (.int .i64 (cnt s most).snd.snd) (.i 4 (.int .i64 (cnt s most).snd.fst) (.i 3 (.int .i64 (cnt s most).fst) .z))) .a ?_
 refine RZ (NT (RE ?_))
 refine NE [0] .a .z [] (.tuple #[.int .i64 (cnt s most).fst, .int .i64 (cnt s most).snd.fst, .int .i64 (cnt s most).snd.snd]) ?_
 exact ⟨rfl, rfl⟩
def txW (s : List UInt8) (most : Int) : List UInt8 × Int × Int :=
 if (cnt s most).2.2 ≠ 0 then ([], 0, (cnt s most).2.2) else if (cnt s most).1 > s.length - (cnt s most).2.1 then ([], 0, 3) else ((s.drop (cnt s most).2.1.toNat).take (cnt s most).1.toNat, (cnt s most).2.1 + (cnt s most).1, 0)
theorem Text1_spec (s : List UInt8) (t : Nat) (most : Int) (hl : s.length ≤ 1099511627776) :
  Does Tryz.prog 154 [.string (mkS s), .pointer (some ⟨t, 0, none⟩)] [.blk t 3 [.int .i64 most]] (fun v hp' => v = .tuple #[.string (mkS (txW s most).1), .int .i64 (txW s most).2.1, .int .i64 (txW s most).2.2] ∧ hp' = [.blk t 3 [.int .i64 most]]) := by
 refine fn_enter Tryz.func154 rfl 37 rfl fun w0 h0 => ?_
 refine SQ (RG ?_)
 refine RR [] .z (.i 5 (.int .i64 0) (.i 4 (.int .i64 0) (.i 3 (.string ⟨#[]⟩) .a))) .a ?_
 refine RZ (NT (SQ (RG ?_)))
 refine RR [0] (.d (.d .a)) (.i 11 (.int .i64 most) (.i 10 (.string (mkS s)) (.k (.k (.k (.k .z)))))) .a ?_
 refine RC (dst := some 12) [] .a (count_spec s most hl) ?_
 rintro v hp' ⟨rfl, rfl⟩
 have hok := cnt_ok s most
 unfold txW
 obtain ⟨n, u, e, hn⟩ : ∃ n u e, cnt s most = (n, u, e) := ⟨_, _, _, rfl⟩
 rw [hn] at hok ⊢
 dsimp only at hok ⊢
 refine RR [] .z (.i 8 (.int .i64 e) (.i 7 (.int .i64 u) (.i 6 (.int .i64 n) (.d (.d (.d (.k .a))))))) .a ?_
 refine RZ (NT (SQ (BK (SQ (RG ?_)))))
 refine RR [] .z (.i 16 (.bool (e != (0 : Int))) .a) .a ?_
 refine RZ (NT ?_)
 refine wpc_cond ((e != 0)) (by kernel_rfl) (fun h1 => ?_) (fun h1 => ?_)
 ·have h1' : e ≠ 0 := by simpa using h1
  rw [if_pos h1']
  refine SQ (RG ?_)
  refine RR [] .z (.i 5 (.int .i64 e) (.i 4 (.int .i64 0) (.i 3 (.string ⟨#[]⟩) (.d (.d (.k (.k (.d (.d (.d (.k .a))))))))))) .a ?_
  refine RZ (NT (RE (BR (TR ?_))))
  refine NE [0] .a .z [] (.tuple #[.string ⟨#[]⟩, .int .i64 0, .int .i64 e]) ?_
  exact ⟨rfl, rfl⟩
 ·have h1' : ¬ e ≠ 0 := by simpa using h1
  rw [if_neg h1']
  have hu : 0 ≤ n ∧ 0 < u ∧ u ≤ s.length := by omega
  refine SQ (RG ?_)
  refine RV true [] .z (.i 20 (.bool (decide (n > (↑s.length : Int) - u))) (.d (.d (.k .a)))) .a [inI64 ((↑s.length : Int) - u)] ⟨by unfold inI64; omega, trivial⟩ ?_
  refine RZ (NT ?_)
  refine wpc_if ((n > (↑s.length : Int) - u)) (by kernel_rfl) (fun h2 => ?_) (fun h2 => ?_)
  ·rw [if_pos h2]
   refine SQ (RG ?_)
   refine RR [] .z (.i 5 (.int .i64 3) (.i 4 (.int .i64 0) (.i 3 (.string ⟨#[]⟩) (.d (.k (.k (.d (.d (.d (.k .a)))))))))) .a ?_
   refine RZ (NT (RE (BR (TR ?_))))
   refine NE [0] .a .z [] (.tuple #[.string ⟨#[]⟩, .int .i64 0, .int .i64 3]) ?_
   exact ⟨rfl, rfl⟩
  ·rw [if_neg h2]
   refine SK (BN (NT (SQ (RG ?_))))
   refine RV true [] (.d (.d (.d (.d (.d (.d .a)))))) (.i 32 (.string (mkS (List.take (Int.toNat (u + n - u)) (List.drop (Int.toNat u) s)))) (.d (.k (.k (.k (.k (.k .z))))))) .a ([inI64 (u + n), (0 : Int) ≤ u + n ∧ u + n ≤ (↑s.length : Int), (0 : Int) ≤ u ∧ u ≤ u + n]) ⟨by unfold inI64; omega, by omega, by omega, trivial⟩ ?_
   rw [show u + n - u = n by omega]
   refine RC (dst := some 33) [] .a (Clone_spec ((s.drop u.toNat).take n.toNat) (by rw [List.length_take, List.length_drop]; omega)) ?_
   rintro v hp' ⟨rfl, rfl⟩
   refine RV true [] .z (.d (.d (.d (.d (.k (.i 4 (.int .i64 (u + n)) (.i 3 (.string (mkS (List.take (Int.toNat n) (List.drop (Int.toNat u) s)))) .z))))))) .a ([inI64 (u + n)]) ⟨by unfold inI64; omega, trivial⟩ ?_
   refine RZ (NT (RE ?_))
   refine NE [0] .a .z [] (.tuple #[.string (mkS (List.take (Int.toNat n) (List.drop (Int.toNat u) s))), .int .i64 (u + n), .int .i64 0]) ?_
   exact ⟨rfl, rfl⟩
theorem txt_ok (s : List UInt8) (most : Int) : ((txW s most).2.2 = 0 ∧ 0 < (txW s most).2.1 ∧ (txW s most).2.1 ≤ s.length) ∨ ((txW s most).1 = [] ∧ (txW s most).2.1 = 0 ∧ (txW s most).2.2 ≠ 0) := by
 have hok := cnt_ok s most
 unfold txW
 split
 ·rename_i h; exact .inr ⟨rfl, rfl, h⟩
 ·split
  ·exact .inr ⟨rfl, rfl, by simp⟩
  ·exact .inl ⟨rfl, by simp only []; omega, by simp only []; omega⟩
theorem num_ok (s : List UInt8) : ((num s).2.2 = 0 ∧ 0 < (num s).2.1 ∧ (num s).2.1 ≤ s.length) ∨ ((num s).1 = 0 ∧ (num s).2.1 = 0 ∧ (num s).2.2 ≠ 0) := by
 have h := numGo_ok 10 0 0 s
 have hn : numGo 10 0 0 s = num s := rfl
 rw [hn] at h
 rcases h with h | h
 ·exact .inl ⟨h.1, by have := h.2.1; simpa using this, by have := h.2.2; simpa using this⟩
 ·exact .inr ⟨h.1, h.2.1, by omega⟩
end Go.Proofs.YtgcfomhlgipllaaGreatDoor
namespace Go.Proofs.YtgcfomhlgipllaaGreatDoor
open Go Go.Sx
def rd {α : Type} (z : α) (A : Nat) (e : Int) (x : α × Int × Int) : α × Nat × Int := if e ≠ 0 then (z, A, e) else if x.2.2 ≠ 0 then (z, A, x.2.2) else (x.1, A + x.2.1.toNat, 0)
theorem read_number (r A : Nat) (s : List UInt8) (e : Int) (hA : A ≤ s.length) (hl : s.length ≤ 1099511627776) :
  Does Tryz.prog 117 [.pointer (some ⟨r, 0, none⟩), .func (.func 118) #[] #[]] [rdr r s A e] (fun v hp' => v = .int .i64 (rd 0 A e (num (s.drop A))).1 ∧ hp' = [rdr r s (rd 0 A e (num (s.drop A))).2.1 (rd 0 A e (num (s.drop A))).2.2]) := by
 refine fn_enter Tryz.func117 rfl 44 rfl fun w0 h0 => ?_
 have hok := num_ok (s.drop A)
 rw [List.length_drop] at hok
 unfold rd
 refine SQ (RG ?_)
 refine RR [] .z (.i 4 (.int .i64 0) .a) (.i (.blk r 184 [.bool true, .string (mkS s), .int .i64 (↑A : Int), .int .i64 e]) .z) ?_
 refine RZ (NT (SQ (RG ?_)))
 refine RR [] .z (.i 5 (.int .i64 0) .a) .a ?_
 refine RZ (NT (SQ (SQ (RG ?_))))
 refine RR [] (.d .a) (.i 9 (.pointer (some ⟨r, 0, none⟩)) .a) .a ?_
 refine RCA (dst := some 10) (Err_spec r s A e) ?_
 rintro v hp' ⟨rfl, rfl⟩
 refine RR [] .z (.i 11 (.bool (e != (0 : Int))) (.d (.d (.k .a)))) (.i (.blk r 184 [.bool true, .string (mkS s), .int .i64 (↑A : Int), .int .i64 e]) .z) ?_
 refine RZ (NT ?_)
 refine wpc_cond ((e != 0)) (by kernel_rfl) (fun he => ?_) (fun he => ?_)
 ·have he' : e ≠ 0 := by simpa using he
  rw [if_pos he']
  refine SQ (RG ?_)
  refine RR [] .z (.i 4 (.int .i64 0) (.d (.k (.d (.k .a))))) .a ?_
  refine RZ (NT (RE (TR ?_)))
  refine NE [0] .a .z [] (.int .i64 0) ?_
  exact ⟨rfl, rfl⟩
 ·have he' : ¬ e ≠ 0 := by simpa using he
  obtain rfl : e = 0 := Classical.not_not.1 he'
  rw [if_neg he']
  unfold rdr
  have hT : List.take ((s.length : Int) - (A : Int)).toNat (List.drop A s) = s.drop A := List.take_of_length_le (by rw [List.length_drop]; omega)
  refine SK (NT (SQ ?_))
  refine wpc_draw (by kernel_rfl) [.blk r 184 [.bool true, .string (mkS s), .int .i64 (↑A : Int), .int .i64 0]] (sub_of [0] (by kernel_rfl)) 18 (by kernel_rfl) ?_
  refine wpa_take true [(0, []), (1, []), (2, []), (3, []), (4, [0]), (5, []), (6, []), (7, []), (8, [0]), (9, [])] [(23, .string (mkS (List.take (Int.toNat ((↑(List.length s) : Int) - (↑A : Int))) (List.drop A s)))), (14, Value.func (Fn.func 118) #[] #[]), (5, .int .i64 0), (4, .int .i64 0), (0, .pointer (some ⟨r, 0, none⟩))] (#[true, true, true, true, true, true, true, true, true, true, false, false, false, false, false, false, false, false]) [(0 : Int) ≤ (↑A : Int) ∧ (↑A : Int) ≤ (↑s.length : Int)] (n := 8) (by kernel_rfl) (by kernel_rfl) (by kernel_rfl) ⟨by omega, trivial⟩ ?_
  rw [hT]
  refine AC (dst := some 24) 7 10 .a (wnumber_spec (s.drop A) (by rw [List.length_drop]; omega)) (GI []) [0] ?_
  rintro v hp' ⟨rfl, rfl⟩
  obtain ⟨x, u, y, hx⟩ : ∃ x u y, (num (s.drop A)) = (x, u, y) := ⟨_, _, _, rfl⟩
  rw [hx] at hok ⊢
  dsimp only at hok ⊢
  refine TK 0 [(11, []), (12, []), (13, []), (14, []), (15, []), (16, []), (17, [])] (.i 8 (.int .i64 y) (.i 7 (.int .i64 u) (.i 6 (.int .i64 x) (.d (.d (.d (.k .a))))))) (#[true, true, true, true, true, true, true, true, true, true, true, true, true, true, true, true, true, true]) ?_
  refine wpa_done 0 (by kernel_rfl) ?_
  refine NT (SQ (SQ (RG ?_)))
  refine RR [] .z (.i 29 (.bool (y != (0 : Int))) .a) .a ?_
  refine RZ (NT ?_)
  refine wpc_cond ((y != 0)) (by kernel_rfl) (fun hy => ?_) (fun hy => ?_)
  ·have hy' : y ≠ 0 := by simpa using hy
   rw [if_pos hy']
   refine SQ (RG ?_)
   refine RR [0] .z (.d (.d (.k .a))) (.u (.k (.k (.k (.i (.int .i64 y) .z)))) .a) ?_
   refine RZ (NT (SQ (RG ?_)))
   refine RR [] .z (.i 4 (.int .i64 0) (.k (.k (.d (.d (.k .a)))))) .a ?_
   refine RZ (NT (RE (TR ?_)))
   refine NE [0] .a .z [] (.int .i64 0) ?_
   exact ⟨rfl, rfl⟩
  ·have hy' : ¬ y ≠ 0 := by simpa using hy
   rw [if_neg hy']
   have hu : 0 < u ∧ u ≤ ((s.length - A : Nat) : Int) := by omega
   have hAu : ((A + u.toNat : Nat) : Int) = A + u := by omega
   dsimp only
   rw [hAu]
   refine SK (NT (SQ (RG ?_)))
   refine RV true [0, 0] .z (.d (.d (.d (.k (.d (.k .z)))))) (.u (.k (.k (.i (.int .i64 ((↑A : Int) + u)) (.d (.k .a))))) .a) ([inI64 ((↑A : Int) + u)]) ⟨by unfold inI64; omega, trivial⟩ ?_
   refine RZ (NT (SQ (RG ?_)))
   refine RR [] .z (.i 4 (.int .i64 x) .z) .a ?_
   refine RZ (NT (RE ?_))
   refine NE [0] .a .z [] (.int .i64 x) ?_
   exact ⟨rfl, rfl⟩
theorem read_bol1 (r A : Nat) (s : List UInt8) (e : Int) (hA : A ≤ s.length) (hl : s.length ≤ 1099511627776) :
  Does Tryz.prog 156 [.pointer (some ⟨r, 0, none⟩), .func (.func 157) #[] #[]] [rdr r s A e] (fun v hp' => v = .bool (rd false A e (bol (s.drop A))).1 ∧ hp' = [rdr r s (rd false A e (bol (s.drop A))).2.1 (rd false A e (bol (s.drop A))).2.2]) := by
 refine fn_enter Tryz.func156 rfl 44 rfl fun w0 h0 => ?_
 have hok := bol_ok (s.drop A)
 rw [List.length_drop] at hok
 unfold rd
 refine SQ (RG ?_)
 refine RR [] .z (.i 4 (.bool false) .a) (.i (.blk r 184 [.bool true, .string (mkS s), .int .i64 (↑A : Int), .int .i64 e]) .z) ?_
 refine RZ (NT (SQ (RG ?_)))
 refine RR [] .z (.i 5 (.bool false) .a) .a ?_
 refine RZ (NT (SQ (SQ (RG ?_))))
 refine RR [] (.d .a) (.i 9 (.pointer (some ⟨r, 0, none⟩)) .a) .a ?_
 refine RCA (dst := some 10) (Err_spec r s A e) ?_
 rintro v hp' ⟨rfl, rfl⟩
 refine RR [] .z (.i 11 (.bool (e != (0 : Int))) (.d (.d (.k .a)))) (.i (.blk r 184 [.bool true, .string (mkS s), .int .i64 (↑A : Int), .int .i64 e]) .z) ?_
 refine RZ (NT ?_)
 refine wpc_cond ((e != 0)) (by kernel_rfl) (fun he => ?_) (fun he => ?_)
 ·have he' : e ≠ 0 := by simpa using he
  rw [if_pos he']
  refine SQ (RG ?_)
  refine RR [] .z (.i 4 (.bool false) (.d (.k (.d (.k .a))))) .a ?_
  refine RZ (NT (RE (TR ?_)))
  refine NE [0] .a .z [] (.bool false) ?_
  exact ⟨rfl, rfl⟩
 ·have he' : ¬ e ≠ 0 := by simpa using he
  obtain rfl : e = 0 := Classical.not_not.1 he'
  rw [if_neg he']
  unfold rdr
  have hT : List.take ((s.length : Int) - (A : Int)).toNat (List.drop A s) = s.drop A := List.take_of_length_le (by rw [List.length_drop]; omega)
  refine SK (NT (SQ ?_))
  refine wpc_draw (by kernel_rfl) [.blk r 184 [.bool true, .string (mkS s), .int .i64 (↑A : Int), .int .i64 0]] (sub_of [0] (by kernel_rfl)) 18 (by kernel_rfl) ?_
  refine wpa_take true [(0, []), (1, []), (2, []), (3, []), (4, [0]), (5, []), (6, []), (7, []), (8, [0]), (9, [])] [(23, .string (mkS (List.take (Int.toNat ((↑(List.length s) : Int) - (↑A : Int))) (List.drop A s)))), (14, Value.func (Fn.func 157) #[] #[]), (5, .bool false), (4, .bool false), (0, .pointer (some ⟨r, 0, none⟩))] (#[true, true, true, true, true, true, true, true, true, true, false, false, false, false, false, false, false, false]) [(0 : Int) ≤ (↑A : Int) ∧ (↑A : Int) ≤ (↑s.length : Int)] (n := 8) (by kernel_rfl) (by kernel_rfl) (by kernel_rfl) ⟨by omega, trivial⟩ ?_
  rw [hT]
  refine AC (dst := some 24) 7 10 .a (Bool1_spec (s.drop A) (by rw [List.length_drop]; omega)) (GI []) [0] ?_
  rintro v hp' ⟨rfl, rfl⟩
  obtain ⟨x, u, y, hx⟩ : ∃ x u y, (bol (s.drop A)) = (x, u, y) := ⟨_, _, _, rfl⟩
  rw [hx] at hok ⊢
  dsimp only at hok ⊢
  refine TK 0 [(11, []), (12, []), (13, []), (14, []), (15, []), (16, []), (17, [])] (.i 8 (.int .i64 y) (.i 7 (.int .i64 u) (.i 6 (.bool x) (.d (.d (.d (.k .a))))))) (#[true, true, true, true, true, true, true, true, true, true, true, true, true, true, true, true, true, true]) ?_
  refine wpa_done 0 (by kernel_rfl) ?_
  refine NT (SQ (SQ (RG ?_)))
  refine RR [] .z (.i 29 (.bool (y != (0 : Int))) .a) .a ?_
  refine RZ (NT ?_)
  refine wpc_cond ((y != 0)) (by kernel_rfl) (fun hy => ?_) (fun hy => ?_)
  ·have hy' : y ≠ 0 := by simpa using hy
   rw [if_pos hy']
   refine SQ (RG ?_)
   refine RR [0] .z (.d (.d (.k .a))) (.u (.k (.k (.k (.i (.int .i64 y) .z)))) .a) ?_
   refine RZ (NT (SQ (RG ?_)))
   refine RR [] .z (.i 4 (.bool false) (.k (.k (.d (.d (.k .a)))))) .a ?_
   refine RZ (NT (RE (TR ?_)))
   refine NE [0] .a .z [] (.bool false) ?_
   exact ⟨rfl, rfl⟩
  ·have hy' : ¬ y ≠ 0 := by simpa using hy
   rw [if_neg hy']
   have hu : 0 < u ∧ u ≤ ((s.length - A : Nat) : Int) := by omega
   have hAu : ((A + u.toNat : Nat) : Int) = A + u := by omega
   dsimp only
   rw [hAu]
   refine SK (NT (SQ (RG ?_)))
   refine RV true [0, 0] .z (.d (.d (.d (.k (.d (.k .z)))))) (.u (.k (.k (.i (.int .i64 ((↑A : Int) + u)) (.d (.k .a))))) .a) ([inI64 ((↑A : Int) + u)]) ⟨by unfold inI64; omega, trivial⟩ ?_
   refine RZ (NT (SQ (RG ?_)))
   refine RR [] .z (.i 4 (.bool x) .z) .a ?_
   refine RZ (NT (RE ?_))
   refine NE [0] .a .z [] (.bool x) ?_
   exact ⟨rfl, rfl⟩
theorem read_count (r A : Nat) (s : List UInt8) (e : Int) (t : Nat) (most : Int) (hA : A ≤ s.length) (hl : s.length ≤ 1099511627776) :
  Does Tryz.prog 117 [.pointer (some ⟨r, 0, none⟩), .func (.func 151) #[] #[.pointer (some ⟨t, 0, none⟩)]] [rdr r s A e, .blk t 3 [.int .i64 most]] (fun v hp' => v = .int .i64 (rd 0 A e (cnt (s.drop A) most)).1 ∧ hp' = [rdr r s (rd 0 A e (cnt (s.drop A) most)).2.1 (rd 0 A e (cnt (s.drop A) most)).2.2, .blk t 3 [.int .i64 most]]) := by
 refine fn_enter Tryz.func117 rfl 44 rfl fun w0 h0 => ?_
 have hok := cnt_ok (s.drop A) most
 rw [List.length_drop] at hok
 unfold rd
 refine SQ (RG ?_)
 refine RR [] .z (.i 4 (.int .i64 0) .a) (.i (.blk r 184 [.bool true, .string (mkS s), .int .i64 (↑A : Int), .int .i64 e]) (.d (.k .a))) ?_
 refine RZ (NT (SQ (RG ?_)))
 refine RR [] .z (.i 5 (.int .i64 0) .a) .a ?_
 refine RZ (NT (SQ (SQ (RG ?_))))
 refine RR [] (.d .a) (.i 9 (.pointer (some ⟨r, 0, none⟩)) .a) .a ?_
 refine RC (dst := some 10) [0] (.d (.k .a)) (Err_spec r s A e) ?_
 rintro v hp' ⟨rfl, rfl⟩
 refine RR [] .z (.i 11 (.bool (e != (0 : Int))) (.d (.d (.k .a)))) (.i (.blk r 184 [.bool true, .string (mkS s), .int .i64 (↑A : Int), .int .i64 e]) (.d (.k .a))) ?_
 refine RZ (NT ?_)
 refine wpc_cond ((e != 0)) (by kernel_rfl) (fun he => ?_) (fun he => ?_)
 ·have he' : e ≠ 0 := by simpa using he
  rw [if_pos he']
  refine SQ (RG ?_)
  refine RR [] .z (.i 4 (.int .i64 0) (.d (.k (.d (.k .a))))) .a ?_
  refine RZ (NT (RE (TR ?_)))
  refine NE [0, 0] .a .z [] (.int .i64 0) ?_
  exact ⟨rfl, rfl⟩
 ·have he' : ¬ e ≠ 0 := by simpa using he
  obtain rfl : e = 0 := Classical.not_not.1 he'
  rw [if_neg he']
  unfold rdr
  have hT : List.take ((s.length : Int) - (A : Int)).toNat (List.drop A s) = s.drop A := List.take_of_length_le (by rw [List.length_drop]; omega)
  refine SK (NT (SQ ?_))
  refine wpc_draw (by kernel_rfl) [.blk r 184 [.bool true, .string (mkS s), .int .i64 (↑A : Int), .int .i64 0]] (sub_of [0] (by kernel_rfl)) 18 (by kernel_rfl) ?_
  refine wpa_take true [(0, []), (1, []), (2, []), (3, []), (4, [0]), (5, []), (6, []), (7, []), (8, [0]), (9, [])] [(23, .string (mkS (List.take (Int.toNat ((↑(List.length s) : Int) - (↑A : Int))) (List.drop A s)))), (14, Value.func (Fn.func 151) #[] #[.pointer (some ⟨t, 0, none⟩)]), (5, .int .i64 0), (4, .int .i64 0), (0, .pointer (some ⟨r, 0, none⟩))] (#[true, true, true, true, true, true, true, true, true, true, false, false, false, false, false, false, false, false]) [(0 : Int) ≤ (↑A : Int) ∧ (↑A : Int) ≤ (↑s.length : Int)] (n := 8) (by kernel_rfl) (by kernel_rfl) (by kernel_rfl) ⟨by omega, trivial⟩ ?_
  rw [hT]
  refine AC (dst := some 24) 7 10 (.k .z) (Count1_spec (s.drop A) t most (by rw [List.length_drop]; omega)) (GI [1]) [0] ?_
  rintro v hp' ⟨rfl, rfl⟩
  obtain ⟨x, u, y, hx⟩ : ∃ x u y, (cnt (s.drop A) most) = (x, u, y) := ⟨_, _, _, rfl⟩
  rw [hx] at hok ⊢
  dsimp only at hok ⊢
  refine TK 0 [(11, []), (12, []), (13, []), (14, []), (15, []), (16, []), (17, [])] (.i 8 (.int .i64 y) (.i 7 (.int .i64 u) (.i 6 (.int .i64 x) (.d (.d (.d (.k .a))))))) (#[true, true, true, true, true, true, true, true, true, true, true, true, true, true, true, true, true, true]) ?_
  refine wpa_done 0 (by kernel_rfl) ?_
  refine NT (SQ (SQ (RG ?_)))
  refine RR [] .z (.i 29 (.bool (y != (0 : Int))) .a) .a ?_
  refine RZ (NT ?_)
  refine wpc_cond ((y != 0)) (by kernel_rfl) (fun hy => ?_) (fun hy => ?_)
  ·have hy' : y ≠ 0 := by simpa using hy
   rw [if_pos hy']
   refine SQ (RG ?_)
   refine RR [1] .z (.d (.d (.k .a))) (.k (.u (.k (.k (.k (.i (.int .i64 y) .z)))) .a)) ?_
   refine RZ (NT (SQ (RG ?_)))
   refine RR [] .z (.i 4 (.int .i64 0) (.k (.k (.d (.d (.k .a)))))) .a ?_
   refine RZ (NT (RE (TR ?_)))
   refine NE [1, 0] (.i (.blk r 184 [.bool true, .string (mkS s), .int .i64 (↑A : Int), .int .i64 y]) (.k .z)) .z [] (.int .i64 0) ?_
   exact ⟨rfl, rfl⟩
  ·have hy' : ¬ y ≠ 0 := by simpa using hy
   rw [if_neg hy']
   have hu : 0 < u ∧ u ≤ ((s.length - A : Nat) : Int) := by omega
   have hAu : ((A + u.toNat : Nat) : Int) = A + u := by omega
   dsimp only
   rw [hAu]
   refine SK (NT (SQ (RG ?_)))
   refine RV true [1, 1] .z (.d (.d (.d (.k (.d (.k .z)))))) (.k (.u (.k (.k (.i (.int .i64 ((↑A : Int) + u)) (.d (.k .a))))) .a)) ([inI64 ((↑A : Int) + u)]) ⟨by unfold inI64; omega, trivial⟩ ?_
   refine RZ (NT (SQ (RG ?_)))
   refine RR [] .z (.i 4 (.int .i64 x) .z) .a ?_
   refine RZ (NT (RE ?_))
   refine NE [1, 0] (.i (.blk r 184 [.bool true, .string (mkS s), .int .i64 ((↑A : Int) + u), .int .i64 0]) (.k .z)) .z [] (.int .i64 x) ?_
   exact ⟨rfl, rfl⟩
theorem read_text (r A : Nat) (s : List UInt8) (e : Int) (t : Nat) (most : Int) (hA : A ≤ s.length) (hl : s.length ≤ 1099511627776) :
  Does Tryz.prog 153 [.pointer (some ⟨r, 0, none⟩), .func (.func 154) #[] #[.pointer (some ⟨t, 0, none⟩)]] [rdr r s A e, .blk t 3 [.int .i64 most]] (fun v hp' => v = .string (mkS (rd [] A e (txW (s.drop A) most)).1) ∧ hp' = [rdr r s (rd [] A e (txW (s.drop A) most)).2.1 (rd [] A e (txW (s.drop A) most)).2.2, .blk t 3 [.int .i64 most]]) := by
 refine fn_enter Tryz.func153 rfl 44 rfl fun w0 h0 => ?_
 have hok := txt_ok (s.drop A) most
 rw [List.length_drop] at hok
 unfold rd
 refine SQ (RG ?_)
 refine RR [] .z (.i 4 (.string ⟨#[]⟩) .a) (.i (.blk r 184 [.bool true, .string (mkS s), .int .i64 (↑A : Int), .int .i64 e]) (.d (.k .a))) ?_
 refine RZ (NT (SQ (RG ?_)))
 refine RR [] .z (.i 5 (.string ⟨#[]⟩) .a) .a ?_
 refine RZ (NT (SQ (SQ (RG ?_))))
 refine RR [] (.d .a) (.i 9 (.pointer (some ⟨r, 0, none⟩)) .a) .a ?_
 refine RC (dst := some 10) [0] (.d (.k .a)) (Err_spec r s A e) ?_
 rintro v hp' ⟨rfl, rfl⟩
 refine RR [] .z (.i 11 (.bool (e != (0 : Int))) (.d (.d (.k .a)))) (.i (.blk r 184 [.bool true, .string (mkS s), .int .i64 (↑A : Int), .int .i64 e]) (.d (.k .a))) ?_
 refine RZ (NT ?_)
 refine wpc_cond ((e != 0)) (by kernel_rfl) (fun he => ?_) (fun he => ?_)
 ·have he' : e ≠ 0 := by simpa using he
  rw [if_pos he']
  refine SQ (RG ?_)
  refine RR [] .z (.i 4 (.string ⟨#[]⟩) (.d (.k (.d (.k .a))))) .a ?_
  refine RZ (NT (RE (TR ?_)))
  refine NE [0, 0] .a .z [] (.string ⟨#[]⟩) ?_
  exact ⟨rfl, rfl⟩
 ·have he' : ¬ e ≠ 0 := by simpa using he
  obtain rfl : e = 0 := Classical.not_not.1 he'
  rw [if_neg he']
  unfold rdr
  have hT : List.take ((s.length : Int) - (A : Int)).toNat (List.drop A s) = s.drop A := List.take_of_length_le (by rw [List.length_drop]; omega)
  refine SK (NT (SQ ?_))
  refine wpc_draw (by kernel_rfl) [.blk r 184 [.bool true, .string (mkS s), .int .i64 (↑A : Int), .int .i64 0]] (sub_of [0] (by kernel_rfl)) 18 (by kernel_rfl) ?_
  refine wpa_take true [(0, []), (1, []), (2, []), (3, []), (4, [0]), (5, []), (6, []), (7, []), (8, [0]), (9, [])] [(23, .string (mkS (List.take (Int.toNat ((↑(List.length s) : Int) - (↑A : Int))) (List.drop A s)))), (14, Value.func (Fn.func 154) #[] #[.pointer (some ⟨t, 0, none⟩)]), (5, .string ⟨#[]⟩), (4, .string ⟨#[]⟩), (0, .pointer (some ⟨r, 0, none⟩))] (#[true, true, true, true, true, true, true, true, true, true, false, false, false, false, false, false, false, false]) [(0 : Int) ≤ (↑A : Int) ∧ (↑A : Int) ≤ (↑s.length : Int)] (n := 8) (by kernel_rfl) (by kernel_rfl) (by kernel_rfl) ⟨by omega, trivial⟩ ?_
  rw [hT]
  refine AC (dst := some 24) 7 10 (.k .z) (Text1_spec (s.drop A) t most (by rw [List.length_drop]; omega)) (GI [1]) [0] ?_
  rintro v hp' ⟨rfl, rfl⟩
  obtain ⟨x, u, y, hx⟩ : ∃ x u y, (txW (s.drop A) most) = (x, u, y) := ⟨_, _, _, rfl⟩
  rw [hx] at hok ⊢
  dsimp only at hok ⊢
  refine TK 0 [(11, []), (12, []), (13, []), (14, []), (15, []), (16, []), (17, [])] (.i 8 (.int .i64 y) (.i 7 (.int .i64 u) (.i 6 (.string (mkS x)) (.d (.d (.d (.k .a))))))) (#[true, true, true, true, true, true, true, true, true, true, true, true, true, true, true, true, true, true]) ?_
  refine wpa_done 0 (by kernel_rfl) ?_
  refine NT (SQ (SQ (RG ?_)))
  refine RR [] .z (.i 29 (.bool (y != (0 : Int))) .a) .a ?_
  refine RZ (NT ?_)
  refine wpc_cond ((y != 0)) (by kernel_rfl) (fun hy => ?_) (fun hy => ?_)
  ·have hy' : y ≠ 0 := by simpa using hy
   rw [if_pos hy']
   refine SQ (RG ?_)
   refine RR [1] .z (.d (.d (.k .a))) (.k (.u (.k (.k (.k (.i (.int .i64 y) .z)))) .a)) ?_
   refine RZ (NT (SQ (RG ?_)))
   refine RR [] .z (.i 4 (.string ⟨#[]⟩) (.k (.k (.d (.d (.k .a)))))) .a ?_
   refine RZ (NT (RE (TR ?_)))
   refine NE [1, 0] (.i (.blk r 184 [.bool true, .string (mkS s), .int .i64 (↑A : Int), .int .i64 y]) (.k .z)) .z [] (.string ⟨#[]⟩) ?_
   exact ⟨rfl, rfl⟩
  ·have hy' : ¬ y ≠ 0 := by simpa using hy
   rw [if_neg hy']
   have hu : 0 < u ∧ u ≤ ((s.length - A : Nat) : Int) := by omega
   have hAu : ((A + u.toNat : Nat) : Int) = A + u := by omega
   dsimp only
   rw [hAu]
   refine SK (NT (SQ (RG ?_)))
   refine RV true [1, 1] .z (.d (.d (.d (.k (.d (.k .z)))))) (.k (.u (.k (.k (.i (.int .i64 ((↑A : Int) + u)) (.d (.k .a))))) .a)) ([inI64 ((↑A : Int) + u)]) ⟨by unfold inI64; omega, trivial⟩ ?_
   refine RZ (NT (SQ (RG ?_)))
   refine RR [] .z (.i 4 (.string (mkS x)) .z) .a ?_
   refine RZ (NT (RE ?_))
   refine NE [1, 0] (.i (.blk r 184 [.bool true, .string (mkS s), .int .i64 ((↑A : Int) + u), .int .i64 0]) (.k .z)) .z [] (.string (mkS x)) ?_
   exact ⟨rfl, rfl⟩
theorem Int_spec (r A : Nat) (s : List UInt8) (e : Int) (hA : A ≤ s.length) (hl : s.length ≤ 1099511627776) :
  Does Tryz.prog 64 [.pointer (some ⟨r, 0, none⟩)] [rdr r s A e] (fun v hp' => v = .int .i64 (rd 0 A e (num (s.drop A))).1 ∧ hp' = [rdr r s (rd 0 A e (num (s.drop A))).2.1 (rd 0 A e (num (s.drop A))).2.2]) := by
 refine fn_enter Tryz.func64 rfl 5 rfl fun w0 h0 => ?_
 refine SQ (RG ?_)
 refine RR [] .z (.i 2 (.int .i64 0) .a) (.i (.blk r 184 [.bool true, .string (mkS s), .int .i64 (↑A : Int), .int .i64 e]) .z) ?_
 refine RZ (NT (SQ (RG ?_)))
 refine RR [] (.d .a) (.i 3 (.pointer (some ⟨r, 0, none⟩)) (.k .z)) .a ?_
 refine RCA (dst := some 4) (read_number r A s e hA hl) ?_
 rintro v hp' ⟨rfl, rfl⟩
 unfold rdr
 refine RR [] .z (.i 2 (.int .i64 (rd 0 A e (num (List.drop A s))).fst) .z) .a ?_
 refine RZ (NT (RE ?_))
 refine NE [0] .a .z [] (.int .i64 (rd 0 A e (num (List.drop A s))).fst) ?_
 exact ⟨rfl, rfl⟩
theorem Bool_spec (r A : Nat) (s : List UInt8) (e : Int) (hA : A ≤ s.length) (hl : s.length ≤ 1099511627776) :
  Does Tryz.prog 112 [.pointer (some ⟨r, 0, none⟩)] [rdr r s A e] (fun v hp' => v = .bool (rd false A e (bol (s.drop A))).1 ∧ hp' = [rdr r s (rd false A e (bol (s.drop A))).2.1 (rd false A e (bol (s.drop A))).2.2]) := by
 refine fn_enter Tryz.func112 rfl 5 rfl fun w0 h0 => ?_
 refine SQ (RG ?_)
 refine RR [] .z (.i 2 (.bool false) .a) (.i (.blk r 184 [.bool true, .string (mkS s), .int .i64 (↑A : Int), .int .i64 e]) .z) ?_
 refine RZ (NT (SQ (RG ?_)))
 refine RR [] (.d .a) (.i 3 (.pointer (some ⟨r, 0, none⟩)) (.k .z)) .a ?_
 refine RCA (dst := some 4) (read_bol1 r A s e hA hl) ?_
 rintro v hp' ⟨rfl, rfl⟩
 unfold rdr
 refine RR [] .z (.i 2 (.bool (rd false A e (bol (List.drop A s))).fst) .z) .a ?_
 refine RZ (NT (RE ?_))
 refine NE [0] .a .z [] (.bool (rd false A e (bol (List.drop A s))).fst) ?_
 exact ⟨rfl, rfl⟩
theorem RdCount_spec (r A : Nat) (s : List UInt8) (e : Int) (most : Int) (hA : A ≤ s.length) (hl : s.length ≤ 1099511627776) :
  Does Tryz.prog 109 [.pointer (some ⟨r, 0, none⟩), .int .i64 most] [rdr r s A e] (fun v hp' => v = .int .i64 (rd 0 A e (cnt (s.drop A) most)).1 ∧ hp' = [rdr r s (rd 0 A e (cnt (s.drop A) most)).2.1 (rd 0 A e (cnt (s.drop A) most)).2.2]) := by
 refine fn_enter Tryz.func109 rfl 8 rfl fun w0 h0 => ?_
 refine SQ (RG ?_)
 refine RP [] (.d .a) 3 (.k .z) (.i (.blk r 184 [.bool true, .string (mkS s), .int .i64 (↑A : Int), .int .i64 e]) .z) 3 [.int .i64 most] fun g1 => ?_
 refine RR [] .z (.i 4 (.int .i64 0) .a) .a ?_
 refine RZ (NT (SQ (RG ?_)))
 refine RR [] (.d (.d .a)) (.i 6 (Value.func (Fn.func 151) #[] #[.pointer (some ⟨g1, 0, none⟩)]) (.i 5 (.pointer (some ⟨r, 0, none⟩)) (.k .z))) .a ?_
 refine RCA (dst := some 7) (read_count r A s e g1 most hA hl) ?_
 rintro v hp' ⟨rfl, rfl⟩
 unfold rdr
 refine RR [] .z (.i 4 (.int .i64 (rd 0 A e (cnt (List.drop A s) most)).fst) .z) .a ?_
 refine RZ (NT (RE ?_))
 refine NE [0] (.k .z) (.d (.k .a)) [] (.int .i64 (rd 0 A e (cnt (List.drop A s) most)).fst) ?_
 exact ⟨rfl, rfl⟩
theorem Text_spec (r A : Nat) (s : List UInt8) (e : Int) (most : Int) (hA : A ≤ s.length) (hl : s.length ≤ 1099511627776) :
  Does Tryz.prog 111 [.pointer (some ⟨r, 0, none⟩), .int .i64 most] [rdr r s A e] (fun v hp' => v = .string (mkS (rd [] A e (txW (s.drop A) most)).1) ∧ hp' = [rdr r s (rd [] A e (txW (s.drop A) most)).2.1 (rd [] A e (txW (s.drop A) most)).2.2]) := by
 refine fn_enter Tryz.func111 rfl 8 rfl fun w0 h0 => ?_
 refine SQ (RG ?_)
 refine RP [] (.d .a) 3 (.k .z) (.i (.blk r 184 [.bool true, .string (mkS s), .int .i64 (↑A : Int), .int .i64 e]) .z) 3 [.int .i64 most] fun g1 => ?_
 refine RR [] .z (.i 4 (.string ⟨#[]⟩) .a) .a ?_
 refine RZ (NT (SQ (RG ?_)))
 refine RR [] (.d (.d .a)) (.i 6 (Value.func (Fn.func 154) #[] #[.pointer (some ⟨g1, 0, none⟩)]) (.i 5 (.pointer (some ⟨r, 0, none⟩)) (.k .z))) .a ?_
 refine RCA (dst := some 7) (read_text r A s e g1 most hA hl) ?_
 rintro v hp' ⟨rfl, rfl⟩
 unfold rdr
 refine RR [] .z (.i 4 (.string (mkS (rd [] A e (txW (List.drop A s) most)).fst)) .z) .a ?_
 refine RZ (NT (RE ?_))
 refine NE [0] (.k .z) (.d (.k .a)) [] (.string (mkS (rd [] A e (txW (List.drop A s) most)).fst)) ?_
 exact ⟨rfl, rfl⟩
theorem unfold_fold (n : Int) : unfoldN (foldN n) = n := by unfold unfoldN foldN; split <;> split <;> omega
theorem ofNat_toNat {n : Nat} (h : n < 256) : (UInt8.ofNat n).toNat = n := by rw [UInt8.toNat_ofNat']; omega
theorem num_vb : ∀ (k i f g : Nat) (more : List UInt8), i + k = 10 → 0 < k → (0 < i → 0 < g) → f + g * 128 ^ i < 18446744073709551616 →
  numGo k i f (vb g ++ more) = (unfoldN (f + g * 128 ^ i : Nat), ((i + (vb g).length : Nat) : Int), 0)
 | 0, _, _, _, _, _, h, _, _ => absurd h (by decide)
 | k + 1, i, f, g, more, hk, _, hg, hF => by
  have e9 : (128 : Nat) ^ 9 = 9223372036854775808 := by decide
  by_cases hs : g < 128
  ·rw [vb_lt hs]
   have hc : (UInt8.ofNat g).toNat = g := ofNat_toNat (by omega)
   show numGo (k + 1) i f (UInt8.ofNat g :: more) = _
   unfold numGo
   rw [hc]
   have h9 : ¬ (i = 9 ∧ UInt8.ofNat g ≠ 1) := by
    rintro ⟨rfl, hne⟩
    rw [e9] at hF
    have : g = 1 := by have := hg (by decide); omega
    exact hne (by rw [this]; rfl)
   have h0 : ¬ (UInt8.ofNat g = 0 ∧ 0 < i) := by
    rintro ⟨h1, h2⟩
    have h3 := congrArg UInt8.toNat h1
    rw [hc] at h3
    have := hg h2
    have e0 : (0 : UInt8).toNat = 0 := rfl
    omega
   rw [if_neg h9, if_neg (by omega), if_neg h0, Nat.mod_eq_of_lt hs]
   simp
  ·rw [vb_ge hs]
   have hc : (UInt8.ofNat (g % 128 + 128)).toNat = g % 128 + 128 := ofNat_toNat (by omega)
   have hi9 : i < 9 := by
    rcases Nat.lt_or_ge i 9 with h | h
    ·exact h
    ·have e : i = 9 := by omega
     subst e
     rw [e9] at hF
     omega
   show numGo (k + 1) i f (UInt8.ofNat (g % 128 + 128) :: (vb (g / 128) ++ more)) = _
   unfold numGo
   rw [hc]
   have e : f + (g % 128 + 128) % 128 * 128 ^ i + g / 128 * 128 ^ (i + 1) = f + g * 128 ^ i := by
    have h1 : (g % 128 + 128) % 128 = g % 128 := by omega
    have h2 : g / 128 * 128 ^ (i + 1) = (128 * (g / 128)) * 128 ^ i := by rw [Nat.pow_succ, Nat.mul_comm (128 ^ i), ← Nat.mul_assoc, Nat.mul_comm (g / 128)]
    rw [h1, h2, Nat.add_assoc, ← Nat.add_mul, Nat.mod_add_div]
   rw [if_neg (by omega), if_pos (by omega), num_vb k (i + 1) _ (g / 128) more (by omega) (by omega) (fun _ => by omega) (by rw [e]; exact hF), e]
   simp only [List.length_cons, Prod.mk.injEq, and_true, true_and]
   omega
theorem num_encI {n : Int} (h1 : -9223372036854775808 ≤ n) (h2 : n ≤ 9223372036854775807) (more : List UInt8) : num (encI n ++ more) = (n, ((encI n).length : Int), 0) := by
 have hF := foldN_lt h1 h2
 have hN := foldN_nn n
 have e : (((foldN n).toNat : Nat) : Int) = foldN n := Int.toNat_of_nonneg hN
 unfold num encI
 rw [num_vb 10 0 0 (foldN n).toNat more rfl (by decide) (fun h => absurd h (by decide)) (by simp; omega)]
 simp only [Nat.pow_zero, Nat.mul_one, Nat.zero_add, e, unfold_fold]
theorem cnt_encI {n most : Int} (h1 : 0 ≤ n) (h2 : n ≤ 9223372036854775807) (more : List UInt8) : cnt (encI n ++ more) most = if n > max 0 most then (0, 0, 5) else (n, ((encI n).length : Int), 0) := by
 unfold cnt
 rw [num_encI (by omega) h2]
 dsimp only
 rw [if_neg (by simp), if_neg (by omega)]
theorem txt_encT (t : List UInt8) (ht : (t.length : Int) ≤ 9223372036854775807) (most : Int) (hm : (t.length : Int) ≤ max 0 most) (more : List UInt8) : txW (encT t ++ more) most = (t, ((encT t).length : Int), 0) := by
 have hc := cnt_encI (most := most) (n := t.length) (by omega) ht (t ++ more)
 have e : encT t ++ more = encI t.length ++ (t ++ more) := by unfold encT; rw [List.append_assoc]
 rw [if_neg (by omega)] at hc
 unfold txW
 rw [e, hc]
 dsimp only
 rw [if_neg (by simp), if_neg (by simp only [List.length_append]; omega)]
 simp [encT]
theorem bol_encB (b : Bool) (more : List UInt8) : bol (encB b ++ more) = (b, 1, 0) := by cases b <;> rfl
theorem fold_unfold (F : Int) (h : 0 ≤ F) : foldN (unfoldN F) = F := by unfold unfoldN foldN; split <;> split <;> omega
theorem num_inv : ∀ (k i f : Nat) (s : List UInt8) (x u : Int), numGo k i f s = (x, u, 0) →
  ∃ g : Nat, x = unfoldN (f + g * 128 ^ i : Nat) ∧ u = ((i + (vb g).length : Nat) : Int) ∧ s.take (vb g).length = vb g ∧ (vb g).length ≤ s.length ∧ (0 < i → 0 < g)
 | 0, _, _, _, x, u, h => by simp [numGo] at h
 | _ + 1, _, _, [], x, u, h => by simp [numGo] at h
 | k + 1, i, f, c :: s, x, u, h => by
  unfold numGo at h
  split at h
  ·simp at h
  ·split at h
   ·rename_i hc
    obtain ⟨g, h1, h2, h3, h4, h5⟩ := num_inv k (i + 1) _ s x u h
    have hg := h5 (by omega)
    have hcl := c.toNat_lt
    have hge : ¬ (c.toNat % 128 + 128 * g) < 128 := by omega
    have hv : vb (c.toNat % 128 + 128 * g) = c :: vb g := by
     rw [vb_ge hge, show (c.toNat % 128 + 128 * g) / 128 = g by omega, show (c.toNat % 128 + 128 * g) % 128 + 128 = c.toNat by omega, UInt8.ofNat_toNat]
    refine ⟨c.toNat % 128 + 128 * g, ?_, ?_, ?_, ?_, fun _ => by omega⟩
    ·rw [h1]
     congr 2
     rw [Nat.pow_succ, Nat.mul_comm (128 ^ i), ← Nat.mul_assoc, Nat.mul_comm g, Nat.add_assoc, ← Nat.add_mul]
    ·rw [h2, hv]; simp; omega
    ·rw [hv, List.length_cons, List.take_succ_cons, h3]
    ·rw [hv]; simp; omega
   ·split at h
    ·simp at h
    ·rename_i hc h0
     have hc' : c.toNat < 128 := by omega
     simp only [Prod.mk.injEq, and_true] at h
     have hv : vb c.toNat = [c] := by rw [vb_lt hc', UInt8.ofNat_toNat]
     refine ⟨c.toNat, ?_, ?_, ?_, ?_, fun hi => ?_⟩
     ·rw [← h.1, Nat.mod_eq_of_lt hc']
     ·rw [← h.2, hv]; simp
     ·rw [hv]; simp
     ·rw [hv]; simp
     ·rcases Nat.eq_zero_or_pos c.toNat with h' | h'
      ·exact absurd ⟨UInt8.toNat_inj.1 h', hi⟩ h0
      ·exact h'
theorem num_form (s : List UInt8) (x u : Int) (h : num s = (x, u, 0)) : u = (encI x).length ∧ s.take (encI x).length = encI x ∧ (encI x).length ≤ s.length := by
 obtain ⟨g, h1, h2, h3, h4, _⟩ := num_inv 10 0 0 s x u h
 have e : encI x = vb g := by
  unfold encI
  rw [h1, fold_unfold _ (Int.natCast_nonneg _)]
  simp
 rw [e]
 exact ⟨by rw [h2]; simp, h3, h4⟩
theorem cnt_num (s : List UInt8) (most n u : Int) (h : cnt s most = (n, u, 0)) : num s = (n, u, 0) ∧ 0 ≤ n ∧ n ≤ max 0 most := by
 unfold cnt at h
 split at h
 ·rename_i h1; simp only [Prod.mk.injEq] at h; exact absurd h.2.2 h1
 ·rename_i h1
  split at h
  ·simp at h
  ·split at h
   ·simp at h
   ·simp only [Prod.mk.injEq, and_true] at h
    refine ⟨?_, by omega, by omega⟩
    rw [← h.1, ← h.2]
    exact Prod.ext rfl (Prod.ext rfl (Classical.not_not.1 h1))
theorem txt_form (s t : List UInt8) (most u : Int) (h : txW s most = (t, u, 0)) : u = (encT t).length ∧ s.take (encT t).length = encT t ∧ (encT t).length ≤ s.length := by
 obtain ⟨n, v, e, hn⟩ : ∃ n v e, cnt s most = (n, v, e) := ⟨_, _, _, rfl⟩
 have hok := cnt_ok s most
 unfold txW at h
 rw [hn] at h hok
 dsimp only at h hok
 split at h
 ·rename_i h1; simp only [Prod.mk.injEq] at h; exact absurd h.2.2 h1
 ·rename_i h1
  have he : e = 0 := Classical.not_not.1 h1
  subst he
  obtain ⟨hx, h0, _⟩ := cnt_num s most n v hn
  obtain ⟨hv, ht, hle⟩ := num_form s n v hx
  split at h
  ·simp at h
  ·rename_i h2
   simp only [Prod.mk.injEq, and_true] at h
   obtain ⟨h3, h4⟩ := h
   have hvn : v.toNat = (encI n).length := by omega
   have htl : t.length = n.toNat := by rw [← h3, List.length_take, List.length_drop]; omega
   have hE : encT t = encI n ++ t := by unfold encT; rw [htl, Int.toNat_of_nonneg h0]
   have hEl : (encT t).length = (encI n).length + t.length := by rw [hE, List.length_append]
   refine ⟨by omega, ?_, by omega⟩
   rw [hEl, List.take_add, ht, hE, htl, ← hvn, h3]
theorem unfoldN_rng {F : Int} (h : 0 ≤ F) (h2 : F < 18446744073709551616) : -9223372036854775808 ≤ unfoldN F ∧ unfoldN F ≤ 9223372036854775807 := by unfold unfoldN; split <;> omega
theorem num_rng : ∀ (k i f : Nat) (s : List UInt8), f < 128 ^ i → i + k = 10 → -9223372036854775808 ≤ (numGo k i f s).1 ∧ (numGo k i f s).1 ≤ 9223372036854775807
 | 0, _, _, _, _, _ => by simp [numGo]
 | _ + 1, _, _, [], _, _ => by simp [numGo]
 | k + 1, i, f, c :: s, hf, hk => by
  unfold numGo
  split
  ·simp
  ·rename_i h9
   split
   ·refine num_rng k (i + 1) _ s ?_ (by omega)
    have : c.toNat % 128 * 128 ^ i ≤ 127 * 128 ^ i := Nat.mul_le_mul_right _ (by omega)
    rw [Nat.pow_succ]; omega
   ·split
    ·simp
    ·have h9x : i = 9 → c.toNat % 128 ≤ 1 := fun e => by
      have e1 : c = 1 := Classical.byContradiction fun hc1 => h9 ⟨e, hc1⟩
      rw [e1]; decide
     have hacc := acc_lt hf (by omega) (Nat.mod_lt c.toNat (show 0 < 128 by decide)) h9x
     exact unfoldN_rng (by omega) (by omega)
theorem num_i64 (s : List UInt8) : -9223372036854775808 ≤ (num s).1 ∧ (num s).1 ≤ 9223372036854775807 := num_rng 10 0 0 s (by decide) rfl
end Go.Proofs.YtgcfomhlgipllaaGreatDoor
namespace Go.Proofs.YtgcfomhlgipllaaGreatDoor
open Go Go.Sx
def rrd (s : List UInt8) (A e : Int) : Value := .agg #[.string (mkS s), .int .i64 A, .int .i64 e]
structure RNI (s : List UInt8) (A : Nat) where
 i : Nat
 f : Nat
 hi : i ≤ 10
 hs : A + i ≤ s.length
 hf : f < 128 ^ i
 hn : numGo (10 - i) i f (s.drop (A + i)) = num (s.drop A)
theorem add_acc {f i x : Nat} (hf : f < 128 ^ i) (hi : i ≤ 9) (hx : x < 128) (h9 : i = 9 → x ≤ 1) :
  IntKind.u64.wrap ((f : Int) + IntKind.u64.wrap (IntKind.u64.wrap (x : Int) * 2 ^ min (7 * (i : Int)).toNat IntKind.u64.bits)) = ((f + x * 128 ^ i : Nat) : Int) := by
 have e64 : IntKind.u64.bits = 64 := rfl
 obtain ⟨h1, h2⟩ := acc_lt hf hi hx h9
 have hm : min (7 * (i : Int)).toNat 64 = 7 * i := by omega
 have hp : (128 : Nat) ^ i = 2 ^ (7 * i) := by rw [Nat.pow_mul]
 rw [e64, hm]
 simp only [u64_wrap]
 have hx2 : (x : Int) % 18446744073709551616 = x := by omega
 have hpi : ((2 : Int) ^ (7 * i)) = ((128 ^ i : Nat) : Int) := by rw [hp]; simp
 rw [hx2, hpi, ← Int.natCast_mul]
 omega
theorem tmod128 (c : UInt8) : ((c.toNat : Int).tmod 128) = ((c.toNat % 128 : Nat) : Int) := by
 rw [Int.tmod_eq_emod_of_nonneg (by omega)]; omega
theorem rnumber_spec (s : List UInt8) (A : Nat) (hA : A ≤ s.length) (hl : s.length ≤ 1099511627776) :
  Does Tryz.prog 159 [.string (mkS s), .int .i64 (A : Int)] [] (fun v hp' => v = .tuple #[.int .i64 (num (s.drop A)).1, .int .i64 (if (num (s.drop A)).2.2 = 0 then A + (num (s.drop A)).2.1 else 0), .int .i64 (num (s.drop A)).2.2] ∧ hp' = []) := by
 refine fn_enter Tryz.func159 rfl 53 rfl fun w0 h0 => ?_
 refine SQ (RG ?_)
 refine RR [] .z (.i 6 (.int .i64 0) (.i 5 (.int .i64 0) (.i 4 (.int .i64 0) .a))) .a ?_
 refine RZ (NT (SQ (RG ?_)))
 refine RR [] .z (.i 7 (.int .u64 0) .a) .a ?_
 refine RZ (NT (SQ (SQ (RG ?_))))
 refine RR [] .z (.i 8 (.int .i64 0) .a) .a ?_
 refine RZ (NT (BK ?_))
 refine wpc_loop (X := RNI s A) (fun x => St.mk [(8, .int .i64 (x.i : Int)), (7, .int .u64 (x.f : Int)), (0, .string (mkS s)), (1, .int .i64 (A : Int)), (4, .int .i64 0), (5, .int .i64 0), (6, .int .i64 0)] []) (fun x => 10 - x.i) ⟨0, 0, by omega, by omega, by decide, rfl⟩ (ent_fr (by kernel_rfl)) ?_
 rintro ⟨i, f, hi, hs, hf, hn⟩
 dsimp only
 refine SQ (SQ (RG ?_))
 refine RR [] .z (.i 11 (.bool (decide ((↑i : Int) < (10 : Int)))) .a) .a ?_
 refine RZ (NT ?_)
 refine wpc_if (((↑i : Int) < 10)) (by kernel_rfl) (fun hlt => ?_) (fun hlt => ?_)
 ·refine SK (NT (SQ (BK (SQ (SQ (RG ?_))))))
  refine RV true [] .z (.i 19 (.bool (decide ((↑A : Int) + (↑i : Int) ≥ (↑s.length : Int)))) (.d (.k .a))) .a ([inI64 ((↑A : Int) + (↑i : Int))]) ⟨by unfold inI64; omega, trivial⟩ ?_
  refine RZ (NT ?_)
  refine wpc_if (((↑A : Int) + (↑i : Int) ≥ (↑s.length : Int))) (by kernel_rfl) (fun hend => ?_) (fun hend => ?_)
  ·refine SQ (RG ?_)
   refine RR [] .z (.i 6 (.int .i64 3) (.i 5 (.int .i64 0) (.i 4 (.int .i64 0) (.d (.k (.k (.k (.k .z)))))))) .a ?_
   refine RZ (NT (RE (TR (BR (TR (TR (BR (TR ?_))))))))
   refine NE [] .a .a [] (.tuple #[.int .i64 0, .int .i64 0, .int .i64 3]) ?_
   refine ⟨?_, rfl⟩
   rw [← hn, List.drop_eq_nil_of_le (by omega), show 10 - i = (9 - i) + 1 by omega]
   rfl
  ·have hlen : A + i < s.length := by omega
   obtain ⟨c, hc⟩ : ∃ c, c = s[A + i] := ⟨_, rfl⟩
   have hbt : bt (mkS s) ((A : Int) + (i : Int)) = (c.toNat : Int) := by rw [hc, ← Int.natCast_add]; exact wbt_at hlen
   have hd : s.drop (A + i) = c :: s.drop (A + i + 1) := by rw [hc]; exact List.drop_eq_getElem_cons hlen
   rw [hd, show 10 - i = (9 - i) + 1 by omega] at hn
   unfold numGo at hn
   by_cases h9 : i = 9 ∧ c ≠ 1
   ·rw [if_pos h9] at hn
    have hne : (!((c.toNat : Int) == 1)) = true := by
     have : c.toNat ≠ 1 := fun e => h9.2 (UInt8.toNat_inj.1 e)
     simp; omega
    obtain ⟨rfl, _⟩ := h9
    refine SK (NT (SQ (RG ?_)))
    refine RV true [] .z (.i 9 (.int .u8 (bt (mkS s) ((↑A : Int) + 9))) (.i 8 (.int .i64 9) (.d (.d (.k .a))))) .a ([inI64 ((↑A : Int) + (9 : Int)), (0 : Int) ≤ (↑A : Int) + (9 : Int) ∧ (↑A : Int) + (9 : Int) < (↑s.length : Int)]) ⟨by unfold inI64; omega, by omega, trivial⟩ ?_
    refine RZ (NT (SQ (SQ (RG ?_))))
    refine RR [] .z (.i 30 (.bool (bt (mkS s) ((↑A : Int) + (9 : Int)) != (1 : Int))) .a) .a ?_
    refine RZ (NT ?_)
    refine wpc_ent (ent_set 30 (.bool (bt (mkS s) ((↑A : Int) + 9) != 1)) (.bool true) (by kernel_rfl) (congrArg _ (by show (bt (mkS s) ((A : Int) + ((9 : Nat) : Int)) != 1) = true; rw [hbt]; exact hne))) ?_
    refine CT (SQ (RG ?_))
    refine RR [] .z (.i 6 (.int .i64 4) (.i 5 (.int .i64 0) (.i 4 (.int .i64 0) (.d (.d (.k (.k (.k (.k (.k .z)))))))))) .a ?_
    refine RZ (NT (RE (TR (BR (TR (TR (BR (TR ?_))))))))
    refine NE [] .a .a [] (.tuple #[.int .i64 0, .int .i64 0, .int .i64 4]) ?_
    exact ⟨by rw [← hn]; rfl, rfl⟩
   ·rw [if_neg h9] at hn
    refine SK (NT (SQ (RG ?_)))
    refine RV true [] .z (.i 9 (.int .u8 (bt (mkS s) ((↑A : Int) + (↑i : Int)))) (.d (.k .a))) .a ([inI64 ((↑A : Int) + (↑i : Int)), (0 : Int) ≤ (↑A : Int) + (↑i : Int) ∧ (↑A : Int) + (↑i : Int) < (↑s.length : Int)]) ⟨by unfold inI64; omega, by omega, trivial⟩ ?_
    refine RZ (NT (SQ (SQ (RG ?_))))
    refine RR [] (.d (.d (.d .a))) (.i 27 (.bool ((↑i : Int) == (9 : Int))) .a) .a ?_
    refine wpr_join ⟨[(30, .bool false), (9, (.int .u8 (bt (mkS s) ((↑A : Int) + (↑i : Int))))), (7, (.int .u64 (↑f : Int))), (8, (.int .i64 (↑i : Int))), (0, (.string (mkS s))), (1, (.int .i64 (↑A : Int))), (4, (.int .i64 0)), (5, (.int .i64 0)), (6, (.int .i64 0))], []⟩ (fun Q1 hQ1 hk => ?_) ?_
    ·refine wpr_case 27 (((↑i : Int) == 9)) (by kernel_rfl) (fun h => ?_) (fun h => ?_)
     ·refine RR [] .z (.i 30 (.bool (bt (mkS s) ((↑A : Int) + (↑i : Int)) != (1 : Int))) (.d (.d (.k .a)))) .a ?_
      refine RZ ?_
      refine nx_ent (ent_set 30 (.bool (bt (mkS s) ((↑A : Int) + (↑i : Int)) != 1)) (.bool false) (by kernel_rfl) (congrArg _ (by
                    rw [hbt]
                    have e9 : i = 9 := by have := eq_of_beq h; omega
                    have e1 : c = 1 := Classical.byContradiction fun hc1 => h9 ⟨e9, hc1⟩
                    rw [e1]; rfl))) ?_
      exact nx_ent (ent_fr (by kernel_rfl)) hk
     ·refine RR [] .z (.i 30 (.bool false) (.d (.d (.k .a)))) .a ?_
      refine RZ ?_
      exact nx_ent (ent_fr (by kernel_rfl)) hk
    have h9x : i = 9 → c.toNat % 128 ≤ 1 := fun e => by
     have e1 : c = 1 := Classical.byContradiction fun hc1 => h9 ⟨e, hc1⟩
     rw [e1]; decide
    have hacc := acc_lt hf (by omega) (Nat.mod_lt c.toNat (show 0 < 128 by decide)) h9x
    rw [hbt]
    refine NT (CF (SK (NT (SQ (RG ?_)))))
    refine RV true [] .z (.i 7 (.int .u64 (IntKind.wrap IntKind.u64 ((↑f : Int) + IntKind.wrap IntKind.u64 (IntKind.wrap IntKind.u64 (Int.tmod (↑(UInt8.toNat c) : Int) 128) * 2 ^ min (Int.toNat (7 * (↑i : Int))) (IntKind.bits IntKind.u64))))) (.d (.k (.d (.k .a))))) .a [inI64 ((7 : Int) * (↑i : Int)), (0 : Int) ≤ (7 : Int) * (↑i : Int)] ⟨by unfold inI64; omega, by omega, trivial⟩ ?_
    refine RZ (NT (SQ (RG ?_)))
    refine RR [] .z (.i 40 (.bool (decide ((↑c.toNat : Int) < (128 : Int)))) .a) .a ?_
    refine RZ (NT ?_)
    refine wpc_ent (ent_set 7 (.int .u64 (IntKind.wrap IntKind.u64 ((↑f : Int) + IntKind.wrap IntKind.u64 (IntKind.wrap IntKind.u64 (Int.tmod (↑(UInt8.toNat c) : Int) 128) * 2 ^ min (Int.toNat (7 * (↑i : Int))) (IntKind.bits IntKind.u64))))) (Value.int .u64 ((f + c.toNat % 128 * 128 ^ i : Nat) : Int)) (by kernel_rfl) (congrArg _ (by rw [tmod128]; exact add_acc hf (by omega) (Nat.mod_lt _ (by decide)) h9x))) ?_
    refine wpc_if (((↑c.toNat : Int) < 128)) (by kernel_rfl) (fun hsm => ?_) (fun hsm => ?_)
    ·rw [if_neg (by omega)] at hn
     refine SQ (SQ (RG ?_))
     refine RR [] (.d (.d (.d .a))) (.i 43 (.bool ((↑c.toNat : Int) == (0 : Int))) (.k (.d (.d (.d (.k .a)))))) .a ?_
     refine wpr_case 43 (((↑c.toNat : Int) == 0)) (by kernel_rfl) (fun hz => ?_) (fun hz => ?_)
     ·have hc0 : c = 0 := by
       have := eq_of_beq hz
       exact UInt8.toNat_inj.1 (by show c.toNat = 0; omega)
      refine RR [] .z (.i 46 (.bool (decide ((↑i : Int) > (0 : Int)))) (.d (.d (.k .a)))) .a ?_
      refine RZ (NT ?_)
      refine wpc_if (((↑i : Int) > 0)) (by kernel_rfl) (fun hi0 => ?_) (fun hi0 => ?_)
      ·rw [if_pos ⟨hc0, by omega⟩] at hn
       refine SQ (RG ?_)
       refine RR [] .z (.i 6 (.int .i64 4) (.i 5 (.int .i64 0) (.i 4 (.int .i64 0) (.d (.k (.k (.k (.k .z)))))))) .a ?_
       refine RZ (NT (RE (TR (BR (TR (TR (BR (TR ?_))))))))
       refine NE [] .a .a [] (.tuple #[.int .i64 0, .int .i64 0, .int .i64 4]) ?_
       exact ⟨by rw [← hn]; rfl, rfl⟩
      ·rw [if_neg (fun h => hi0 (by omega))] at hn
       refine SK (NT (SQ (RG ?_)))
       refine RR [] (.d .a) (.i 47 (.int .u64 (↑(f + c.toNat % 128 * 128 ^ i) : Int)) (.d (.k .a))) .a ?_
       refine RCA (dst := some 48) (runfold_spec (f + c.toNat % 128 * 128 ^ i : Nat) (by omega) (by omega)) ?_
       rintro v hp' ⟨rfl, rfl⟩
       refine RV true [] .z (.i 6 (.int .i64 0) (.i 5 (.int .i64 ((↑A : Int) + (↑i : Int) + 1)) (.i 4 (.int .i64 (unfoldN (↑(f + c.toNat % 128 * 128 ^ i) : Int))) (.d (.d (.k (.k (.k (.k .z))))))))) .a ([inI64 ((↑A : Int) + (↑i : Int)), inI64 ((↑A : Int) + (↑i : Int) + (1 : Int))]) ⟨by unfold inI64; omega, by unfold inI64; omega, trivial⟩ ?_
       refine RZ (NT (RE (BR (TR (TR (BR (TR ?_)))))))
       refine NE [] .a .a [] (.tuple #[.int .i64 (unfoldN (↑(f + c.toNat % 128 * 128 ^ i) : Int)), .int .i64 ((↑A : Int) + (↑i : Int) + 1), .int .i64 0]) ?_
       exact ⟨by rw [← hn, if_pos rfl, show (A : Int) + i + 1 = A + (i + 1) by omega], rfl⟩
     ·have hc0 : c ≠ 0 := fun e => by
       rw [e] at hz
       simp at hz
      rw [if_neg (fun h => hc0 h.1)] at hn
      refine RR [] .z (.i 46 (.bool false) (.d (.d (.k .a)))) .a ?_
      refine RZ (NT (CF (SK (NT (SQ (RG ?_))))))
      refine RR [] (.d .a) (.i 47 (.int .u64 (↑(f + c.toNat % 128 * 128 ^ i) : Int)) (.d (.k .a))) .a ?_
      refine RCA (dst := some 48) (runfold_spec (f + c.toNat % 128 * 128 ^ i : Nat) (by omega) (by omega)) ?_
      rintro v hp' ⟨rfl, rfl⟩
      refine RV true [] .z (.i 6 (.int .i64 0) (.i 5 (.int .i64 ((↑A : Int) + (↑i : Int) + 1)) (.i 4 (.int .i64 (unfoldN (↑(f + c.toNat % 128 * 128 ^ i) : Int))) (.d (.d (.k (.k (.k (.k .z))))))))) .a ([inI64 ((↑A : Int) + (↑i : Int)), inI64 ((↑A : Int) + (↑i : Int) + (1 : Int))]) ⟨by unfold inI64; omega, by unfold inI64; omega, trivial⟩ ?_
      refine RZ (NT (RE (BR (TR (TR (BR (TR ?_)))))))
      refine NE [] .a .a [] (.tuple #[.int .i64 (unfoldN (↑(f + c.toNat % 128 * 128 ^ i) : Int)), .int .i64 ((↑A : Int) + (↑i : Int) + 1), .int .i64 0]) ?_
      exact ⟨by rw [← hn, if_pos rfl, show (A : Int) + i + 1 = A + (i + 1) by omega], rfl⟩
    ·rw [if_pos (by omega)] at hn
     refine SK (BN (NT (RG ?_)))
     refine RV true [] .z (.i 8 (.int .i64 ((↑i : Int) + 1)) (.k (.d (.d (.d (.d (.k .a))))))) .a ([inI64 ((↑i : Int) + (1 : Int))]) ⟨by unfold inI64; omega, trivial⟩ ?_
     refine RZ ?_
     exact fun a' w hS => ⟨⟨i + 1, f + c.toNat % 128 * 128 ^ i, by omega, by omega, by
      have : c.toNat % 128 * 128 ^ i ≤ 127 * 128 ^ i := Nat.mul_le_mul_right _ (by omega)
      rw [Nat.pow_succ]; omega, by rw [show 10 - (i + 1) = 9 - i by omega, ← Nat.add_assoc]; exact hn⟩, by dsimp only; omega, ent_fr (by kernel_rfl) _ _ hS⟩
 ·refine EX (TE (TE (BH (NT (SQ (RG ?_))))))
  refine RR [] .z (.i 6 (.int .i64 4) (.i 5 (.int .i64 0) (.d (.d (.d (.d (.d (.k .z)))))))) .a ?_
  refine RZ (NT (RE ?_))
  refine NE [] .a .a [] (.tuple #[.int .i64 0, .int .i64 0, .int .i64 4]) ?_
  refine ⟨?_, rfl⟩
  rw [show 10 - i = 0 by omega] at hn
  rw [← hn]; rfl
theorem rwrong_spec (s : List UInt8) (A e x : Int) : Does Tryz.prog 160 [rrd s A e, .int .i64 x] [] (fun v hp' => v = rrd s A x ∧ hp' = []) := by
 unfold rrd
 refine fn_enter Tryz.func160 rfl 8 rfl fun w0 h0 => ?_
 refine SQ (RG ?_)
 refine RP [] (.d .a) 2 (.d (.k .a)) .a 134 [.string (mkS s), .int .i64 A, .int .i64 e] fun g1 => ?_
 refine RP [] .z 4 .a .a 134 [.string ⟨#[]⟩, .int .i64 0, .int .i64 0] fun g2 => ?_
 refine RZ (NT (SQ (RG ?_)))
 refine RR [0] .z (.k (.k .z)) (.u (.k (.k (.i (.int .i64 x) .z))) .a) ?_
 refine RZ (NT (SQ (RG ?_)))
 refine RR [0, 0, 0, 1, 1, 1] .z (.k .z) (.k (.u (.i (.string (mkS s)) (.i (.int .i64 A) (.i (.int .i64 x) .z))) .a)) ?_
 refine RZ (NT (RE ?_))
 refine NE [] .z .a [1, 1, 1] (.agg #[.string (mkS s), .int .i64 A, .int .i64 x]) ?_
 exact ⟨rfl, rfl⟩
theorem rEnd_spec (s : List UInt8) (A e : Int) : Does Tryz.prog 72 [rrd s A e] [] (fun v hp' => v = .int .i64 (endE s A e) ∧ hp' = []) := by
 unfold rrd endE
 refine fn_enter Tryz.func72 rfl 16 rfl fun w0 h0 => ?_
 refine SQ (RG ?_)
 refine RP [] (.d .a) 1 .z .a 134 [.string (mkS s), .int .i64 A, .int .i64 e] fun g1 => ?_
 refine RR [] .z (.i 2 (.int .i64 0) .a) .a ?_
 refine RZ (NT (SQ (SQ (RG ?_))))
 refine RR [0] (.d (.d (.d (.d .a)))) (.i 6 (.bool (e == (0 : Int))) .a) .a ?_
 refine wpr_case 6 ((e == 0)) (by kernel_rfl) (fun h => ?_) (fun h => ?_)
 ·have he : e = 0 := eq_of_beq h
  subst he
  rw [if_neg (by simp)]
  refine RR [0, 0] .z (.i 13 (.bool (decide (A < (↑s.length : Int)))) (.d (.d (.k .a)))) .a ?_
  refine RZ (NT ?_)
  refine wpc_if ((A < (↑s.length : Int))) (by kernel_rfl) (fun hlt => ?_) (fun hlt => ?_)
  ·rw [if_pos hlt]
   refine SQ (RG ?_)
   refine RR [] .z (.i 2 (.int .i64 5) (.d (.d (.k .a)))) .a ?_
   refine RZ (NT (RE (TR ?_)))
   refine NE [] .z .a [] (.int .i64 5) ?_
   exact ⟨rfl, rfl⟩
  ·rw [if_neg hlt]
   refine SK (NT (SQ (RG ?_)))
   refine RR [0] .z (.d (.k .z)) .a ?_
   refine RZ (NT (RE ?_))
   refine NE [] .z .a [] (.int .i64 0) ?_
   exact ⟨rfl, rfl⟩
 ·have he : e ≠ 0 := by simpa using h
  rw [if_pos he]
  refine RR [] .z (.i 13 (.bool false) (.d (.d (.k .a)))) .a ?_
  refine RZ (NT (CF (SK (NT (SQ (RG ?_))))))
  refine RR [0] .z (.i 2 (.int .i64 e) .z) .a ?_
  refine RZ (NT (RE ?_))
  refine NE [] .z .a [] (.int .i64 e) ?_
  exact ⟨rfl, rfl⟩
theorem rInt_spec (s : List UInt8) (A : Nat) (e : Int) (hA : A ≤ s.length) (hl : s.length ≤ 1099511627776) :
  Does Tryz.prog 122 [rrd s A e] [] (fun v hp' => v = .tuple #[rrd s (rd 0 A e (num (s.drop A))).2.1 (rd 0 A e (num (s.drop A))).2.2, .int .i64 (rd 0 A e (num (s.drop A))).1] ∧ hp' = []) := by
 have hok := num_ok (s.drop A)
 unfold rrd rd
 refine fn_enter Tryz.func122 rfl 29 rfl fun w0 h0 => ?_
 refine SQ (RG ?_)
 refine RP [] (.d .a) 1 .z .a 134 [.string (mkS s), .int .i64 (↑A : Int), .int .i64 e] fun g1 => ?_
 refine RP [] (.d .a) 2 .a .a 134 [.string ⟨#[]⟩, .int .i64 0, .int .i64 0] fun g2 => ?_
 refine RR [] .z (.i 3 (.int .i64 0) .a) .a ?_
 refine RZ (NT (SQ (SQ (RG ?_))))
 refine RR [0] .z (.i 9 (.bool (e != (0 : Int))) .a) .a ?_
 refine RZ (NT ?_)
 refine wpc_cond ((e != 0)) (by kernel_rfl) (fun he => ?_) (fun he => ?_)
 ·have he' : e ≠ 0 := by simpa using he
  rw [if_pos he']
  refine SQ (RG ?_)
  refine RR [0, 0, 0, 1, 1, 1] .z (.d (.k .a)) (.k (.u (.i (.string (mkS s)) (.i (.int .i64 (↑A : Int)) (.i (.int .i64 e) .z))) .a)) ?_
  refine RZ (NT (RE (TR ?_)))
  refine NE [] .z .a [1, 1, 1] (.tuple #[.agg #[.string (mkS s), .int .i64 (↑A : Int), .int .i64 e], .int .i64 0]) ?_
  exact ⟨rfl, rfl⟩
 ·have he' : ¬ e ≠ 0 := by simpa using he
  obtain rfl : e = 0 := Classical.not_not.1 he'
  rw [if_neg he']
  refine SK (NT (SQ (RG ?_)))
  refine RR [0, 0] (.d (.d (.d (.d .a)))) (.i 15 (.int .i64 (↑A : Int)) (.i 13 (.string (mkS s)) (.d (.k .a)))) .a ?_
  refine RC (dst := some 16) [] .a (rnumber_spec s A hA hl) ?_
  rintro v hp' ⟨rfl, rfl⟩
  obtain ⟨x, u, y, hx⟩ : ∃ x u y, (num (s.drop A)) = (x, u, y) := ⟨_, _, _, rfl⟩
  rw [hx] at hok ⊢
  dsimp only at hok ⊢
  refine RR [] .z (.i 6 (.int .i64 y) (.i 5 (.int .i64 (if y = 0 then (↑A : Int) + u else 0)) (.i 4 (.int .i64 x) (.d (.d (.d (.k .a))))))) .a ?_
  refine RZ (NT (SQ (SQ (RG ?_))))
  refine RR [] .z (.i 21 (.bool (y != (0 : Int))) .a) .a ?_
  refine RZ (NT ?_)
  refine wpc_cond ((y != 0)) (by kernel_rfl) (fun hy => ?_) (fun hy => ?_)
  ·have hy' : y ≠ 0 := by simpa using hy
   rw [if_pos hy']
   refine SQ (RG ?_)
   refine RR [0, 0, 0] (.d (.d .a)) (.i 23 (.int .i64 y) (.i 22 (.agg #[.string (mkS s), .int .i64 (↑A : Int), .int .i64 0]) (.d (.d (.k .a))))) .a ?_
   refine RC (dst := some 24) [] .a (rwrong_spec s A 0 y) ?_
   rintro v hp' ⟨rfl, rfl⟩
   unfold rrd
   refine RR [1, 1, 1] .z (.i 3 (.int .i64 0) (.d (.d (.d (.k (.k (.d (.k .a)))))))) (.k (.u (.i (.string (mkS s)) (.i (.int .i64 (↑A : Int)) (.i (.int .i64 y) .z))) .a)) ?_
   refine RZ (NT (RE (TR ?_)))
   refine NE [] .z .a [1, 1, 1] (.tuple #[.agg #[.string (mkS s), .int .i64 (↑A : Int), .int .i64 y], .int .i64 0]) ?_
   exact ⟨rfl, rfl⟩
  ·have hy' : ¬ y ≠ 0 := by simpa using hy
   obtain rfl : y = 0 := Classical.not_not.1 hy'
   rw [if_neg hy', if_pos rfl]
   have hAu : ((A + u.toNat : Nat) : Int) = A + u := by omega
   dsimp only
   rw [hAu]
   refine SK (NT (SQ (RG ?_)))
   refine RR [0] .z (.d (.d (.d (.k .a)))) (.u (.k (.i (.int .i64 ((↑A : Int) + u)) (.d (.k .a)))) .a) ?_
   refine RZ (NT (SQ (RG ?_)))
   refine RR [0, 0, 0, 1, 1, 1] .z (.i 3 (.int .i64 x) (.d (.d (.k .z)))) (.k (.u (.i (.string (mkS s)) (.i (.int .i64 ((↑A : Int) + u)) (.d (.d (.k .a))))) .a)) ?_
   refine RZ (NT (RE ?_))
   refine NE [] .z .a [1, 1, 1] (.tuple #[.agg #[.string (mkS s), .int .i64 ((↑A : Int) + u), .int .i64 0], .int .i64 x]) ?_
   exact ⟨rfl, rfl⟩
theorem rBool_spec (s : List UInt8) (A : Nat) (e : Int) (hA : A ≤ s.length) (hl : s.length ≤ 1099511627776) :
  Does Tryz.prog 161 [rrd s A e] [] (fun v hp' => v = .tuple #[rrd s (rd false A e (bol (s.drop A))).2.1 (rd false A e (bol (s.drop A))).2.2, .bool (rd false A e (bol (s.drop A))).1] ∧ hp' = []) := by
 have hok := bol_ok (s.drop A)
 unfold rrd rd
 refine fn_enter Tryz.func161 rfl 33 rfl fun w0 h0 => ?_
 refine SQ (RG ?_)
 refine RP [] (.d .a) 1 .z .a 134 [.string (mkS s), .int .i64 (↑A : Int), .int .i64 e] fun g1 => ?_
 refine RP [] (.d .a) 2 .a .a 134 [.string ⟨#[]⟩, .int .i64 0, .int .i64 0] fun g2 => ?_
 refine RR [] .z (.i 3 (.bool false) .a) .a ?_
 refine RZ (NT (SQ (SQ (RG ?_))))
 refine RR [0] .z (.i 7 (.bool (e != (0 : Int))) .a) .a ?_
 refine RZ (NT ?_)
 refine wpc_cond ((e != 0)) (by kernel_rfl) (fun he => ?_) (fun he => ?_)
 ·have he' : e ≠ 0 := by simpa using he
  rw [if_pos he']
  refine SQ (RG ?_)
  refine RR [0, 0, 0, 1, 1, 1] .z (.d (.k .a)) (.k (.u (.i (.string (mkS s)) (.i (.int .i64 (↑A : Int)) (.i (.int .i64 e) .z))) .a)) ?_
  refine RZ (NT (RE (TR ?_)))
  refine NE [] .z .a [1, 1, 1] (.tuple #[.agg #[.string (mkS s), .int .i64 (↑A : Int), .int .i64 e], .bool false]) ?_
  exact ⟨rfl, rfl⟩
 ·have he' : ¬ e ≠ 0 := by simpa using he
  obtain rfl : e = 0 := Classical.not_not.1 he'
  rw [if_neg he']
  refine SK (NT (SQ (SQ (RG ?_))))
  refine RR [0, 0] .z (.i 14 (.bool (decide ((↑A : Int) ≥ (↑s.length : Int)))) (.d (.k .a))) .a ?_
  refine RZ (NT ?_)
  refine wpc_if (((↑A : Int) ≥ (↑s.length : Int))) (by kernel_rfl) (fun hend => ?_) (fun hend => ?_)
  ·have hd : s.drop A = [] := List.drop_eq_nil_of_le (by omega)
   rw [hd]
   refine SQ (RG ?_)
   refine RR [0, 0, 0] (.d .a) (.i 15 (.agg #[.string (mkS s), .int .i64 (↑A : Int), .int .i64 0]) (.d (.k .a))) .a ?_
   refine RC (dst := some 16) [] .a (rwrong_spec s A 0 3) ?_
   rintro v hp' ⟨rfl, rfl⟩
   unfold rrd
   refine RR [1, 1, 1] .z (.d (.d (.k .a))) (.k (.u (.i (.string (mkS s)) (.i (.int .i64 (↑A : Int)) (.i (.int .i64 3) .z))) .a)) ?_
   refine RZ (NT (RE (TR ?_)))
   refine NE [] .z .a [1, 1, 1] (.tuple #[.agg #[.string (mkS s), .int .i64 (↑A : Int), .int .i64 3], .bool false]) ?_
   exact ⟨rfl, rfl⟩
  ·have hlen : A < s.length := by omega
   obtain ⟨c, hc⟩ : ∃ c, c = s[A] := ⟨_, rfl⟩
   have hbt : bt (mkS s) (A : Int) = (c.toNat : Int) := by rw [hc]; exact wbt_at hlen
   have hd : s.drop A = c :: s.drop (A + 1) := by rw [hc]; exact List.drop_eq_getElem_cons hlen
   rw [hd]
   refine SK (NT (SQ (RG ?_)))
   refine RV true [0, 0] .z (.i 4 (.int .u8 (bt (mkS s) (↑A : Int))) (.d (.k .a))) .a [(0 : Int) ≤ (↑A : Int) ∧ (↑A : Int) < (↑s.length : Int)] ⟨by omega, trivial⟩ ?_
   refine RZ (NT (SQ (SQ (RG ?_))))
   refine RR [] .z (.i 23 (.bool (decide (bt (mkS s) (↑A : Int) > (1 : Int)))) .a) .a ?_
   refine RZ (NT ?_)
   rw [hbt]
   refine wpc_if (((↑c.toNat : Int) > 1)) (by kernel_rfl) (fun hbig => ?_) (fun hbig => ?_)
   ·have hx : bol (c :: s.drop (A + 1)) = (false, 0, 4) := by unfold bol; dsimp only; rw [if_pos (by omega)]
    rw [hx]
    refine SQ (RG ?_)
    refine RR [0, 0, 0] (.d .a) (.i 24 (.agg #[.string (mkS s), .int .i64 (↑A : Int), .int .i64 0]) (.d (.k .a))) .a ?_
    refine RC (dst := some 25) [] .a (rwrong_spec s A 0 4) ?_
    rintro v hp' ⟨rfl, rfl⟩
    unfold rrd
    refine RR [1, 1, 1] .z (.i 3 (.bool false) (.d (.d (.k (.d (.k .a)))))) (.k (.u (.i (.string (mkS s)) (.i (.int .i64 (↑A : Int)) (.i (.int .i64 4) .z))) .a)) ?_
    refine RZ (NT (RE (TR ?_)))
    refine NE [] .z .a [1, 1, 1] (.tuple #[.agg #[.string (mkS s), .int .i64 (↑A : Int), .int .i64 4], .bool false]) ?_
    exact ⟨rfl, rfl⟩
   ·have hx : bol (c :: s.drop (A + 1)) = (c.toNat == 1, 1, 0) := by unfold bol; dsimp only; rw [if_neg (by omega)]
    rw [hx]
    refine SK (NT (SQ (RG ?_)))
    refine RV true [0, 0] .z (.d (.k .a)) (.u (.k (.i (.int .i64 ((↑A : Int) + 1)) (.d (.k .a)))) .a) ([inI64 ((↑A : Int) + (1 : Int))]) ⟨by unfold inI64; omega, trivial⟩ ?_
    refine RZ (NT (SQ (RG ?_)))
    refine RR [0, 0, 0, 1, 1, 1] .z (.i 3 (.bool ((↑c.toNat : Int) == (1 : Int))) (.d (.d (.k .z)))) (.k (.u (.i (.string (mkS s)) (.i (.int .i64 ((↑A : Int) + 1)) (.d (.d (.k .a))))) .a)) ?_
    refine RZ (NT (RE ?_))
    refine NE [] .z .a [1, 1, 1] (.tuple #[.agg #[.string (mkS s), .int .i64 ((↑A : Int) + 1), .int .i64 0], .bool ((↑c.toNat : Int) == 1)]) ?_
    have e1 : ((c.toNat : Int) == 1) = (c.toNat == 1) := by
     have := c.toNat_lt
     by_cases h : c.toNat = 1
     ·rw [h]; rfl
     ·rw [beq_eq_false_iff_ne.2 h, beq_eq_false_iff_ne.2 (by omega)]
    exact ⟨by rw [e1]; rfl, rfl⟩
theorem cnt_eq {s : List UInt8} (most : Int) {x u y : Int} (h : num s = (x, u, y)) : cnt s most = if y ≠ 0 then (0, 0, y) else if x < 0 then (0, 0, 4) else if x > max 0 most then (0, 0, 5) else (x, u, 0) := by unfold cnt; rw [h]
theorem rCount_spec (s : List UInt8) (A : Nat) (e most : Int) (hA : A ≤ s.length) (hl : s.length ≤ 1099511627776) :
  Does Tryz.prog 119 [rrd s A e, .int .i64 most] [] (fun v hp' => v = .tuple #[rrd s (rd 0 A e (cnt (s.drop A) most)).2.1 (rd 0 A e (cnt (s.drop A) most)).2.2, .int .i64 (rd 0 A e (cnt (s.drop A) most)).1] ∧ hp' = []) := by
 have hok := num_ok (s.drop A)
 unfold rrd rd
 refine fn_enter Tryz.func119 rfl 41 rfl fun w0 h0 => ?_
 refine SQ (RG ?_)
 refine RP [] (.d .a) 2 (.d (.k .a)) .a 134 [.string (mkS s), .int .i64 (↑A : Int), .int .i64 e] fun g1 => ?_
 refine RP [] (.d .a) 4 .a .a 134 [.string ⟨#[]⟩, .int .i64 0, .int .i64 0] fun g2 => ?_
 refine RR [] .z (.i 5 (.int .i64 0) .a) .a ?_
 refine RZ (NT (SQ (SQ (RG ?_))))
 refine RR [0] .z (.i 11 (.bool (e != (0 : Int))) .a) .a ?_
 refine RZ (NT ?_)
 refine wpc_cond ((e != 0)) (by kernel_rfl) (fun he => ?_) (fun he => ?_)
 ·have he' : e ≠ 0 := by simpa using he
  rw [if_pos he']
  refine SQ (RG ?_)
  refine RR [0, 0, 0, 1, 1, 1] .z (.d (.k .a)) (.k (.u (.i (.string (mkS s)) (.i (.int .i64 (↑A : Int)) (.i (.int .i64 e) .z))) .a)) ?_
  refine RZ (NT (RE (TR ?_)))
  refine NE [] .z .a [1, 1, 1] (.tuple #[.agg #[.string (mkS s), .int .i64 (↑A : Int), .int .i64 e], .int .i64 0]) ?_
  exact ⟨rfl, rfl⟩
 ·have he' : ¬ e ≠ 0 := by simpa using he
  obtain rfl : e = 0 := Classical.not_not.1 he'
  rw [if_neg he']
  refine SK (NT (SQ (RG ?_)))
  refine RR [0, 0] (.d (.d (.d (.d .a)))) (.i 17 (.int .i64 (↑A : Int)) (.i 15 (.string (mkS s)) (.d (.k .a)))) .a ?_
  refine RC (dst := some 18) [] .a (rnumber_spec s A hA hl) ?_
  rintro v hp' ⟨rfl, rfl⟩
  obtain ⟨x, u, y, hx⟩ : ∃ x u y, (num (s.drop A)) = (x, u, y) := ⟨_, _, _, rfl⟩
  have hC := cnt_eq most hx
  rw [hx] at hok ⊢
  dsimp only at hok ⊢
  refine RR [] .z (.i 8 (.int .i64 y) (.i 7 (.int .i64 (if y = 0 then (↑A : Int) + u else 0)) (.i 6 (.int .i64 x) (.d (.d (.d (.k .a))))))) .a ?_
  refine RZ (NT (SQ (SQ (RG ?_))))
  refine RR [] .z (.i 23 (.bool (y != (0 : Int))) .a) .a ?_
  refine RZ (NT ?_)
  refine wpc_cond ((y != 0)) (by kernel_rfl) (fun hy => ?_) (fun hy => ?_)
  ·have hy' : y ≠ 0 := by simpa using hy
   rw [if_pos hy'] at hC
   rw [hC, if_pos hy']
   refine SQ (RG ?_)
   refine RR [0, 0, 0] (.d (.d .a)) (.i 25 (.int .i64 y) (.i 24 (.agg #[.string (mkS s), .int .i64 (↑A : Int), .int .i64 0]) (.d (.d (.k .a))))) .a ?_
   refine RC (dst := some 26) [] .a (rwrong_spec s A 0 y) ?_
   rintro v hp' ⟨rfl, rfl⟩
   unfold rrd
   refine RR [1, 1, 1] .z (.i 5 (.int .i64 0) (.d (.d (.d (.k (.k (.d (.k .a)))))))) (.k (.u (.i (.string (mkS s)) (.i (.int .i64 (↑A : Int)) (.i (.int .i64 y) .z))) .a)) ?_
   refine RZ (NT (RE (TR ?_)))
   refine NE [] .z .a [1, 1, 1] (.tuple #[.agg #[.string (mkS s), .int .i64 (↑A : Int), .int .i64 y], .int .i64 0]) ?_
   exact ⟨rfl, rfl⟩
  ·have hy' : ¬ y ≠ 0 := by simpa using hy
   obtain rfl : y = 0 := Classical.not_not.1 hy'
   rw [if_neg hy'] at hC
   rw [if_pos rfl]
   refine SK (NT (SQ (SQ (RG ?_))))
   refine RR [] .z (.i 28 (.bool (decide (x < (0 : Int)))) (.d (.d (.k .a)))) .a ?_
   refine RZ (NT ?_)
   refine wpc_if ((x < 0)) (by kernel_rfl) (fun h2 => ?_) (fun h2 => ?_)
   ·rw [if_pos h2] at hC
    rw [hC]
    dsimp only
    rw [if_pos (show (4 : Int) ≠ 0 by decide)]
    refine SQ (RG ?_)
    refine RR [0, 0, 0] (.d .a) (.i 29 (.agg #[.string (mkS s), .int .i64 (↑A : Int), .int .i64 0]) (.d (.k .a))) .a ?_
    refine RC (dst := some 30) [] .a (rwrong_spec s A 0 4) ?_
    rintro v hp' ⟨rfl, rfl⟩
    unfold rrd
    refine RR [1, 1, 1] .z (.i 5 (.int .i64 0) (.d (.d (.k (.k (.d (.k .a))))))) (.k (.u (.i (.string (mkS s)) (.i (.int .i64 (↑A : Int)) (.i (.int .i64 4) .z))) .a)) ?_
    refine RZ (NT (RE (TR ?_)))
    refine NE [] .z .a [1, 1, 1] (.tuple #[.agg #[.string (mkS s), .int .i64 (↑A : Int), .int .i64 4], .int .i64 0]) ?_
    exact ⟨rfl, rfl⟩
   ·rw [if_neg h2] at hC
    refine SK (NT (SQ (SQ (RG ?_))))
    refine RR [] .z (.i 34 (.bool (decide (x > if most > (0 : Int) then most else (0 : Int)))) (.d (.k (.k (.k (.k (.k .z))))))) .a ?_
    refine RZ (NT ?_)
    have hmx : (if most > 0 then most else 0) = max 0 most := by split <;> omega
    refine wpc_if ((x > if most > 0 then most else 0)) (by kernel_rfl) (fun h3 => ?_) (fun h3 => ?_)
    ·rw [if_pos (show x > max 0 most by rw [← hmx]; exact h3)] at hC
     rw [hC]
     dsimp only
     rw [if_pos (show (5 : Int) ≠ 0 by decide)]
     refine SQ (RG ?_)
     refine RR [0, 0, 0] (.d .a) (.i 35 (.agg #[.string (mkS s), .int .i64 (↑A : Int), .int .i64 0]) (.d (.k .a))) .a ?_
     refine RC (dst := some 36) [] .a (rwrong_spec s A 0 5) ?_
     rintro v hp' ⟨rfl, rfl⟩
     unfold rrd
     refine RR [1, 1, 1] .z (.i 5 (.int .i64 0) (.d (.d (.k (.k (.d (.k .a))))))) (.k (.u (.i (.string (mkS s)) (.i (.int .i64 (↑A : Int)) (.i (.int .i64 5) .z))) .a)) ?_
     refine RZ (NT (RE (TR ?_)))
     refine NE [] .z .a [1, 1, 1] (.tuple #[.agg #[.string (mkS s), .int .i64 (↑A : Int), .int .i64 5], .int .i64 0]) ?_
     exact ⟨rfl, rfl⟩
    ·rw [if_neg (show ¬ x > max 0 most by rw [← hmx]; exact h3)] at hC
     rw [hC]
     have hAu : ((A + u.toNat : Nat) : Int) = A + u := by omega
     dsimp only
     rw [if_neg (show ¬ (0 : Int) ≠ 0 by decide), hAu]
     refine SK (NT (SQ (RG ?_)))
     refine RR [0] .z (.d (.d (.k .a))) (.u (.k (.i (.int .i64 ((↑A : Int) + u)) (.d (.k .a)))) .a) ?_
     refine RZ (NT (SQ (RG ?_)))
     refine RR [0, 0, 0, 1, 1, 1] .z (.i 5 (.int .i64 x) (.d (.d (.k .z)))) (.k (.u (.i (.string (mkS s)) (.i (.int .i64 ((↑A : Int) + u)) (.d (.d (.k .a))))) .a)) ?_
     refine RZ (NT (RE ?_))
     refine NE [] .z .a [1, 1, 1] (.tuple #[.agg #[.string (mkS s), .int .i64 ((↑A : Int) + u), .int .i64 0], .int .i64 x]) ?_
     exact ⟨rfl, rfl⟩
theorem txt_eq {s : List UInt8} (most : Int) {n u e : Int} (h : cnt s most = (n, u, e)) : txW s most = if e ≠ 0 then ([], 0, e) else if n > s.length - u then ([], 0, 3) else ((s.drop u.toNat).take n.toNat, u + n, 0) := by unfold txW; rw [h]
theorem rText_spec (s : List UInt8) (A : Nat) (e most : Int) (hA : A ≤ s.length) (hl : s.length ≤ 1099511627776) :
  Does Tryz.prog 120 [rrd s A e, .int .i64 most] [] (fun v hp' => v = .tuple #[rrd s (rd [] A e (txW (s.drop A) most)).2.1 (rd [] A e (txW (s.drop A) most)).2.2, .string (mkS (rd [] A e (txW (s.drop A) most)).1)] ∧ hp' = []) := by
 have hok := cnt_ok (s.drop A) most
 have hok2 := txt_ok (s.drop A) most
 refine fn_enter Tryz.func120 rfl 45 rfl fun w0 h0 => ?_
 refine SQ (RG ?_)
 refine RP [] (.d .a) 2 (.d (.k .a)) .a 134 [.string (mkS s), .int .i64 (↑A : Int), .int .i64 e] fun g1 => ?_
 refine RP [] (.d .a) 4 .a .a 134 [.string ⟨#[]⟩, .int .i64 0, .int .i64 0] fun g2 => ?_
 refine RR [] .z (.i 5 (.string ⟨#[]⟩) .a) .a ?_
 refine RZ (NT (SQ (RG ?_)))
 refine RR [0, 0, 0] (.d (.d .a)) (.i 11 (.int .i64 most) (.i 10 (.agg #[.string (mkS s), .int .i64 (↑A : Int), .int .i64 e]) (.k (.k (.k .z))))) .a ?_
 refine RC (dst := some 12) [] .a (rCount_spec s A e most hA hl) ?_
 rintro v hp' ⟨rfl, rfl⟩
 by_cases he : e ≠ 0
 ·have h1 : rd (0 : Int) A e (cnt (s.drop A) most) = (0, A, e) := by unfold rd; rw [if_pos he]
  have h2 : rd ([] : List UInt8) A e (txW (s.drop A) most) = ([], A, e) := by unfold rd; rw [if_pos he]
  rw [h1, h2]
  unfold rrd
  refine RP [] (.d (.d (.d (.d .a)))) 6 (.i 14 (.int .i64 0) (.i 13 (.agg #[.string (mkS s), .int .i64 (↑A : Int), .int .i64 e]) (.d (.d (.d (.k .a)))))) .a 134 [.string ⟨#[]⟩, .int .i64 0, .int .i64 0] fun g3 => ?_
  refine RR [2, 2, 2] .z (.i 7 (.int .i64 0) (.k (.d (.d (.k .a))))) (.k (.k (.u (.i (.string (mkS s)) (.i (.int .i64 (↑A : Int)) (.i (.int .i64 e) .z))) .a))) ?_
  refine RZ (NT (SQ (SQ (RG ?_))))
  refine RR [2] .z (.i 17 (.bool (e != (0 : Int))) .a) .a ?_
  refine RZ (NT ?_)
  refine wpc_ent (ent_set 17 (.bool (e != 0)) (.bool true) (by kernel_rfl) (congrArg _ (by simpa using he))) ?_
  refine CT (SQ (RG ?_))
  refine RR [2, 2, 2, 1, 1, 1] .z (.i 5 (.string ⟨#[]⟩) (.d (.d (.k (.k (.d (.k .a))))))) (.k (.u (.i (.string (mkS s)) (.i (.int .i64 (↑A : Int)) (.i (.int .i64 e) .z))) .a)) ?_
  refine RZ (NT (RE (TR ?_)))
  refine NE [] .z .a [1, 1, 1] (.tuple #[.agg #[.string (mkS s), .int .i64 (↑A : Int), .int .i64 e], .string ⟨#[]⟩]) ?_
  exact ⟨rfl, rfl⟩
 ·obtain rfl : e = 0 := Classical.not_not.1 he
  obtain ⟨n, u, y, hn⟩ : ∃ n u y, cnt (s.drop A) most = (n, u, y) := ⟨_, _, _, rfl⟩
  have hT := txt_eq most hn
  rw [hn] at hok ⊢
  by_cases hy : y ≠ 0
  ·rw [if_pos hy] at hT
   have h1 : rd (0 : Int) A 0 (n, u, y) = (0, A, y) := by unfold rd; rw [if_neg he, if_pos hy]
   have h2 : rd ([] : List UInt8) A 0 (txW (s.drop A) most) = ([], A, y) := by unfold rd; rw [hT, if_neg he, if_pos hy]
   rw [h1, h2]
   unfold rrd
   refine RP [] (.d (.d (.d (.d .a)))) 6 (.i 14 (.int .i64 0) (.i 13 (.agg #[.string (mkS s), .int .i64 (↑A : Int), .int .i64 y]) (.d (.d (.d (.k .a)))))) .a 134 [.string ⟨#[]⟩, .int .i64 0, .int .i64 0] fun g3 => ?_
   refine RR [2, 2, 2] .z (.i 7 (.int .i64 0) (.k (.d (.d (.k .a))))) (.k (.k (.u (.i (.string (mkS s)) (.i (.int .i64 (↑A : Int)) (.i (.int .i64 y) .z))) .a))) ?_
   refine RZ (NT (SQ (SQ (RG ?_))))
   refine RR [2] .z (.i 17 (.bool (y != (0 : Int))) .a) .a ?_
   refine RZ (NT ?_)
   refine wpc_ent (ent_set 17 (.bool (y != 0)) (.bool true) (by kernel_rfl) (congrArg _ (by simpa using hy))) ?_
   refine CT (SQ (RG ?_))
   refine RR [2, 2, 2, 1, 1, 1] .z (.i 5 (.string ⟨#[]⟩) (.d (.d (.k (.k (.d (.k .a))))))) (.k (.u (.i (.string (mkS s)) (.i (.int .i64 (↑A : Int)) (.i (.int .i64 y) .z))) .a)) ?_
   refine RZ (NT (RE (TR ?_)))
   refine NE [] .z .a [1, 1, 1] (.tuple #[.agg #[.string (mkS s), .int .i64 (↑A : Int), .int .i64 y], .string ⟨#[]⟩]) ?_
   exact ⟨rfl, rfl⟩
  ·obtain rfl : y = 0 := Classical.not_not.1 hy
   rw [if_neg hy] at hT
   have h1 : rd (0 : Int) A 0 (n, u, 0) = (n, A + u.toNat, 0) := by unfold rd; rw [if_neg he, if_neg hy]
   rw [h1]
   dsimp only at hok
   have hu : 0 ≤ n ∧ 0 < u ∧ u ≤ (s.drop A).length := by omega
   have hAu : ((A + u.toNat : Nat) : Int) = A + u := by omega
   rw [List.length_drop] at hu
   unfold rrd
   dsimp only
   rw [hAu]
   refine RP [] (.d (.d (.d (.d .a)))) 6 (.i 14 (.int .i64 n) (.i 13 (.agg #[.string (mkS s), .int .i64 ((↑A : Int) + u), .int .i64 0]) (.d (.d (.d (.k .a)))))) .a 134 [.string ⟨#[]⟩, .int .i64 0, .int .i64 0] fun g3 => ?_
   refine RR [2, 2, 2] .z (.i 7 (.int .i64 n) (.k (.d (.d (.k .a))))) (.k (.k (.u (.i (.string (mkS s)) (.i (.int .i64 ((↑A : Int) + u)) (.d (.d (.k .a))))) .a))) ?_
   refine RZ (NT (SQ (SQ (RG ?_))))
   refine RR [2] .z (.i 17 (.bool false) .a) .a ?_
   refine RZ (NT (CF (SK (NT (SQ (SQ (RG ?_)))))))
   refine RV true [0, 2] .z (.i 26 (.bool (decide (n > (↑s.length : Int) - ((↑A : Int) + u)))) (.d (.k .a))) .a ([inI64 ((↑s.length : Int) - ((↑A : Int) + u))]) ⟨by unfold inI64; omega, trivial⟩ ?_
   refine RZ (NT ?_)
   refine wpc_if ((n > (↑s.length : Int) - ((↑A : Int) + u))) (by kernel_rfl) (fun h3 => ?_) (fun h3 => ?_)
   ·have h2 : rd ([] : List UInt8) A 0 (txW (s.drop A) most) = ([], A, 3) := by
     unfold rd
     rw [hT, if_neg he, if_pos (show n > ((s.drop A).length : Int) - u by rw [List.length_drop]; omega)]
     rfl
    rw [h2]
    refine SQ (RG ?_)
    refine RR [0, 0, 0] (.d .a) (.i 27 (.agg #[.string (mkS s), .int .i64 (↑A : Int), .int .i64 0]) (.d (.k .a))) .a ?_
    refine RC (dst := some 28) [] .a (rwrong_spec s A 0 3) ?_
    rintro v hp' ⟨rfl, rfl⟩
    unfold rrd
    refine RR [1, 1, 1] .z (.i 5 (.string ⟨#[]⟩) (.d (.d (.k (.k (.d (.k .a))))))) (.k (.u (.i (.string (mkS s)) (.i (.int .i64 (↑A : Int)) (.i (.int .i64 3) .z))) .a)) ?_
    refine RZ (NT (RE (TR ?_)))
    refine NE [] .z .a [1, 1, 1] (.tuple #[.agg #[.string (mkS s), .int .i64 (↑A : Int), .int .i64 3], .string ⟨#[]⟩]) ?_
    exact ⟨rfl, rfl⟩
   ·have h2 : rd ([] : List UInt8) A 0 (txW (s.drop A) most) = (((s.drop A).drop u.toNat).take n.toNat, A + (u + n).toNat, 0) := by
     unfold rd
     rw [hT, if_neg he, if_neg (show ¬ n > ((s.drop A).length : Int) - u by rw [List.length_drop]; omega)]
     rfl
    have hAn : ((A + (u + n).toNat : Nat) : Int) = A + u + n := by omega
    rw [h2]
    dsimp only
    rw [hAn]
    refine SK (NT (SQ (RG ?_)))
    refine RV true [0, 2, 2] .z (.i 8 (.string (mkS (List.take (Int.toNat ((↑A : Int) + u + n - ((↑A : Int) + u))) (List.drop (Int.toNat ((↑A : Int) + u)) s)))) (.d (.k (.k (.k (.k .z)))))) .a ([inI64 ((↑A : Int) + u + n), (0 : Int) ≤ (↑A : Int) + u + n ∧ (↑A : Int) + u + n ≤ (↑s.length : Int), (0 : Int) ≤ (↑A : Int) + u ∧ (↑A : Int) + u ≤ (↑A : Int) + u + n]) ⟨by unfold inI64; omega, by omega, by omega, trivial⟩ ?_
    refine RZ (NT (SQ (RG ?_)))
    refine RV true [2, 2] .z (.k (.d (.k .a))) (.k (.k (.u (.k (.i (.int .i64 ((↑A : Int) + u + n)) (.d (.k .a)))) .a))) ([inI64 ((↑A : Int) + u + n)]) ⟨by unfold inI64; omega, trivial⟩ ?_
    refine RZ (NT (SQ (RG ?_)))
    refine RR [2, 2, 2, 1, 1, 1] .z (.i 5 (.string (mkS (List.take (Int.toNat ((↑A : Int) + u + n - ((↑A : Int) + u))) (List.drop (Int.toNat ((↑A : Int) + u)) s)))) (.d (.d (.d (.k .a))))) (.k (.u (.i (.string (mkS s)) (.i (.int .i64 ((↑A : Int) + u + n)) (.d (.d (.k .a))))) .a)) ?_
    refine RZ (NT (RE ?_))
    refine NE [] .z .a [1, 1, 1] (.tuple #[.agg #[.string (mkS s), .int .i64 ((↑A : Int) + u + n), .int .i64 0], .string (mkS (List.take (Int.toNat ((↑A : Int) + u + n - ((↑A : Int) + u))) (List.drop (Int.toNat ((↑A : Int) + u)) s)))]) ?_
    refine ⟨?_, rfl⟩
    rw [List.drop_drop, show (A : Int) + u + n - (A + u) = n by omega, show ((A : Int) + u).toNat = A + u.toNat by omega]
end Go.Proofs.YtgcfomhlgipllaaGreatDoor
namespace Go.Proofs.YtgcfomhlgipllaaGreatDoor
open Go Go.Sx
/-! A reader that goes on over bytes: where it stands, what it meets; rows of things. No program in sight. -/
def i64r (n : Int) : Prop := -9223372036854775808 ≤ n ∧ n ≤ 9223372036854775807
abbrev At2 := Nat × Int
def rI (s : List UInt8) (p : At2) : Int × At2 := rd 0 p.1 p.2 (num (s.drop p.1))
def rC (s : List UInt8) (most : Int) (p : At2) : Int × At2 := rd 0 p.1 p.2 (cnt (s.drop p.1) most)
def rT (s : List UInt8) (most : Int) (p : At2) : List UInt8 × At2 := rd [] p.1 p.2 (txW (s.drop p.1) most)
def rMany {α : Type} (f : At2 → α × At2) : Nat → At2 → List α × At2
 | 0, p => ([], p)
 | k + 1, p => if p.2 ≠ 0 then ([], p) else ((f p).1 :: (rMany f k (f p).2).1, (rMany f k (f p).2).2)
def rRows {α : Type} (s : List UInt8) (f : At2 → α × At2) (p : At2) : List α × At2 := rMany f (rC s 1048576 p).1.toNat (rC s 1048576 p).2
def Goes {α : Type} (s : List UInt8) (f : At2 → α × At2) : Prop := ∀ p, p.1 ≤ s.length → p.1 ≤ (f p).2.1 ∧ (f p).2.1 ≤ s.length ∧ (p.2 ≠ 0 → (f p).2.2 ≠ 0) ∧ (p.2 = 0 → (f p).2.2 = 0 → p.1 < (f p).2.1)
theorem goes_rd {α : Type} (z : α) (s : List UInt8) (p : At2) (x : α × Int × Int) (hp : p.1 ≤ s.length) (hx : (x.2.2 = 0 ∧ 0 < x.2.1 ∧ x.2.1 ≤ (s.drop p.1).length) ∨ x.2.2 ≠ 0) :
  p.1 ≤ (rd z p.1 p.2 x).2.1 ∧ (rd z p.1 p.2 x).2.1 ≤ s.length ∧ (p.2 ≠ 0 → (rd z p.1 p.2 x).2.2 ≠ 0) ∧ (p.2 = 0 → (rd z p.1 p.2 x).2.2 = 0 → p.1 < (rd z p.1 p.2 x).2.1) := by
 rw [List.length_drop] at hx
 unfold rd
 by_cases h1 : p.2 ≠ 0
 ·rw [if_pos h1]; exact ⟨Nat.le_refl _, hp, fun h => h, fun h => absurd h h1⟩
 ·rw [if_neg h1]
  by_cases h2 : x.2.2 ≠ 0
  ·rw [if_pos h2]; exact ⟨Nat.le_refl _, hp, fun h => absurd h h1, fun _ h => absurd h h2⟩
  ·rw [if_neg h2]
   have h3 : 0 < x.2.1 ∧ x.2.1 ≤ ((s.length - p.1 : Nat) : Int) := by
    rcases hx with ⟨_, h⟩ | h
    ·exact h
    ·exact absurd h h2
   dsimp only
   exact ⟨by omega, by omega, fun h => absurd h h1, fun _ _ => by omega⟩
theorem goes_rI (s : List UInt8) : Goes s (rI s) := fun p hp => goes_rd 0 s p _ hp (by
 rcases num_ok (s.drop p.1) with h | h
 ·exact .inl h
 ·exact .inr h.2.2)
theorem goes_rC (s : List UInt8) (m : Int) : Goes s (rC s m) := fun p hp => goes_rd 0 s p _ hp (by
 rcases cnt_ok (s.drop p.1) m with h | h
 ·exact .inl ⟨h.1, h.2.2⟩
 ·exact .inr h.2.2)
theorem goes_rT (s : List UInt8) (m : Int) : Goes s (rT s m) := fun p hp => goes_rd [] s p _ hp (by
 rcases txt_ok (s.drop p.1) m with h | h
 ·exact .inl h
 ·exact .inr h.2.2)
theorem goes_then {s : List UInt8} {p q r : At2} (h1 : p.1 ≤ q.1 ∧ q.1 ≤ s.length ∧ (p.2 ≠ 0 → q.2 ≠ 0) ∧ (p.2 = 0 → q.2 = 0 → p.1 < q.1))
  (h2 : q.1 ≤ s.length → q.1 ≤ r.1 ∧ r.1 ≤ s.length ∧ (q.2 ≠ 0 → r.2 ≠ 0)) : p.1 ≤ r.1 ∧ r.1 ≤ s.length ∧ (p.2 ≠ 0 → r.2 ≠ 0) ∧ (p.2 = 0 → r.2 = 0 → p.1 < r.1) := by
 obtain ⟨a1, a2, a3, a4⟩ := h1
 obtain ⟨b1, b2, b3⟩ := h2 a2
 refine ⟨by omega, b2, fun h => b3 (a3 h), fun h h' => ?_⟩
 have : q.2 = 0 := Classical.byContradiction fun hq => b3 hq h'
 have := a4 h this
 omega
theorem goes_many {α : Type} {s : List UInt8} {f : At2 → α × At2} (hf : Goes s f) : ∀ (k : Nat) (p : At2), p.1 ≤ s.length → p.1 ≤ (rMany f k p).2.1 ∧ (rMany f k p).2.1 ≤ s.length ∧ (p.2 ≠ 0 → (rMany f k p).2.2 ≠ 0)
 | 0, p, hp => ⟨Nat.le_refl _, hp, fun h => h⟩
 | k + 1, p, hp => by
  unfold rMany
  split
  ·exact ⟨Nat.le_refl _, hp, fun h => h⟩
  ·rename_i h0
   have h1 := hf p hp
   have h2 := goes_many hf k (f p).2 h1.2.1
   exact ⟨by dsimp only; omega, h2.2.1, fun h => absurd h h0⟩
theorem many_len {α : Type} {s : List UInt8} {f : At2 → α × At2} (hf : Goes s f) : ∀ (k : Nat) (p : At2), p.1 ≤ s.length → (rMany f k p).1.length ≤ k ∧ (rMany f k p).1.length ≤ s.length - p.1 + 1
 | 0, p, hp => ⟨Nat.le_refl _, Nat.zero_le _⟩
 | k + 1, p, hp => by
  unfold rMany
  split
  ·exact ⟨Nat.zero_le _, Nat.zero_le _⟩
  ·rename_i h0
   have h1 := hf p hp
   have h2 := many_len hf k (f p).2 h1.2.1
   dsimp only
   rw [List.length_cons]
   refine ⟨by omega, ?_⟩
   by_cases he : (f p).2.2 = 0
   ·have := h1.2.2.2 (Classical.not_not.1 h0) he; omega
   ·have : (rMany f k (f p).2).1 = [] := by
     cases k with
     | zero => rfl
     | succ k => unfold rMany; rw [if_pos he]
    rw [this]; simp
theorem goes_rows {α : Type} {s : List UInt8} {f : At2 → α × At2} (hf : Goes s f) : Goes s (rRows s f) := fun p hp =>
 goes_then (goes_rC s 1048576 p hp) (fun h => goes_many hf _ _ h)
theorem goes_weak {s : List UInt8} {p q : At2} (h : p.1 ≤ q.1 ∧ q.1 ≤ s.length ∧ (p.2 ≠ 0 → q.2 ≠ 0) ∧ (p.2 = 0 → q.2 = 0 → p.1 < q.1)) : p.1 ≤ q.1 ∧ q.1 ≤ s.length ∧ (p.2 ≠ 0 → q.2 ≠ 0) := ⟨h.1, h.2.1, h.2.2.1⟩
theorem rI_rng (s : List UInt8) (p : At2) : i64r (rI s p).1 := by
 have h := num_i64 (s.drop p.1)
 unfold rI rd i64r
 split
 ·exact ⟨by dsimp only; omega, by dsimp only; omega⟩
 ·split
  ·exact ⟨by dsimp only; omega, by dsimp only; omega⟩
  ·exact h
theorem rC_rng (s : List UInt8) (p : At2) : 0 ≤ (rC s 1048576 p).1 ∧ (rC s 1048576 p).1 ≤ 1048576 := by
 unfold rC rd
 split
 ·exact ⟨Int.le_refl _, by dsimp only; omega⟩
 ·split
  ·exact ⟨Int.le_refl _, by dsimp only; omega⟩
  ·rename_i h
   have h0 := Classical.not_not.1 h
   obtain ⟨n, u, e, hx⟩ : ∃ n u e, cnt (s.drop p.1) 1048576 = (n, u, e) := ⟨_, _, _, rfl⟩
   rw [hx] at h0 ⊢
   dsimp only at h0 ⊢
   subst h0
   have := cnt_num _ _ _ _ hx
   omega
theorem rT_len (s : List UInt8) (m : Int) (hm : 0 ≤ m) (p : At2) : ((rT s m p).1.length : Int) ≤ m := by
 unfold rT rd
 split
 ·exact hm
 ·split
  ·exact hm
  ·rename_i h
   have h0 := Classical.not_not.1 h
   obtain ⟨n, u, e, hx⟩ : ∃ n u e, cnt (s.drop p.1) m = (n, u, e) := ⟨_, _, _, rfl⟩
   rw [txt_eq m hx] at h0 ⊢
   by_cases he : e ≠ 0
   ·rw [if_pos he]; exact hm
   ·rw [if_neg he]
    have he := Classical.not_not.1 he
    subst he
    have := cnt_num _ _ _ _ hx
    split
    ·exact hm
    ·dsimp only
     rw [List.length_take]
     omega
theorem many_all {α : Type} {f : At2 → α × At2} {P : α → Prop} (hf : ∀ p, P (f p).1) : ∀ (k : Nat) (p : At2), ∀ x ∈ (rMany f k p).1, P x
 | 0, p, x, hx => by cases hx
 | k + 1, p, x, hx => by
  unfold rMany at hx
  split at hx
  ·cases hx
  ·rcases List.mem_cons.1 hx with rfl | hx
   ·exact hf p
   ·exact many_all hf k _ x hx
theorem many_lenk {α : Type} (f : At2 → α × At2) : ∀ (k : Nat) (p : At2), (rMany f k p).1.length ≤ k
 | 0, p => Nat.le_refl _
 | k + 1, p => by
  unfold rMany
  split
  ·exact Nat.zero_le _
  ·exact Nat.succ_le_succ (many_lenk f k _)
theorem rows_all {α : Type} {s : List UInt8} {f : At2 → α × At2} {P : α → Prop} (hf : ∀ p, P (f p).1) (p : At2) : ∀ x ∈ (rRows s f p).1, P x := many_all hf _ _
theorem rMany_nil {α : Type} (f : At2 → α × At2) (k : Nat) (p : At2) (h : p.2 ≠ 0) : rMany f k p = ([], p) := by
 cases k with
 | zero => rfl
 | succ k => unfold rMany; rw [if_pos h]
theorem rMany_succ {α : Type} (f : At2 → α × At2) (k : Nat) (p : At2) (h : p.2 = 0) : rMany f (k + 1) p = ((f p).1 :: (rMany f k (f p).2).1, (rMany f k (f p).2).2) := by
 conv => lhs; unfold rMany
 rw [if_neg (fun hn => hn h)]
end Go.Proofs.YtgcfomhlgipllaaGreatDoor
namespace Go.Proofs.YtgcfomhlgipllaaGreatDoor
open Go Go.Sx
/-! Readers and writers that fit: what is written is read; what is read is what would be written; what is cut off ends too early. -/
theorem num_cut_vb : ∀ (k i f g m : Nat), i + k = 10 → 0 < k → (0 < i → 0 < g) → f + g * 128 ^ i < 18446744073709551616 → m < (vb g).length →
  numGo k i f ((vb g).take m) = (0, 0, 3)
 | 0, _, _, _, _, _, h, _, _, _ => absurd h (by decide)
 | k + 1, i, f, g, 0, _, _, _, _, _ => by rw [List.take_zero]; rfl
 | k + 1, i, f, g, m + 1, hk, _, hg, hF, hm => by
  have e9 : (128 : Nat) ^ 9 = 9223372036854775808 := by decide
  by_cases hs : g < 128
  ·rw [vb_lt hs] at hm; simp at hm
  ·rw [vb_ge hs] at hm ⊢
   have hc : (UInt8.ofNat (g % 128 + 128)).toNat = g % 128 + 128 := ofNat_toNat (by omega)
   have hi9 : i < 9 := by
    rcases Nat.lt_or_ge i 9 with h | h
    ·exact h
    ·have e : i = 9 := by omega
     subst e
     rw [e9] at hF
     omega
   rw [List.take_succ_cons]
   unfold numGo
   rw [hc]
   have e : f + (g % 128 + 128) % 128 * 128 ^ i + g / 128 * 128 ^ (i + 1) = f + g * 128 ^ i := by
    have h1 : (g % 128 + 128) % 128 = g % 128 := by omega
    have h2 : g / 128 * 128 ^ (i + 1) = (128 * (g / 128)) * 128 ^ i := by rw [Nat.pow_succ, Nat.mul_comm (128 ^ i), ← Nat.mul_assoc, Nat.mul_comm (g / 128)]
    rw [h1, h2, Nat.add_assoc, ← Nat.add_mul, Nat.mod_add_div]
   rw [if_neg (by omega), if_pos (by omega)]
   exact num_cut_vb k (i + 1) _ (g / 128) m (by omega) (by omega) (fun _ => by omega) (by rw [e]; exact hF) (by simpa using hm)
theorem num_cut {n : Int} (h1 : -9223372036854775808 ≤ n) (h2 : n ≤ 9223372036854775807) {m : Nat} (hm : m < (encI n).length) : num ((encI n).take m) = (0, 0, 3) := by
 have hF := foldN_lt h1 h2
 have hN := foldN_nn n
 exact num_cut_vb 10 0 0 (foldN n).toNat m rfl (by decide) (fun h => absurd h (by decide)) (by simp; omega) hm
structure Codec {α : Type} (f : List UInt8 → At2 → α × At2) (enc : α → List UInt8) (ok : α → Prop) : Prop where
 stick : ∀ s p, p.2 ≠ 0 → (f s p).2 = p
 goes : ∀ s, Goes s (f s)
 back : ∀ s a x rest, ok x → s.drop a = enc x ++ rest → f s (a, 0) = (x, a + (enc x).length, 0)
 form : ∀ s a, a ≤ s.length → (f s (a, 0)).2.2 = 0 → s.drop a = enc (f s (a, 0)).1 ++ s.drop (f s (a, 0)).2.1
 cut : ∀ s a x m, ok x → s.drop a = (enc x).take m → m < (enc x).length → (f s (a, 0)).2.2 = 3
theorem rd_nz {α : Type} (z : α) (A : Nat) (e : Int) (x : α × Int × Int) (h : e ≠ 0) : rd z A e x = (z, A, e) := by unfold rd; rw [if_pos h]
theorem rd_ok {α : Type} (z : α) (A : Nat) (x : α × Int × Int) (h : x.2.2 = 0) : rd z A 0 x = (x.1, A + x.2.1.toNat, 0) := by
 unfold rd; rw [if_neg (fun h => h rfl), if_neg (fun hn => hn h)]
theorem rd_bad {α : Type} (z : α) (A : Nat) (x : α × Int × Int) (h : x.2.2 ≠ 0) : rd z A 0 x = (z, A, x.2.2) := by
 unfold rd; rw [if_neg (fun h => h rfl), if_pos h]
theorem take_form {s t : List UInt8} {a : Nat} (h : (s.drop a).take t.length = t) : s.drop a = t ++ s.drop (a + t.length) := by
 have h2 : (s.drop a).drop t.length = s.drop (a + t.length) := List.drop_drop
 conv => lhs; rw [← List.take_append_drop t.length (s.drop a)]
 rw [h, h2]
theorem codec_rI : Codec rI encI i64r where
 stick := fun s p h => by unfold rI; rw [rd_nz _ _ _ _ h]
 goes := goes_rI
 back := fun s a x rest hx h => by
  show rd 0 a 0 (num (s.drop a)) = _
  rw [h, num_encI hx.1 hx.2, rd_ok _ _ _ rfl, Int.toNat_natCast]
 form := fun s a ha h => by
  have h' : (rd 0 a 0 (num (s.drop a))).2.2 = 0 := h
  show s.drop a = encI (rd 0 a 0 (num (s.drop a))).1 ++ s.drop (rd 0 a 0 (num (s.drop a))).2.1
  obtain ⟨n, u, e, hn⟩ : ∃ n u e, num (s.drop a) = (n, u, e) := ⟨_, _, _, rfl⟩
  rw [hn] at h' ⊢
  by_cases he : e ≠ 0
  ·rw [rd_bad _ _ _ he] at h'; exact absurd h' he
  ·have he := Classical.not_not.1 he
   subst he
   obtain ⟨f1, f2, f3⟩ := num_form _ _ _ hn
   rw [rd_ok _ _ _ rfl]
   dsimp only
   rw [f1, Int.toNat_natCast]
   exact take_form f2
 cut := fun s a x m hx h hm => by
  show (rd 0 a 0 (num (s.drop a))).2.2 = 3
  rw [h, num_cut hx.1 hx.2 hm, rd_bad _ _ _ (by decide)]
theorem cnt_cut {n : Int} (h1 : -9223372036854775808 ≤ n) (h2 : n ≤ 9223372036854775807) (most : Int) {m : Nat} (hm : m < (encI n).length) : cnt ((encI n).take m) most = (0, 0, 3) := by
 unfold cnt
 rw [num_cut h1 h2 hm]
 rfl
def okN (most n : Int) : Prop := 0 ≤ n ∧ n ≤ most ∧ n ≤ 9223372036854775807
theorem codec_rC (most : Int) : Codec (fun s => rC s most) encI (okN most) where
 stick := fun s p h => by unfold rC; rw [rd_nz _ _ _ _ h]
 goes := fun s => goes_rC s most
 back := fun s a x rest hx h => by
  show rd 0 a 0 (cnt (s.drop a) most) = _
  obtain ⟨h1, h2, h3⟩ := hx
  rw [h, cnt_encI h1 h3, if_neg (by omega), rd_ok _ _ _ rfl, Int.toNat_natCast]
 form := fun s a ha h => by
  have h' : (rd 0 a 0 (cnt (s.drop a) most)).2.2 = 0 := h
  show s.drop a = encI (rd 0 a 0 (cnt (s.drop a) most)).1 ++ s.drop (rd 0 a 0 (cnt (s.drop a) most)).2.1
  obtain ⟨n, u, e, hn⟩ : ∃ n u e, cnt (s.drop a) most = (n, u, e) := ⟨_, _, _, rfl⟩
  rw [hn] at h' ⊢
  by_cases he : e ≠ 0
  ·rw [rd_bad _ _ _ he] at h'; exact absurd h' he
  ·have he := Classical.not_not.1 he
   subst he
   obtain ⟨f1, f2, f3⟩ := num_form _ _ _ (cnt_num _ _ _ _ hn).1
   rw [rd_ok _ _ _ rfl]
   dsimp only
   rw [f1, Int.toNat_natCast]
   exact take_form f2
 cut := fun s a x m hx h hm => by
  show (rd 0 a 0 (cnt (s.drop a) most)).2.2 = 3
  obtain ⟨h1, h2, h3⟩ := hx
  rw [h, cnt_cut (by omega) h3 _ hm, rd_bad _ _ _ (by decide)]
def okT (most : Int) (t : List UInt8) : Prop := (t.length : Int) ≤ most ∧ (t.length : Int) ≤ 9223372036854775807
theorem codec_rT (most : Int) : Codec (fun s => rT s most) encT (okT most) where
 stick := fun s p h => by unfold rT; rw [rd_nz _ _ _ _ h]
 goes := fun s => goes_rT s most
 back := fun s a x rest hx h => by
  show rd [] a 0 (txW (s.drop a) most) = _
  obtain ⟨h1, h2⟩ := hx
  rw [h, txt_encT x h2 most (by omega), rd_ok _ _ _ rfl, Int.toNat_natCast]
 form := fun s a ha h => by
  have h' : (rd [] a 0 (txW (s.drop a) most)).2.2 = 0 := h
  show s.drop a = encT (rd [] a 0 (txW (s.drop a) most)).1 ++ s.drop (rd [] a 0 (txW (s.drop a) most)).2.1
  obtain ⟨n, u, e, hn⟩ : ∃ n u e, txW (s.drop a) most = (n, u, e) := ⟨_, _, _, rfl⟩
  rw [hn] at h' ⊢
  by_cases he : e ≠ 0
  ·rw [rd_bad _ _ _ he] at h'; exact absurd h' he
  ·have he := Classical.not_not.1 he
   subst he
   obtain ⟨f1, f2, f3⟩ := txt_form _ _ _ _ hn
   rw [rd_ok _ _ _ rfl]
   dsimp only
   rw [f1, Int.toNat_natCast]
   exact take_form f2
 cut := fun s a x m hx h hm => by
  show (rd [] a 0 (txW (s.drop a) most)).2.2 = 3
  obtain ⟨h1, h2⟩ := hx
  have hE : encT x = encI x.length ++ x := rfl
  have hEl : (encT x).length = (encI x.length).length + x.length := by rw [hE, List.length_append]
  rw [h]
  by_cases hmi : m < (encI x.length).length
  ·have hc := cnt_cut (n := x.length) (by omega) h2 most hmi
   have e : (encT x).take m = (encI x.length).take m := by rw [hE, List.take_append_of_le_length (by omega)]
   have ht : txW ((encT x).take m) most = ([], 0, 3) := by
    unfold txW
    rw [e, hc]
    rfl
   rw [ht, rd_bad _ _ _ (by decide)]
  ·have e : (encT x).take m = encI x.length ++ x.take (m - (encI x.length).length) := by
    rw [hE, List.take_append, List.take_of_length_le (by omega)]
   have hc := cnt_encI (most := most) (n := x.length) (by omega) h2 (x.take (m - (encI x.length).length))
   rw [if_neg (by omega)] at hc
   have ht : txW ((encT x).take m) most = ([], 0, 3) := by
    unfold txW
    rw [e, hc]
    dsimp only
    rw [if_neg (fun h => h rfl), if_pos (by rw [List.length_append, List.length_take]; omega)]
   rw [ht, rd_bad _ _ _ (by decide)]
def sq {α β : Type} (f : List UInt8 → At2 → α × At2) (g : List UInt8 → At2 → β × At2) : List UInt8 → At2 → (α × β) × At2 :=
 fun s p => (((f s p).1, (g s (f s p).2).1), (g s (f s p).2).2)
theorem pair_eta {p : At2} {a : Nat} {e : Int} (h1 : p.1 = a) (h2 : p.2 = e) : p = (a, e) := Prod.ext h1 h2
theorem Codec.sq {α β : Type} {f : List UInt8 → At2 → α × At2} {ea : α → List UInt8} {oka : α → Prop} {g : List UInt8 → At2 → β × At2} {eb : β → List UInt8} {okb : β → Prop}
  (F : Codec f ea oka) (G : Codec g eb okb) : Codec (sq f g) (fun x => ea x.1 ++ eb x.2) (fun x => oka x.1 ∧ okb x.2) where
 stick := fun s p h => by
  show (g s (f s p).2).2 = p
  rw [F.stick s p h, G.stick s p h]
 goes := fun s p hp => goes_then (F.goes s p hp) (fun h => goes_weak (G.goes s _ h))
 back := fun s a x rest hx h => by
  have h1 := F.back s a x.1 (eb x.2 ++ rest) hx.1 (by rw [h, List.append_assoc])
  have h2 := G.back s (a + (ea x.1).length) x.2 rest hx.2 (by
   rw [← List.drop_drop, h, List.append_assoc, List.drop_left])
  show (((f s (a, 0)).1, (g s (f s (a, 0)).2).1), (g s (f s (a, 0)).2).2) = _
  rw [h1]
  dsimp only
  rw [h2, List.length_append, Nat.add_assoc]
 form := fun s a ha h => by
  have h' : (g s (f s (a, 0)).2).2.2 = 0 := h
  have he : (f s (a, 0)).2.2 = 0 := Classical.byContradiction fun hn => by
   rw [G.stick s _ hn] at h'; exact hn h'
  have hg := F.goes s (a, 0) ha
  have h1 := F.form s a ha he
  have hp : (f s (a, 0)).2 = ((f s (a, 0)).2.1, 0) := pair_eta rfl he
  rw [hp] at h'
  have h2 := G.form s _ hg.2.1 h'
  show s.drop a = (ea (f s (a, 0)).1 ++ eb (g s (f s (a, 0)).2).1) ++ s.drop (g s (f s (a, 0)).2).2.1
  rw [hp]
  rw [h1, h2, List.append_assoc]
 cut := fun s a x m hx h hm => by
  show (g s (f s (a, 0)).2).2.2 = 3
  rw [List.length_append] at hm
  by_cases hmi : m < (ea x.1).length
  ·have h3 := F.cut s a x.1 m hx.1 (by rw [h, List.take_append_of_le_length (by omega)]) hmi
   rw [G.stick s _ (by rw [h3]; decide), h3]
  ·have e : s.drop a = ea x.1 ++ (eb x.2).take (m - (ea x.1).length) := by
    rw [h, List.take_append, List.take_of_length_le (by omega)]
   rw [F.back s a x.1 _ hx.1 e]
   dsimp only
   exact G.cut s _ x.2 (m - (ea x.1).length) hx.2 (by rw [← List.drop_drop, e, List.drop_left]) (by omega)
theorem Codec.map {α β : Type} {f : List UInt8 → At2 → α × At2} {ea : α → List UInt8} {oka : α → Prop} (F : Codec f ea oka) (to : α → β) (fr : β → α) (h1 : ∀ x, fr (to x) = x) (h2 : ∀ y, to (fr y) = y)
  {f' : List UInt8 → At2 → β × At2} (hf : ∀ s p, f' s p = (to (f s p).1, (f s p).2)) {eb : β → List UInt8} (he : ∀ y, eb y = ea (fr y)) {okb : β → Prop} (ho : ∀ y, okb y → oka (fr y)) : Codec f' eb okb where
 stick := fun s p h => by rw [hf]; exact F.stick s p h
 goes := fun s p hp => by rw [hf]; exact F.goes s p hp
 back := fun s a y rest hy h => by
  rw [hf, F.back s a (fr y) rest (ho _ hy) (by rw [h, he]), h2, he]
 form := fun s a ha h => by
  rw [hf] at h ⊢
  rw [he, h1]
  exact F.form s a ha h
 cut := fun s a y m hy h hm => by
  rw [hf]
  rw [he] at h hm
  exact F.cut s a (fr y) m (ho _ hy) h hm
def encR {α : Type} (enc : α → List UInt8) (l : List α) : List UInt8 := encI l.length ++ l.flatMap enc
def okR {α : Type} (ok : α → Prop) (l : List α) : Prop := l.length ≤ 1048576 ∧ ∀ x ∈ l, ok x
section
variable {α : Type} {f : List UInt8 → At2 → α × At2} {enc : α → List UInt8} {ok : α → Prop}
theorem many_back (F : Codec f enc ok) (s : List UInt8) : ∀ (l : List α) (a : Nat) (rest : List UInt8), (∀ x ∈ l, ok x) → s.drop a = l.flatMap enc ++ rest → rMany (f s) l.length (a, 0) = (l, a + (l.flatMap enc).length, 0)
 | [], a, rest, _, _ => rfl
 | x :: l, a, rest, ho, h => by
  rw [List.flatMap_cons, List.append_assoc] at h
  have h1 := F.back s a x _ (ho x (List.mem_cons_self ..)) h
  have h2 := many_back F s l (a + (enc x).length) rest (fun y hy => ho y (List.mem_cons_of_mem _ hy)) (by rw [← List.drop_drop, h, List.drop_left])
  rw [List.length_cons, rMany_succ _ _ _ rfl, h1]
  dsimp only
  rw [h2, List.flatMap_cons, List.length_append, Nat.add_assoc]
theorem many_form (F : Codec f enc ok) (s : List UInt8) : ∀ (k a : Nat), a ≤ s.length → (rMany (f s) k (a, 0)).2.2 = 0 →
  (rMany (f s) k (a, 0)).1.length = k ∧ s.drop a = (rMany (f s) k (a, 0)).1.flatMap enc ++ s.drop (rMany (f s) k (a, 0)).2.1
 | 0, a, _, _ => ⟨rfl, rfl⟩
 | k + 1, a, ha, h => by
  rw [rMany_succ _ _ _ rfl] at h ⊢
  dsimp only at h ⊢
  have he : (f s (a, 0)).2.2 = 0 := Classical.byContradiction fun hn => by
   rw [rMany_nil _ _ _ hn] at h; exact hn h
  have hp : (f s (a, 0)).2 = ((f s (a, 0)).2.1, 0) := pair_eta rfl he
  have h1 := F.form s a ha he
  rw [hp] at h
  obtain ⟨h2, h3⟩ := many_form F s k _ (F.goes s (a, 0) ha).2.1 h
  rw [hp]
  refine ⟨by rw [List.length_cons, h2], ?_⟩
  rw [List.flatMap_cons, List.append_assoc, ← h3]
  exact h1
theorem many_cut (F : Codec f enc ok) (s : List UInt8) : ∀ (l : List α) (a m : Nat), (∀ x ∈ l, ok x) → s.drop a = (l.flatMap enc).take m → m < (l.flatMap enc).length → (rMany (f s) l.length (a, 0)).2.2 = 3
 | [], a, m, _, _, hm => by simp at hm
 | x :: l, a, m, ho, h, hm => by
  rw [List.flatMap_cons] at h hm
  rw [List.length_append] at hm
  rw [List.length_cons, rMany_succ _ _ _ rfl]
  dsimp only
  by_cases hmi : m < (enc x).length
  ·have h3 := F.cut s a x m (ho x (List.mem_cons_self ..)) (by rw [h, List.take_append_of_le_length (by omega)]) hmi
   rw [rMany_nil _ _ _ (by rw [h3]; decide), h3]
  ·have e : s.drop a = enc x ++ (l.flatMap enc).take (m - (enc x).length) := by
    rw [h, List.take_append, List.take_of_length_le (by omega)]
   rw [F.back s a x _ (ho x (List.mem_cons_self ..)) e]
   dsimp only
   exact many_cut F s l _ (m - (enc x).length) (fun y hy => ho y (List.mem_cons_of_mem _ hy)) (by rw [← List.drop_drop, e, List.drop_left]) (by omega)
theorem Codec.rows (F : Codec f enc ok) : Codec (fun s => rRows s (f s)) (encR enc) (okR ok) where
 stick := fun s p h => by
  show (rMany (f s) (rC s 1048576 p).1.toNat (rC s 1048576 p).2).2 = p
  rw [(codec_rC 1048576).stick s p h, rMany_nil _ _ _ h]
 goes := fun s => goes_rows (F.goes s)
 back := fun s a l rest hl h => by
  obtain ⟨h1, h2⟩ := hl
  unfold encR at h ⊢
  rw [List.append_assoc] at h
  have hc := (codec_rC 1048576).back s a (l.length : Int) _ ⟨by omega, by omega, by omega⟩ h
  have hm := many_back F s l (a + (encI (l.length : Int)).length) rest h2 (by rw [← List.drop_drop, h, List.drop_left])
  show rMany (f s) (rC s 1048576 (a, 0)).1.toNat (rC s 1048576 (a, 0)).2 = _
  rw [show rC s 1048576 (a, 0) = _ from hc]
  dsimp only
  rw [Int.toNat_natCast, hm, List.length_append, Nat.add_assoc]
 form := fun s a ha h => by
  have h' : (rMany (f s) (rC s 1048576 (a, 0)).1.toNat (rC s 1048576 (a, 0)).2).2.2 = 0 := h
  have he : (rC s 1048576 (a, 0)).2.2 = 0 := Classical.byContradiction fun hn => by
   rw [rMany_nil _ _ _ hn] at h'; exact hn h'
  have hp : (rC s 1048576 (a, 0)).2 = ((rC s 1048576 (a, 0)).2.1, 0) := pair_eta rfl he
  have h1 := (codec_rC 1048576).form s a ha he
  have hr := rC_rng s (a, 0)
  rw [hp] at h'
  obtain ⟨h2, h3⟩ := many_form F s _ _ ((codec_rC 1048576).goes s (a, 0) ha).2.1 h'
  show s.drop a = encR enc (rMany (f s) (rC s 1048576 (a, 0)).1.toNat (rC s 1048576 (a, 0)).2).1 ++ s.drop (rMany (f s) (rC s 1048576 (a, 0)).1.toNat (rC s 1048576 (a, 0)).2).2.1
  rw [hp]
  unfold encR
  rw [List.append_assoc, ← h3, h2, Int.toNat_of_nonneg hr.1]
  exact h1
 cut := fun s a l m hl h hm => by
  obtain ⟨h1, h2⟩ := hl
  unfold encR at h hm
  rw [List.length_append] at hm
  show (rMany (f s) (rC s 1048576 (a, 0)).1.toNat (rC s 1048576 (a, 0)).2).2.2 = 3
  by_cases hmi : m < (encI (l.length : Int)).length
  ·have h3 := (codec_rC 1048576).cut s a (l.length : Int) m ⟨by omega, by omega, by omega⟩ (by rw [h, List.take_append_of_le_length (by omega)]) hmi
   rw [rMany_nil _ _ _ (by rw [show (rC s 1048576 (a, 0)).2.2 = 3 from h3]; decide)]
   exact h3
  ·have e : s.drop a = encI (l.length : Int) ++ (l.flatMap enc).take (m - (encI (l.length : Int)).length) := by
    rw [h, List.take_append, List.take_of_length_le (by omega)]
   have hc := (codec_rC 1048576).back s a (l.length : Int) _ ⟨by omega, by omega, by omega⟩ e
   rw [show rC s 1048576 (a, 0) = _ from hc]
   dsimp only
   rw [Int.toNat_natCast]
   exact many_cut F s l _ (m - (encI (l.length : Int)).length) h2 (by rw [← List.drop_drop, e, List.drop_left]) (by omega)
end
end Go.Proofs.YtgcfomhlgipllaaGreatDoor
namespace Go.Sx
open Go
variable {P : Program} {Γ : Cx} {Q : Exit → Act → World → Prop} {s : St}
/-! ### blocks that are no cells -/
def objQ (g : Nat) (o : Obj) : Oq where
 own := fun k => k = g
 rw := True
 holds := fun w => w.heap[g]? = some o
 loc := fun w w' hk h => (hk g rfl).trans h
 lt := fun w k h hk => by subst hk; exact lt_of_get h
def ob (g : Nat) (o : Obj) : Ch := .op (objQ g o)
theorem alloc_old {w : World} {o : Obj} {k : Nat} (hk : k < w.heap.size) : (w.alloc o).heap[k]? = w.heap[k]? := by
 show (w.heap.push o)[k]? = _; rw [Array.getElem?_push, if_neg (by omega)]
/-! ### from the plain walk into a fence that lets all in -/
structure AsWide (F : Fence) : Prop where
 fn : ∀ f, F.fn f
 depth : F.depth = none
 calls : ∀ {n : Nat} {P : Program} {f : FuncId} {args : Array Value} {w : World} {R : Ending → World → Prop}, Calls P f args w R → CallsIn F n P f args w R
 rows : ∀ {n : Nat} {P : Program} {row : String} {args : Array Value} {w : World} {R : Value → World → Prop}, Rows P row args w R → RowsIn F n P row args w R
/-! ### a function that holds one -/
def QM (P : Program) (fn : Func) (w0 : World) (pre : Hp) (R : Value → Hp → Prop) : Exit → Act → World → Prop := fun e a w => (e = .normal ∨ e = .ret) ∧ ∃ D w', a.defers = [{ target := .collected D, args := #[] }] ∧ (Instr.takeDeferred D).run P w = .ok [] w' ∧ ∃ v, (results fn a.tmps).run P w' = .ok v w' ∧ Post w0 pre R (.returned v) w'
instance {fn : Func} {w0 : World} {pre : Hp} {R : Value → Hp → Prop} : PanicOk (QM P fn w0 pre R) := ⟨fun c a a' w _ h => by obtain ⟨h, _⟩ := h; rcases h with h | h <;> cases h⟩
end Go.Sx
namespace Go.Sx
open Go
variable {Γ : Cx} {s : St}
theorem ent_ro {fr : Fr} {hp rest : Hp} {c' : Ch} (hh : ∀ w, HL hp w → c'.holds w) (ho : ∀ w, HL hp w → ∀ k, c'.own k → ∃ c ∈ hp, c.own k) (hr : ¬ c'.rw) : Ent Γ ⟨fr, hp ++ rest⟩ ⟨fr, c' :: rest⟩ := fun a w h => by
 obtain ⟨h1, h2, h3⟩ := h.hs.split
 have hl : HL hp w := h1.holds
 refine ⟨h.size, h.defers, h.fr, ⟨fun c hc => ?_, List.pairwise_cons.2 ⟨fun d hd => ?_, h2.apart⟩⟩, h.ext, fun c hc hcr k hk => ?_⟩
 ·rcases List.mem_cons.1 hc with rfl | hc
  ·exact hh w hl
  ·exact h2.holds c hc
 ·by_cases hdr : d.rw
  ·refine .inr fun k hk hdk => ?_
   obtain ⟨c, hc, hck⟩ := ho w hl k hk
   rcases h3 c hc d hd with ⟨_, h5⟩ | h5
   ·exact h5 hdr
   ·exact h5 k hck hdk
  ·exact .inl ⟨hr, hdr⟩
 ·rcases List.mem_cons.1 hc with rfl | hc
  ·exact absurd hcr hr
  ·exact h.bd c (List.mem_append.2 (.inr hc)) hcr k hk
def bagQ (hp : Hp) : Oq where
 own := fun k => ∃ c ∈ hp, c.own k
 rw := False
 holds := fun w => ∀ c ∈ hp, c.holds w
 loc := fun w w' hk h c hc => c.loc (fun k hck => hk k ⟨c, hc, hck⟩) (h c hc)
 lt := fun w k h ⟨c, hc, hck⟩ => c.lt (h c hc) hck
def bag (hp : Hp) : Ch := .op (bagQ hp)
theorem view_bag {hp : Hp} : View (star hp) (bag hp) := ⟨fun w h => h.1.holds, fun w h k hk => hk, fun h => h⟩
theorem view_in {hp : Hp} {c c' : Ch} (hc : c ∈ hp) (v : View c c') : View (bag hp) c' := ⟨fun w h => v.holds w (h c hc), fun w h k hk => ⟨c, hc, v.own w (h c hc) k hk⟩, v.ro⟩
theorem ent_bag {fr : Fr} {hp rest : Hp} : Ent Γ ⟨fr, hp ++ rest⟩ ⟨fr, bag hp :: rest⟩ := ent_ro (fun w h => h) (fun w h k hk => hk) (fun h => h)
theorem view_self {hp : Hp} : View (bag hp) (bag hp) := ⟨fun w h => h, fun w h k hk => hk, fun h => h⟩
end Go.Sx
namespace Go.Sx
open Go
variable {Γ : Cx} {s : St} {Q : Exit → Act → World → Prop}
theorem ent_perm {fr : Fr} {hp hp' : Hp} (e : hp.Perm hp') : Ent Γ ⟨fr, hp⟩ ⟨fr, hp'⟩ := fun a w h =>
 ⟨h.size, h.defers, h.fr, h.hs.perm e, h.ext, fun c hc => h.bd c (e.mem_iff.2 hc)⟩
theorem ent_star_snoc {fr : Fr} {l rest : Hp} {c : Ch} (hc : c.rw) : Ent Γ ⟨fr, star l :: c :: rest⟩ ⟨fr, star (l ++ [c]) :: rest⟩ := fun a w hS => by
 have hrw : ∀ c ∈ l, c.rw := (hS.hs.holds (star l) (List.mem_cons_self ..)).2
 have h1 := ent_unstar a w hS
 have h2 : Sat Γ ⟨fr, (l ++ [c]) ++ rest⟩ a w := by rw [List.append_assoc]; exact h1
 refine ent_star (fun d hd => ?_) a w h2
 rcases List.mem_append.1 hd with hd | hd
 ·exact hrw d hd
 ·rw [List.mem_singleton.1 hd]; exact hc
theorem ent_star_nil {fr : Fr} {rest : Hp} : Ent Γ ⟨fr, rest⟩ ⟨fr, star [] :: rest⟩ := fun a w hS =>
 ent_star (hp := []) (fun c hc => by cases hc) a w hS
theorem ent_bag_nil {fr : Fr} {rest : Hp} : Ent Γ ⟨fr, rest⟩ ⟨fr, bag [] :: rest⟩ := ent_bag (hp := []) (rest := rest)
theorem view_sub {l l' : Hp} (h : ∀ c' ∈ l', ∃ c ∈ l, (∀ w, c.holds w → c'.holds w) ∧ ∀ w, c.holds w → ∀ k, c'.own k → c.own k) : View (bag l) (bag l') :=
 ⟨fun w hw c' hc' => by obtain ⟨c, hc, h1, _⟩ := h c' hc'; exact h1 w (hw c hc), fun w hw k ⟨c', hc', hk⟩ => by
  obtain ⟨c, hc, _, h2⟩ := h c' hc'
  exact ⟨c, hc, h2 w (hw c hc) k hk⟩, fun h => h⟩
theorem view_star_sub {l l' : Hp} (h : ∀ c' ∈ l', ∃ c ∈ l, (∀ w, c.holds w → c'.holds w) ∧ ∀ w, c.holds w → ∀ k, c'.own k → c.own k) : View (star l) (bag l') := view_bag.trans (view_sub h)
end Go.Sx
namespace Go.Sx
open Go
variable {Γ : Cx} {s : St} {Q : Exit → Act → World → Prop}
/-! ### deferred calls -/
def DoesD (P : Program) (f : FuncId) (args : List Value) (pre : Hp) (R : Value → Hp → Prop) : Prop :=
 ∀ (u : FrameMode) (w : World), HS pre w → CallsD P f args.toArray u w fun e u' w' => u' = u ∧ Post w pre R e w'
theorem enter_sat {P : Program} {fn : Func} {args : List Value} {pre : Hp} (nt : Nat) (hnt : args.length + (fn.ntmps - args.length) = nt) {w : World} (hw : HS pre w) :
  Sat ⟨P, w, foot pre, nt, []⟩ ⟨enum 0 args, pre⟩ { tmps := args.toArray ++ Array.replicate (fn.ntmps - args.toArray.size) undef, defers := [] } w := by
 refine ⟨by simp [hnt], rfl, fun i v hi => ?_, hw, Ext.refl _ _, Bd.self _ _⟩
 obtain ⟨_, h1⟩ := look_enum _ _ _ _ hi
 simp only [Nat.sub_zero] at h1
 obtain ⟨hlt, h2⟩ := List.getElem?_eq_some_iff.1 h1
 simp [Array.getD_eq_getD_getElem?, Array.getElem?_append, hlt, h2]
theorem fn_enter_d {P : Program} {f : FuncId} {fn : Func} {c : Code} {args : List Value} {pre : Hp} {R : Value → Hp → Prop} (hf : P.funcs[f]? = some fn) (hb : fn.body = some c)
  (nt : Nat) (hnt : args.length + (fn.ntmps - args.length) = nt) (h : ∀ w0, HS pre w0 → WpC ⟨P, w0, foot pre, nt, []⟩ c ⟨enum 0 args, pre⟩ (bodyPost P fn (Post w0 pre R))) : DoesD P f args pre R := fun u w hw =>
 callsD_of_wp hf hb (h w hw _ w (enter_sat nt hnt hw))
theorem fn_enter_def {P : Program} {f : FuncId} {fn : Func} {c : Code} {args : List Value} {pre : Hp} {R : Value → Hp → Prop} (hf : P.funcs[f]? = some fn) (hb : fn.body = some c)
  (nt : Nat) (hnt : args.length + (fn.ntmps - args.length) = nt) (h : ∀ w0, HS pre w0 → WpC ⟨P, w0, foot pre, nt, []⟩ c ⟨enum 0 args, pre⟩ (bodyPostD P fn (Post w0 pre R))) : Does P f args pre R := fun w hw =>
 calls_of_wp_defers hf hb (h w hw _ w (enter_sat nt hnt hw))
def deferOf (P : Program) (ops : Array Oper) (nt : Nat) (i : Nat) (fr : Fr) : Option (FuncId × Array Value × Array Value) :=
 match opAt ops nt i fr with
 | some o => match o.dst, sread P (execOp (ev fr) o) [] [] with
  | none, some (.defer ⟨.fn (.func f) caps, args⟩, [], [], []) => some (f, caps, args)
  | _, _ => none
 | none => none
theorem wpr_defer {ops : Array Oper} {i : Nat} {l₂ : List Nat} {f : FuncId} {caps args : Array Value} (hc : deferOf Γ.P ops Γ.nt i s.fr = some (f, caps, args))
  (h : WpR { Γ with ds := { target := .fn (.func f) caps, args := args } :: Γ.ds } ops l₂ s Q) : WpR Γ ops (i :: l₂) s Q := fun a w hS => by
 show wpOp Γ.P ops Q i (fun a w => wpOps Γ.P ops Q l₂ a w) a w
 unfold deferOf opAt at hc
 unfold wpOp
 cases hoi : ops[i]? with
 | none => rw [hoi] at hc; cases hc
 | some o =>
  rw [hoi] at hc
  simp only at hc ⊢
  split at hc
  case h_2 => cases hc
  case h_1 o' ho' =>
   split at ho'
   case h_2 => cases ho'
   case h_1 hd hw hk =>
    simp only [Option.some.injEq] at ho'
    subst ho'
    split at hc
    case h_2 => cases hc
    case h_1 f' caps' args' hdst hr =>
     simp only [Option.some.injEq, Prod.mk.injEq] at hc
     obtain ⟨rfl, rfl, rfl⟩ := hc
     rw [wants_ok hS.fr hw]
     simp only [if_true]
     refine .inl ?_
     unfold Oper.wp
     have hrun : (execOp (ev s.fr) o).run Γ.P w = .ok (.defer ⟨.fn (.func f') caps', args'⟩) w := sread_sound _ _ _ _ _ _ _ hr rfl w (fun c hc => by cases hc)
     rw [ev_eq hS.fr hk, hrun]
     rw [Oper.upon_defer, hdst]
     refine h _ w ⟨hS.size, ?_, hS.fr, hS.hs, hS.ext, hS.bd⟩
     show _ :: a.defers = _
     rw [hS.defers]
def Lv (P : Program) (w0 : World) (pre : Hp) (nt : Nat) (fn : Func) (R : Value → Hp → Prop) (ds : List Deferred) (s : St) : Prop :=
 ∀ (all : List Deferred) (a : Act) (w : World), Sat ⟨P, w0, foot pre, nt, all⟩ s a w → Leaves P fn a.tmps (Post w0 pre R) ds .returning w
theorem nx_lv {P : Program} {w0 : World} {pre : Hp} {nt : Nat} {fn : Func} {R : Value → Hp → Prop} {ds : List Deferred} {e : Exit} (he : e = .normal ∨ e = .ret) (h : Lv P w0 pre nt fn R ds s) : Nx ⟨P, w0, foot pre, nt, ds⟩ s (bodyPostD P fn (Post w0 pre R)) e := fun a w hS => by
 have h1 := h _ a w hS
 have hd : a.defers = ds := hS.defers
 rcases he with rfl | rfl
 ·show Leaves P fn a.tmps _ a.defers _ w
  rw [hd]; exact h1
 ·show Leaves P fn a.tmps _ a.defers _ w
  rw [hd]; exact h1
theorem lv_cons {P : Program} {w0 : World} {pre : Hp} {nt : Nat} {fn : Func} {R : Value → Hp → Prop} {ds : List Deferred} {f : FuncId} {caps args : Array Value} (he : enters P f = true)
  {pre' rest : Hp} {R' : Value → Hp → Prop} (hf : DoesD P f (args.toList ++ caps.toList) pre' R') (g : Give s.hp pre' rest) (h : ∀ v hp', R' v hp' → Lv P w0 pre nt fn R ds ⟨s.fr, hp' ++ rest⟩) :
  Lv P w0 pre nt fn R ({ target := .fn (.func f) caps, args := args } :: ds) s := fun all a w hS => by
 obtain ⟨hs1, hs2, hs3⟩ := g.sat w hS.hs
 refine leaves_cons (f := f) (args := args ++ caps) (by simp) (by simp [invoke, run_enters he]) ?_
 have el : (args.toList ++ caps.toList).toArray = args ++ caps := by apply Array.ext'; simp
 rw [← el]
 refine (hf .returning w hs1).mono ?_
 rintro e u' w' ⟨rfl, v, hp', hR, rfl, hhs, hx, hb, hr'⟩
 obtain ⟨b1, b2, b3⟩ := hS.behind g hhs hx hb hr'
 exact h v hp' hR all a w' ⟨hS.size, hS.defers, hS.fr, b1, b2, b3⟩
theorem lv_nil {P : Program} {w0 : World} {pre : Hp} {nt : Nat} {fn : Func} {R : Value → Hp → Prop} (v : Value) (hv : resOf P fn s.fr [] [] = some (v, [], [], [])) {hp' rest : Hp} (g : Give s.hp hp' rest) (hrw : AllRw hp') (hR : R v hp') :
  Lv P w0 pre nt fn R [] s := fun all a w hS => by
 have hS0 : Sat ⟨P, w0, foot pre, nt, all⟩ ⟨s.fr, []⟩ a w := ⟨hS.size, hS.defers, hS.fr, ⟨fun c hc => (by cases hc), List.Pairwise.nil⟩, hS.ext, fun c hc => by cases hc⟩
 have hres := resOf_sound (Γ := ⟨P, w0, foot pre, nt, all⟩) (s := ⟨s.fr, []⟩) hv rfl hS0
 refine ⟨v, hres, v, hp', hR, rfl, (g.sat w hS.hs).1, hS.ext, fun c hc hcr k hk => ?_, allRw_mem hrw⟩
 obtain ⟨d, hd, hdr, hdk⟩ := g.foot k ⟨c, hc, hcr, hk⟩
 exact hS.bd d hd hdr k hdk
end Go.Sx
namespace Go.Sx
open Go
variable {Γ : Cx} {s : St} {Q : Exit → Act → World → Prop}
theorem storeCells_row {P : Program} {w : World} {vs : List Value} (h1 : Sx.One vs) {T sz n cap g off q : Nat} {xs : List Value} (hr : rowH T sz (some ⟨g, off, none⟩) n cap xs w) (hq : q + vs.length ≤ xs.length) :
  (storeCells ⟨g, off + q, none⟩ vs).run P w = .ok () (w.setCells g (off + q) vs) ∧ rowH T sz (some ⟨g, off, none⟩) n cap (xs.take q ++ vs ++ xs.drop (q + vs.length)) (w.setCells g (off + q) vs) := by
 obtain ⟨k1, k2, k3, k4, k5⟩ := hr
 by_cases hvs0 : vs = []
 ·subst hvs0
  have hst := run_storeCells_cells (P := P) g (off + q) [] 0 w (fun j hj => absurd hj (by simp)) (fun j hj => absurd hj (by simp)) (fun u hu => by cases hu)
  simp only [Nat.add_zero] at hst
  refine ⟨hst, ?_⟩
  have e1 : xs.take q ++ [] ++ xs.drop (q + ([] : List Value).length) = xs := by simp
  rw [e1]; exact ⟨k1, k2, k3, k4, k5⟩
 rcases k5 with ⟨h, _⟩ | ⟨g', off', cur, fz, ha, hg, hs, hx, hfz⟩
 ·have hn : n = 0 := by omega
  rw [hn, Nat.zero_mul] at k1
  have : 0 < vs.length := List.length_pos_iff.2 hvs0
  omega
 ·cases ha
  have hns : n * sz ≤ cap * sz := Nat.mul_le_mul_right _ k2
  have hst := run_storeCells_cells (P := P) g (off + q) vs 0 w
   (fun j hj => by simp only [World.cell?, hg]; simp [show off + q + j < cur.size by omega])
   (fun j hj => by
    have h9 := hfz (off + q + 0 + j) (by omega)
    simp only [World.frozen?, hg]
    simp only [Bool.and_eq_false_iff, decide_eq_false_iff_not]
    omega) h1
  simp only [Nat.add_zero] at hst
  have hset := setCells_heap (news := vs) hg (show off + q + vs.length ≤ cur.size by omega)
  refine ⟨hst, ?_, k2, k3, ?_, .inr ⟨g, off, _, fz, rfl, hset, ?_, ?_, ?_⟩⟩
  ·simp only [List.length_append, List.length_take, List.length_drop]; omega
  ·intro u hu
   rcases List.mem_append.1 hu with hu | hu
   ·rcases List.mem_append.1 hu with hu | hu
    ·exact k4 u (List.mem_of_mem_take hu)
    ·exact h1 u hu
   ·exact k4 u (List.mem_of_mem_drop hu)
  ·simp only [List.size_toArray, List.length_append, List.length_take, List.length_drop, Array.length_toList]; omega
  ·have e1 : (cur.toList.take (off + q)).drop off = xs.take q := by
    rw [List.drop_take, Nat.add_sub_cancel_left, ← hx, List.take_take, Nat.min_eq_left (by omega)]
   have e2 : (cur.toList.take (off + q) ++ vs ++ cur.toList.drop (off + q + vs.length)).drop off = xs.take q ++ vs ++ cur.toList.drop (off + q + vs.length) := by
    rw [List.append_assoc, List.drop_append_of_le_length (by simp; omega), e1, List.append_assoc]
   have e3 : xs.drop (q + vs.length) = (cur.toList.drop (off + q + vs.length)).take (n * sz - (q + vs.length)) := by
    rw [← hx, List.drop_take, List.drop_drop, Nat.add_assoc]
   simp only [e2, e3]
   rw [List.take_append, List.take_of_length_le (by simp; omega)]
   congr 2
   simp only [List.length_append, List.length_take]
   omega
  ·intro o ho
   refine hfz o ?_
   simp only [List.size_toArray, List.length_append, List.length_take, List.length_drop, Array.length_toList] at ho
   omega
def copyOf (ops : Array Oper) (nt : Nat) (i : Nat) (fr : Fr) : Option (Value × Value × TypeId × Option Nat) :=
 match opAt ops nt i fr with
 | some o => match o.op with
  | .call c => match c.callee, c.args.toList, c.argTypes.toList with
   | .builtin .copy, [x, y], [t, _] => some (ev fr x, ev fr y, t, o.dst)
   | _, _, _ => none
  | _ => none
 | none => none
def elTy (P : Program) (t : TypeId) : Option (TypeId × Nat) :=
 match P.underlying t with
 | some (.slice e) => match P.info? e with
  | some i => some (e, i.size)
  | none => none
 | _ => none
theorem step_copy {ops : Array Oper} {i : Nat} {g off q dl dc : Nat} {x : Value} {t : TypeId} {dst : Option Nat} (hc : copyOf ops Γ.nt i s.fr = some (.slice (some ⟨g, off + q, none⟩) dl dc, x, t, dst)) {e sz : Nat} (ht : elTy Γ.P t = some (e, sz))
  (p : Nat) {T n cap : Nat} {xs : List Value} (hp : s.hp[p]? = some (row T sz (some ⟨g, off, none⟩) n cap xs)) {m : Nat} {news : List Value} (hsrc : ∀ w, HS s.hp w → srcOk w sz x m news) (hm : m ≤ dl) (hq : q + m * sz ≤ xs.length)
  {xs' : List Value} (hx : xs.take q ++ news ++ xs.drop (q + news.length) = xs') :
  Step Γ ops i s (fun s' => s' = ⟨putFr s.fr dst (.int .i64 (m : Int)), s.hp.set p (row T sz (some ⟨g, off, none⟩) n cap xs')⟩) := by
 subst hx
 unfold copyOf at hc
 split at hc
 case h_2 => cases hc
 case h_1 o ho =>
  split at hc
  case h_2 => cases hc
  case h_1 cl hop =>
   split at hc
   case h_2 => cases hc
   case h_1 a b t' t2 hcal hargs hts =>
    simp only [Option.some.injEq, Prod.mk.injEq] at hc
    obtain ⟨ha, hb, rfl, rfl⟩ := hc
    have e1 : cl.args = #[a, b] := by apply Array.ext'; simpa using hargs
    have e2 : cl.argTypes = #[t', t2] := by apply Array.ext'; simpa using hts
    unfold elTy at ht
    split at ht
    case h_2 => cases ht
    case h_1 e' hu =>
     split at ht
     case h_2 => cases ht
     case h_1 inf hi =>
      simp only [Option.some.injEq, Prod.mk.injEq] at ht
      obtain ⟨rfl, rfl⟩ := ht
      intro Q b' w' hS K hK
      refine step_sem ho (fun v hp' => v = .int .i64 (m : Int) ∧ hp' = s.hp.set p (row T inf.size (some ⟨g, off, none⟩) n cap (xs.take q ++ news ++ xs.drop (q + news.length)))) (fun w hw => ?_) Q b' w' hS K (fun s' ⟨v, hp', ⟨h1, h2⟩, h3⟩ => hK s' (by rw [h3, h1, h2]))
      have hs := hsrc w hw
      have hnl := src_len hs
      have hrow := hw.holds _ (List.mem_of_getElem? hp)
      obtain ⟨h2, h3⟩ := storeCells_row (P := Γ.P) (vs := news) (q := q) hs.1 hrow (by omega)
      obtain ⟨z1, z2, z3, z4⟩ := setCells_size (g := g) (news := news) (k := off + q) (w := w)
      have hrest : ∀ k, ¬ (0 < cap ∧ rowOwn (some ⟨g, off, none⟩) k) → k < w.heap.size → (w.setCells g (off + q) news).heap[k]? = w.heap[k]? := fun k hk _ => by
       by_cases hvs0 : news = []
       ·subst hvs0; rfl
       ·refine setCells_other (fun e => hk ⟨?_, _, rfl, e.symm⟩)
        obtain ⟨r1, r2, _⟩ := hrow
        have hl : 0 < news.length := List.length_pos_iff.2 hvs0
        rcases Nat.eq_zero_or_pos cap with hc | hc
        ·have hn : n = 0 := by omega
         rw [hn, Nat.zero_mul] at r1; omega
        ·exact hc
      refine ⟨.value (.int .i64 (m : Int)), _, _, _, ?_, .inl rfl, ⟨rfl, rfl⟩, hw.put (c' := row T inf.size (some ⟨g, off, none⟩) n cap (xs.take q ++ news ++ xs.drop (q + news.length))) hp trivial (fun k h => .inl h) h3 hrest, ?_, Bd.put (c' := row T inf.size (some ⟨g, off, none⟩) n cap (xs.take q ++ news ++ xs.drop (q + news.length))) hp trivial (fun k h => .inl h)⟩
      ·have hlen := src_lenOf (P := Γ.P) hs w
       have hfirst := src_first (P := Γ.P) (w' := w) hs (fun _ => rfl)
       have hmin : Nat.min m dl = m := Nat.min_eq_left hm
       simp only [execOp, hop, resolve, hcal, e1, e2, invoke, builtin, Sem.run_bind, Sem.run_pure, Result.andThen_ok, List.map_toArray, List.map_cons, List.map_nil, ha, hb]
       simp [Builtin.copy_, run_underlying hu, hlen, hmin, sizeOf, typeInfo, hi, hfirst, h2, goInt]
      ·exact ⟨z2, z3, z4, by rw [z1]; exact Nat.le_refl _, fun k hk hf => hrest k (fun ho => hf ⟨_, List.mem_of_getElem? hp, trivial, ho⟩) hk⟩
def makeOf (ops : Array Oper) (nt : Nat) (i : Nat) (fr : Fr) : Option (TypeId × Value × Value × Option Nat) :=
 match opAt ops nt i fr with
 | some o => match o.op with
  | .makeSlice t l c => some (t, ev fr l, ev fr c, o.dst)
  | _ => none
 | none => none
def mrowTy (P : Program) (t : TypeId) : Option (TypeId × Nat × Nat) :=
 match P.underlying t with
 | some (.slice e) => match P.info? e with
  | some i => match i.zero with
   | some z => match z.cells.size == i.size, (0).blt i.size, z.cells.toList.all (fun v => v.oneCell') with | true, true, true => some (e, i.size, i.bytes) | _, _, _ => none
   | none => none
  | none => none
 | _ => none
theorem step_make {ops : Array Oper} {i : Nat} {m : Nat} {t : TypeId} {dst : Option Nat} (hc : makeOf ops Γ.nt i s.fr = some (t, .int .i64 (m : Int), .int .i64 (m : Int), dst)) {e sz bytes : Nat} (ht : mrowTy Γ.P t = some (e, sz, bytes))
  (h63 : m ≤ 1099511627776) (hb : bytes * m ≤ 140737488355328) :
  Step Γ ops i s (fun s' => ∃ g zs, zs.length = m * sz ∧ s' = ⟨putFr s.fr dst (.slice (some ⟨g, 0, none⟩) m m), s.hp ++ [row e sz (some ⟨g, 0, none⟩) m m zs]⟩) := by
 unfold makeOf at hc
 split at hc
 case h_2 => cases hc
 case h_1 o ho =>
  split at hc
  case h_2 => cases hc
  case h_1 t' l c hop =>
   simp only [Option.some.injEq, Prod.mk.injEq] at hc
   obtain ⟨rfl, hl, hcc, rfl⟩ := hc
   unfold mrowTy at ht
   split at ht
   case h_2 => cases ht
   case h_1 e' hu =>
    split at ht
    case h_2 => cases ht
    case h_1 inf hi =>
     split at ht
     case h_2 => cases ht
     case h_1 z hz =>
      split at ht
      case h_2 => cases ht
      case h_1 hzs hsz hz1 =>
       simp only [Option.some.injEq, Prod.mk.injEq] at ht
       obtain ⟨rfl, rfl, rfl⟩ := ht
       have hzs : z.cells.size = inf.size := by simpa using hzs
       have hsz : 0 < inf.size := Nat.le_of_ble_eq_true hsz
       intro Q bb ww hS K hK
       refine step_sem ho (fun v hp' => ∃ g zs, zs.length = m * inf.size ∧ v = .slice (some ⟨g, 0, none⟩) m m ∧ hp' = s.hp ++ [row e' inf.size (some ⟨g, 0, none⟩) m m zs]) (fun w hw => ?_) Q bb ww hS K ?_
       ·have hb' : (inf.bytes : Int) * (m : Int) ≤ 281474976710656 := by
         have h : ((inf.bytes * m : Nat) : Int) ≤ 281474976710656 := by omega
         rwa [Int.natCast_mul] at h
        have hrun := run_make (P := Γ.P) w t' e' inf z hu hi hz .i64 .i64 m m (by omega) (Int.le_refl _) hb' (by omega)
        simp only [Int.toNat_natCast] at hrun
        have hlen : (madeCells z.cells (m * inf.size)).toList.length = m * inf.size := by simp [madeCells]
        have hone : Sx.One (madeCells z.cells (m * inf.size)).toList := by
         intro u hu'
         simp only [madeCells, Array.toList_map, List.mem_map, Array.toList_range, List.mem_range] at hu'
         obtain ⟨j, hj, rfl⟩ := hu'
         have hlt := Nat.mod_lt j (show 0 < z.cells.size by omega)
         rw [getElem!_pos z.cells (j % z.cells.size) hlt]
         exact List.all_eq_true.1 hz1 _ (by simp)
        have hold : ∀ k, k < w.heap.size → (w.alloc (.cells (madeCells z.cells (m * inf.size)) e')).heap[k]? = w.heap[k]? := fun k hk => by
         show (w.heap.push _)[k]? = _; rw [Array.getElem?_push, if_neg (by omega)]
        refine ⟨_, _, s.hp ++ [row e' inf.size (some ⟨w.heap.size, 0, none⟩) m m (madeCells z.cells (m * inf.size)).toList], w.alloc (.cells (madeCells z.cells (m * inf.size)) e'), ?_, .inl rfl, ⟨w.heap.size, _, hlen, rfl, rfl⟩, ?_, ?_, ?_⟩
        ·simp only [execOp, hop, hl, hcc, hrun, Sem.run_bind, Sem.run_pure, Result.andThen_ok]
        ·refine hw.append hold ⟨hlen, Nat.le_refl _, by unfold maxLen; omega, hone, .inr ⟨w.heap.size, 0, madeCells z.cells (m * inf.size), (0, 0), rfl, Array.getElem?_push_size, ?_, ?_, fun o ho' h => by omega⟩⟩ (fun k ⟨_, ad, h1, h2⟩ => by cases h1; exact Nat.le_of_eq h2)
         ·rw [size_madeCells]; omega
         ·rw [List.drop_zero, List.take_of_length_le (by rw [hlen]; omega)]
        ·exact ⟨rfl, rfl, rfl, by show w.heap.size ≤ (w.heap.push _).size; simp, fun k hk _ => hold k hk⟩
        ·intro c hcm hcr k hk
         rcases List.mem_append.1 hcm with hcm | hcm
         ·exact .inl ⟨c, hcm, hcr, hk⟩
         ·rw [List.mem_singleton.1 hcm] at hk
          obtain ⟨_, ad, h1, h2⟩ := hk
          cases h1; exact .inr (Nat.le_of_eq h2)
       ·rintro s' ⟨v, hp', ⟨g, zs, h0, h1, h2⟩, h3⟩
        exact hK s' ⟨g, zs, h0, by rw [h3, h1, h2]⟩
theorem wpr_make {ops : Array Oper} {i : Nat} {l₂ : List Nat} {m : Nat} {t : TypeId} {dst : Option Nat} (hc : makeOf ops Γ.nt i s.fr = some (t, .int .i64 (m : Int), .int .i64 (m : Int), dst)) {e sz bytes : Nat} (ht : mrowTy Γ.P t = some (e, sz, bytes))
  (h63 : m ≤ 1099511627776) (hb : bytes * m ≤ 140737488355328)
  (h : ∀ g zs, zs.length = m * sz → WpR Γ ops l₂ ⟨putFr s.fr dst (.slice (some ⟨g, 0, none⟩) m m), s.hp ++ [row e sz (some ⟨g, 0, none⟩) m m zs]⟩ Q) : WpR Γ ops (i :: l₂) s Q :=
 wpr_step (step_make hc ht h63 hb) fun s' ⟨g, zs, h0, h1⟩ => by rw [h1]; exact h g zs h0
end Go.Sx
namespace Go.Sx
open Go
variable {Γ : Cx} {s : St} {Q : Exit → Act → World → Prop}
def itS (g : Nat) (l : List UInt8) (pos : Nat) : Ch := ob g (.stringIter (mkS l) pos)
def rngOf (P : Program) (ops : Array Oper) (nt : Nat) (i : Nat) (fr : Fr) : Option (Value × Option Nat) :=
 match opAt ops nt i fr with
 | some o => match o.op with
  | .range t x => match P.underlying t with
   | some .string => some (ev fr x, o.dst)
   | _ => none
  | _ => none
 | none => none
theorem step_rng {ops : Array Oper} {i : Nat} {l : List UInt8} {dst : Option Nat} (hc : rngOf Γ.P ops Γ.nt i s.fr = some (.string (mkS l), dst)) :
  Step Γ ops i s (fun s' => ∃ g, s' = ⟨putFr s.fr dst (.pointer (some ⟨g, 0, none⟩)), s.hp ++ [itS g l 0]⟩) := by
 unfold rngOf at hc
 split at hc
 case h_2 => cases hc
 case h_1 o ho =>
  split at hc
  case h_2 => cases hc
  case h_1 t x hop =>
   split at hc
   case h_2 => cases hc
   case h_1 hu =>
    simp only [Option.some.injEq, Prod.mk.injEq] at hc
    obtain ⟨hx, rfl⟩ := hc
    intro Q b' w' hS K hK
    refine step_sem ho (fun v hp' => ∃ g, v = .pointer (some ⟨g, 0, none⟩) ∧ hp' = s.hp ++ [itS g l 0]) (fun w hw => ?_) Q b' w' hS K (fun s' ⟨v, hp', ⟨g, h1, h2⟩, h3⟩ => hK s' ⟨g, by rw [h3, h1, h2]⟩)
    have hold : ∀ k, k < w.heap.size → (w.alloc (.stringIter (mkS l) 0)).heap[k]? = w.heap[k]? := fun k hk => alloc_old hk
    refine ⟨_, _, s.hp ++ [itS w.heap.size l 0], w.alloc (.stringIter (mkS l) 0), ?_, .inl rfl, ⟨w.heap.size, rfl, rfl⟩, hw.append hold (World.alloc_heap_new w _) (fun k hk => Nat.le_of_eq (Eq.symm hk)), ?_, ?_⟩
    ·simp only [execOp, hop, hx, Instr.range, run_underlying hu, newObj, Sem.run_bind, Sem.run_pure, Result.andThen_ok, Sem.run]
     rfl
    ·exact ⟨rfl, rfl, rfl, by show w.heap.size ≤ (w.heap.push _).size; simp, fun k hk _ => hold k hk⟩
    ·intro c hcm hcr k hk
     rcases List.mem_append.1 hcm with hcm | hcm
     ·exact .inl ⟨c, hcm, hcr, hk⟩
     ·rw [List.mem_singleton.1 hcm] at hk
      exact .inr (Nat.le_of_eq (Eq.symm hk))
def nxtOf (ops : Array Oper) (nt : Nat) (i : Nat) (fr : Fr) : Option (Value × Option Nat) :=
 match opAt ops nt i fr with
 | some o => match o.op with
  | .next x true => some (ev fr x, o.dst)
  | _ => none
 | none => none
theorem step_nxt_end {ops : Array Oper} {i g : Nat} {l : List UInt8} {pos : Nat} {dst : Option Nat} (hc : nxtOf ops Γ.nt i s.fr = some (.pointer (some ⟨g, 0, none⟩), dst)) (p : Nat) (hp : s.hp[p]? = some (itS g l pos)) (hn : l.length ≤ pos) :
  Step Γ ops i s (fun s' => s' = ⟨putFr s.fr dst (.tuple #[.bool false]), s.hp⟩) := by
 unfold nxtOf at hc
 split at hc
 case h_2 => cases hc
 case h_1 o ho =>
  split at hc
  case h_2 => cases hc
  case h_1 x hop =>
   simp only [Option.some.injEq, Prod.mk.injEq] at hc
   obtain ⟨hx, rfl⟩ := hc
   intro Q b' w' hS K hK
   refine step_sem ho (fun v hp' => v = .tuple #[.bool false] ∧ hp' = s.hp) (fun w hw => ⟨_, _, _, w, ?_, .inl rfl, ⟨rfl, rfl⟩, hw, Ext.refl _ _, Bd.self _ _⟩) Q b' w' hS K (fun s' ⟨v, hp', ⟨h1, h2⟩, h3⟩ => hK s' (by rw [h3, h1, h2]))
   have hk : w.heap[g]? = some (.stringIter (mkS l) pos) := hw.holds _ (List.mem_of_getElem? hp)
   simp only [execOp, hop, hx, Go.Lib.run_next_end_at w g (mkS l) pos _ hk (by rw [mkS_size]; omega), Sem.run_bind, Sem.run_pure, Result.andThen_ok]
theorem step_nxt {ops : Array Oper} {i g : Nat} {l : List UInt8} {pos : Nat} {dst : Option Nat} (hc : nxtOf ops Γ.nt i s.fr = some (.pointer (some ⟨g, 0, none⟩), dst)) (p : Nat) (hp : s.hp[p]? = some (itS g l pos)) (hn : pos < l.length) :
  Step Γ ops i s (fun s' => s' = ⟨putFr s.fr dst (.tuple #[.bool true, .int .i64 (pos : Int), .int .i32 (Utf8.decode (mkS l) pos).1]), s.hp.set p (itS g l (pos + (Utf8.decode (mkS l) pos).2))⟩) := by
 unfold nxtOf at hc
 split at hc
 case h_2 => cases hc
 case h_1 o ho =>
  split at hc
  case h_2 => cases hc
  case h_1 x hop =>
   simp only [Option.some.injEq, Prod.mk.injEq] at hc
   obtain ⟨hx, rfl⟩ := hc
   intro Q b' w' hS K hK
   refine step_sem ho (fun v hp' => v = .tuple #[.bool true, .int .i64 (pos : Int), .int .i32 (Utf8.decode (mkS l) pos).1] ∧ hp' = s.hp.set p (itS g l (pos + (Utf8.decode (mkS l) pos).2))) (fun w hw => ?_) Q b' w' hS K (fun s' ⟨v, hp', ⟨h1, h2⟩, h3⟩ => hK s' (by rw [h3, h1, h2]))
   have hk : w.heap[g]? = some (.stringIter (mkS l) pos) := hw.holds _ (List.mem_of_getElem? hp)
   obtain ⟨p', hp'⟩ : ∃ p', p' = pos + (Utf8.decode (mkS l) pos).2 := ⟨_, rfl⟩
   have hrest : ∀ k, ¬ (itS g l pos).own k → k < w.heap.size → (w.iterAt g (mkS l) p').heap[k]? = w.heap[k]? := fun k hk' _ => by
    show (w.heap.setIfInBounds g _)[k]? = _
    rw [Array.getElem?_setIfInBounds, if_neg (fun e => hk' e.symm)]
   refine ⟨_, _, s.hp.set p (itS g l p'), w.iterAt g (mkS l) p', ?_, .inl rfl, ⟨rfl, by rw [hp']⟩, hw.put (c' := itS g l p') hp trivial (fun k h => .inl h) (Go.Lib.iterAt_heap w g (mkS l) pos p' hk) hrest, ?_, Bd.put (c' := itS g l p') hp trivial (fun k h => .inl h)⟩
   ·rw [hp']
    simp only [execOp, hop, hx, Go.Lib.run_next_any_at w g (mkS l) pos _ hk (by rw [mkS_size]; exact hn), Sem.run_bind, Sem.run_pure, Result.andThen_ok]
   ·exact ⟨rfl, rfl, rfl, by show w.heap.size ≤ (w.heap.setIfInBounds g _).size; simp, fun k hk' hF => hrest k (fun ho => hF ⟨_, List.mem_of_getElem? hp, trivial, ho⟩) hk'⟩
end Go.Sx
namespace Go.Sx
open Go
variable {Γ : Cx} {s : St} {Q : Exit → Act → World → Prop}
end Go.Sx
namespace Go.Proofs.YtgcfomhlgipllaaGreatDoor
open Go Go.Sx
/-! Values and objects, plain; their cells. -/
structure V where
 k : Int
 n : Int
 s : List UInt8
deriving DecidableEq
structure Ob where
 tag : List UInt8
 a : Option Addr
 c : Nat
 cells : List V
abbrev O := List UInt8 × List V
def Ob.o (o : Ob) : O := (o.tag, o.cells)
end Go.Proofs.YtgcfomhlgipllaaGreatDoor
namespace Go.Proofs.YtgcfomhlgipllaaGreatDoor
open Go Go.Sx
/-! Words, letters, names. -/
def wordsL : List (List UInt8) := [[102, 110], [114, 101, 99, 111, 114, 100], [108, 101, 116], [105, 102], [101, 108, 115, 101], [119, 104, 105, 108, 101], [114, 101, 116, 117, 114, 110], [110, 101, 119], [116, 114, 117, 101], [102, 97, 108, 115, 101]]
def strV (x : List UInt8) : Value := .string (mkS x)
def gWords : Ch := ro (some ⟨2, 0, none⟩) (wordsL.map strV)
def isWord (s : List UInt8) : Bool := wordsL.contains s
theorem map_at {α : Type} (f : α → Value) {l : List α} {q : Nat} (hq : q < l.length) : ((l.map f).drop (q * 1)).take 1 = [f l[q]] := by
 rw [Nat.mul_one, List.drop_eq_getElem_cons (by simpa using hq)]
 simp
theorem Word_spec (s : List UInt8) : Does Tryz.prog 137 [.string (mkS s)] [gWords] (fun v hp' => v = .bool (isWord s) ∧ hp' = []) := by
 refine fn_enter Tryz.func137 rfl 13 rfl fun w0 h0 => ?_
 refine SQ (RG ?_)
 refine RR [] .z (.i 2 (.bool false) .a) .a ?_
 refine RZ (NT (SQ (SQ (RG ?_))))
 refine RR [] .z (.i 4 (.int .i64 0) .a) .a ?_
 refine RZ (NT (BK ?_))
 refine wpc_loop (X := {i : Nat // i ≤ 10 ∧ ∀ j, j < i → wordsL[j]? ≠ some s}) (fun x => St.mk [(4, .int .i64 (x.1 : Int)), (2, .bool false), (0, .string (mkS s))] [gWords]) (fun x => 10 - x.1) ⟨0, by omega, fun j h => absurd h (Nat.not_lt_zero _)⟩ (ent_fr (by kernel_rfl)) ?_
 rintro ⟨i, hi, hall⟩
 dsimp only at hi hall ⊢
 refine SQ (RG ?_)
 refine RR [] .z (.i 5 (.bool (decide ((↑i : Int) < (10 : Int)))) .a) .a ?_
 refine RZ (NT (SQ ?_))
 refine wpc_if (((↑i : Int) < 10)) (by kernel_rfl) (fun hlt => ?_) (fun hlt => ?_)
 ·have hil : i < wordsL.length := by show i < 10; omega
  refine SK (NT (SQ (BK (SQ (RG ?_)))))
  refine RR [] .z (.i 3 (.int .i64 (↑i : Int)) (.d (.k .a))) .a ?_
  refine RZ (NT (SQ (RG ?_)))
  refine RV true [] (.d (.d .a)) (.i 8 (.pointer (some ⟨2, 0 + i * 1, none⟩)) (.d (.k .a))) .a [(0 : Int) ≤ (↑i : Int) ∧ (↑i : Int) < (↑(10 : Nat) : Int)] ⟨by omega, trivial⟩ ?_
  refine wpr_eq (ld (t := 9) (a := (⟨2, 0 + i * 1, none⟩)) (dst := some 9) (by kernel_rfl) false 1 (by kernel_rfl) (by simp) [.string (mkS wordsL[i])] rfl (fun w h => ld_ro h 0 rfl (i * 1) (map_at strV hil))) ?_
  refine RR [] .z (.i 11 (.bool (decide (wordsL[i] = s))) (.d (.d (.k .a)))) .a ?_
  refine RZ (NT ?_)
  refine wpc_if ((wordsL[i] = s)) (by kernel_rfl) (fun heq => ?_) (fun heq => ?_)
  ·refine SQ (RG ?_)
   refine RR [] .z (.i 2 (.bool true) (.d (.k (.d (.k .a))))) .a ?_
   refine RZ (NT (RE (BR (TR (TR (BR (TR ?_)))))))
   refine NE [] .z .a [] (.bool true) ?_
   refine ⟨?_, rfl⟩
   have he : wordsL[i] = s := heq
   have h2 : isWord s = true := List.contains_iff_mem.2 (he ▸ List.getElem_mem hil)
   rw [h2]
  ·refine SK (BN (NT (RG ?_)))
   refine RV true [] .z (.i 4 (.int .i64 ((↑i : Int) + 1)) (.d (.d (.k .a)))) .a ([inI64 ((↑i : Int) + (1 : Int))]) ⟨by unfold inI64; omega, trivial⟩ ?_
   refine RZ ?_
   exact fun a' w' hS' => ⟨⟨i + 1, by omega, fun j hj => by
       rcases Nat.lt_or_ge j i with h | h
       ·exact hall j h
       ·obtain rfl : j = i := by omega
        rw [List.getElem?_eq_getElem hil]
        intro h2
        exact heq (Option.some.inj h2)⟩, by dsimp only; omega, ent_fr (by kernel_rfl) _ _ (ent_hp [0] rfl _ _ hS')⟩
 ·refine EX (TE (TE (BH (NT (SQ (RG ?_))))))
  refine RR [] .z (.d (.d (.k .z))) .a ?_
  refine RZ (NT (RE ?_))
  refine NE [] .z .a [] (.bool false) ?_
  refine ⟨?_, rfl⟩
  have h2 : isWord s = false := by
   cases hw : isWord s with
   | false => rfl
   | true =>
    obtain ⟨j, hj⟩ := List.getElem?_of_mem (List.contains_iff_mem.1 hw)
    obtain ⟨hj1, _⟩ := List.getElem?_eq_some_iff.1 hj
    have : j < 10 := hj1
    exact absurd hj (hall j (by omega))
  rw [h2]
def letB (c : UInt8) : Bool := (97 ≤ c.toNat && c.toNat ≤ 122) || (65 ≤ c.toNat && c.toNat ≤ 90) || c.toNat == 95
def digB (c : UInt8) : Bool := 48 ≤ c.toNat && c.toNat ≤ 57
set_option maxRecDepth 20000 in
theorem let32 : ∀ g : Nat, g < 256 → ((decide (97 ≤ g) && decide (g ≤ 122)) || (decide (65 ≤ g) && decide (g ≤ 90)) || g == 95) = ((decide (97 ≤ g ||| 32) && decide (g ||| 32 ≤ 122)) || g == 95) := by decide
theorem or32 (c : UInt8) : IntKind.u8.wrap ↑(BitVec.ofInt IntKind.u8.bits (c.toNat : Int) ||| BitVec.ofInt IntKind.u8.bits 32).toNat = ((c.toNat ||| 32 : Nat) : Int) := by
 have e8 : IntKind.u8.bits = 8 := rfl
 have hc := c.toNat_lt
 have hlt : c.toNat ||| 32 < 2 ^ 8 := Nat.or_lt_two_pow (by omega) (by decide)
 have h1 : (BitVec.ofInt 8 (c.toNat : Int)).toNat = c.toNat := by rw [BitVec.toNat_ofInt]; omega
 rw [e8, BitVec.toNat_or, h1]
 have h2 : (BitVec.ofInt 8 32).toNat = 32 := by decide
 rw [h2]
 unfold IntKind.wrap
 simp [IntKind.signed, IntKind.bits]
 omega
theorem beq95 (c : UInt8) : ((c.toNat : Int) == 95) = (c.toNat == 95) := by rw [Bool.eq_iff_iff, beq_iff_eq, beq_iff_eq]; omega
theorem letter_spec (c : UInt8) : Does Tryz.prog 173 [.int .u8 c.toNat] [] (fun v hp' => v = .bool (letB c) ∧ hp' = []) := by
 have hl : letB c = ((decide (97 ≤ c.toNat ||| 32) && decide (c.toNat ||| 32 ≤ 122)) || c.toNat == 95) := let32 c.toNat c.toNat_lt
 have hD := or32 c
 rw [hl]
 obtain ⟨D, hDD⟩ : ∃ D : Nat, D = c.toNat ||| 32 := ⟨_, rfl⟩
 rw [← hDD] at hD ⊢
 rcases (by omega : (D < 97 ∧ c.toNat = 95) ∨ (D < 97 ∧ ¬ c.toNat = 95) ∨ (97 ≤ D ∧ D ≤ 122) ∨ (122 < D ∧ c.toNat = 95) ∨ (122 < D ∧ ¬ c.toNat = 95)) with ⟨h1, h2⟩ | ⟨h1, h2⟩ | ⟨h1, h2⟩ | ⟨h1, h2⟩ | ⟨h1, h2⟩
 ·refine fn_enter Tryz.func173 rfl 15 rfl fun w0 h0 => ?_
  refine SQ (RG ?_)
  refine RR [] .z (.i 2 (.bool false) .a) .a ?_
  refine RZ (NT (SQ (RG ?_)))
  refine RR [] (.d (.d (.d (.d .a)))) (.i 6 (.bool (decide (IntKind.u8.wrap (↑(BitVec.ofInt IntKind.u8.bits (↑c.toNat : Int) ||| BitVec.ofInt IntKind.u8.bits (32 : Int)).toNat : Int) ≥ (97 : Int)))) .a) .a ?_
  refine SR 6 (decide (IntKind.u8.wrap (↑(BitVec.ofInt IntKind.u8.bits (↑c.toNat : Int) ||| BitVec.ofInt IntKind.u8.bits (32 : Int)).toNat : Int) ≥ (97 : Int))) false (decide_eq_false (by omega)) ?_
  refine RR [] .z (.i 2 (.bool ((↑c.toNat : Int) == (95 : Int))) .z) .a ?_
  refine RZ (NT (RE ?_))
  refine NE [] .a .a [] (.bool ((↑c.toNat : Int) == 95)) ?_
  refine ⟨?_, rfl⟩
  first | omega | (simp [letB, h1, h2, beq95]; done) | (simp [letB, h1, h2, beq95]; omega)
 ·refine fn_enter Tryz.func173 rfl 15 rfl fun w0 h0 => ?_
  refine SQ (RG ?_)
  refine RR [] .z (.i 2 (.bool false) .a) .a ?_
  refine RZ (NT (SQ (RG ?_)))
  refine RR [] (.d (.d (.d (.d .a)))) (.i 6 (.bool (decide (IntKind.u8.wrap (↑(BitVec.ofInt IntKind.u8.bits (↑c.toNat : Int) ||| BitVec.ofInt IntKind.u8.bits (32 : Int)).toNat : Int) ≥ (97 : Int)))) .a) .a ?_
  refine SR 6 (decide (IntKind.u8.wrap (↑(BitVec.ofInt IntKind.u8.bits (↑c.toNat : Int) ||| BitVec.ofInt IntKind.u8.bits (32 : Int)).toNat : Int) ≥ (97 : Int))) false (decide_eq_false (by omega)) ?_
  refine RR [] .z (.i 2 (.bool ((↑c.toNat : Int) == (95 : Int))) .z) .a ?_
  refine RZ (NT (RE ?_))
  refine NE [] .a .a [] (.bool ((↑c.toNat : Int) == 95)) ?_
  refine ⟨?_, rfl⟩
  first | omega | (simp [letB, h1, h2, beq95]; done) | (simp [letB, h1, h2, beq95]; omega)
 ·refine fn_enter Tryz.func173 rfl 15 rfl fun w0 h0 => ?_
  refine SQ (RG ?_)
  refine RR [] .z (.i 2 (.bool false) .a) .a ?_
  refine RZ (NT (SQ (RG ?_)))
  refine RR [] (.d (.d (.d (.d .a)))) (.i 6 (.bool (decide (IntKind.u8.wrap (↑(BitVec.ofInt IntKind.u8.bits (↑c.toNat : Int) ||| BitVec.ofInt IntKind.u8.bits (32 : Int)).toNat : Int) ≥ (97 : Int)))) .a) .a ?_
  refine SR 6 (decide (IntKind.u8.wrap (↑(BitVec.ofInt IntKind.u8.bits (↑c.toNat : Int) ||| BitVec.ofInt IntKind.u8.bits (32 : Int)).toNat : Int) ≥ (97 : Int))) true (decide_eq_true (by omega)) ?_
  refine RR [] (.d (.d (.d (.d (.d .a))))) (.i 11 (.bool (decide (IntKind.u8.wrap (↑(BitVec.ofInt IntKind.u8.bits (↑c.toNat : Int) ||| BitVec.ofInt IntKind.u8.bits (32 : Int)).toNat : Int) ≤ (122 : Int)))) (.d (.d (.k .a)))) .a ?_
  refine SR 11 (decide (IntKind.u8.wrap (↑(BitVec.ofInt IntKind.u8.bits (↑c.toNat : Int) ||| BitVec.ofInt IntKind.u8.bits (32 : Int)).toNat : Int) ≤ (122 : Int))) true (decide_eq_true (by omega)) ?_
  refine RR [] .z (.i 2 (.bool true) .z) .a ?_
  refine RZ (NT (RE ?_))
  refine NE [] .a .a [] (.bool true) ?_
  refine ⟨?_, rfl⟩
  first | omega | (simp [letB, h1, h2, beq95]; done) | (simp [letB, h1, h2, beq95]; omega)
 ·refine fn_enter Tryz.func173 rfl 15 rfl fun w0 h0 => ?_
  refine SQ (RG ?_)
  refine RR [] .z (.i 2 (.bool false) .a) .a ?_
  refine RZ (NT (SQ (RG ?_)))
  refine RR [] (.d (.d (.d (.d .a)))) (.i 6 (.bool (decide (IntKind.u8.wrap (↑(BitVec.ofInt IntKind.u8.bits (↑c.toNat : Int) ||| BitVec.ofInt IntKind.u8.bits (32 : Int)).toNat : Int) ≥ (97 : Int)))) .a) .a ?_
  refine SR 6 (decide (IntKind.u8.wrap (↑(BitVec.ofInt IntKind.u8.bits (↑c.toNat : Int) ||| BitVec.ofInt IntKind.u8.bits (32 : Int)).toNat : Int) ≥ (97 : Int))) true (decide_eq_true (by omega)) ?_
  refine RR [] (.d (.d (.d (.d (.d .a))))) (.i 11 (.bool (decide (IntKind.u8.wrap (↑(BitVec.ofInt IntKind.u8.bits (↑c.toNat : Int) ||| BitVec.ofInt IntKind.u8.bits (32 : Int)).toNat : Int) ≤ (122 : Int)))) (.d (.d (.k .a)))) .a ?_
  refine SR 11 (decide (IntKind.u8.wrap (↑(BitVec.ofInt IntKind.u8.bits (↑c.toNat : Int) ||| BitVec.ofInt IntKind.u8.bits (32 : Int)).toNat : Int) ≤ (122 : Int))) false (decide_eq_false (by omega)) ?_
  refine RR [] .z (.i 2 (.bool ((↑c.toNat : Int) == (95 : Int))) .z) .a ?_
  refine RZ (NT (RE ?_))
  refine NE [] .a .a [] (.bool ((↑c.toNat : Int) == 95)) ?_
  refine ⟨?_, rfl⟩
  first | omega | (simp [letB, h1, h2, beq95]; done) | (simp [letB, h1, h2, beq95]; omega)
 ·refine fn_enter Tryz.func173 rfl 15 rfl fun w0 h0 => ?_
  refine SQ (RG ?_)
  refine RR [] .z (.i 2 (.bool false) .a) .a ?_
  refine RZ (NT (SQ (RG ?_)))
  refine RR [] (.d (.d (.d (.d .a)))) (.i 6 (.bool (decide (IntKind.u8.wrap (↑(BitVec.ofInt IntKind.u8.bits (↑c.toNat : Int) ||| BitVec.ofInt IntKind.u8.bits (32 : Int)).toNat : Int) ≥ (97 : Int)))) .a) .a ?_
  refine SR 6 (decide (IntKind.u8.wrap (↑(BitVec.ofInt IntKind.u8.bits (↑c.toNat : Int) ||| BitVec.ofInt IntKind.u8.bits (32 : Int)).toNat : Int) ≥ (97 : Int))) true (decide_eq_true (by omega)) ?_
  refine RR [] (.d (.d (.d (.d (.d .a))))) (.i 11 (.bool (decide (IntKind.u8.wrap (↑(BitVec.ofInt IntKind.u8.bits (↑c.toNat : Int) ||| BitVec.ofInt IntKind.u8.bits (32 : Int)).toNat : Int) ≤ (122 : Int)))) (.d (.d (.k .a)))) .a ?_
  refine SR 11 (decide (IntKind.u8.wrap (↑(BitVec.ofInt IntKind.u8.bits (↑c.toNat : Int) ||| BitVec.ofInt IntKind.u8.bits (32 : Int)).toNat : Int) ≤ (122 : Int))) false (decide_eq_false (by omega)) ?_
  refine RR [] .z (.i 2 (.bool ((↑c.toNat : Int) == (95 : Int))) .z) .a ?_
  refine RZ (NT (RE ?_))
  refine NE [] .a .a [] (.bool ((↑c.toNat : Int) == 95)) ?_
  refine ⟨?_, rfl⟩
  first | omega | (simp [letB, h1, h2, beq95]; done) | (simp [letB, h1, h2, beq95]; omega)
theorem digit_spec (c : UInt8) : Does Tryz.prog 170 [.int .u8 c.toNat] [] (fun v hp' => v = .bool (digB c) ∧ hp' = []) := by
 rcases (by omega : (c.toNat < 48) ∨ (48 ≤ c.toNat ∧ c.toNat ≤ 57) ∨ (48 ≤ c.toNat ∧ ¬ c.toNat ≤ 57)) with h1 | ⟨h1, h2⟩ | ⟨h1, h2⟩
 ·refine fn_enter Tryz.func170 rfl 9 rfl fun w0 h0 => ?_
  refine SQ (RG ?_)
  refine RR [] .z (.i 2 (.bool false) .a) .a ?_
  refine RZ (NT (SQ (RG ?_)))
  refine RR [] (.d (.d (.d .a))) (.i 5 (.bool (decide ((↑c.toNat : Int) ≥ (48 : Int)))) .a) .a ?_
  refine SR 5 (decide ((↑c.toNat : Int) ≥ (48 : Int))) false (decide_eq_false (by omega)) ?_
  refine RR [] .z (.d (.d (.k .z))) .a ?_
  refine RZ (NT (RE ?_))
  refine NE [] .a .a [] (.bool false) ?_
  refine ⟨?_, rfl⟩
  first | omega | (simp [digB, h1, beq95]; done) | (simp [digB, h1, beq95]; omega)
 ·refine fn_enter Tryz.func170 rfl 9 rfl fun w0 h0 => ?_
  refine SQ (RG ?_)
  refine RR [] .z (.i 2 (.bool false) .a) .a ?_
  refine RZ (NT (SQ (RG ?_)))
  refine RR [] (.d (.d (.d .a))) (.i 5 (.bool (decide ((↑c.toNat : Int) ≥ (48 : Int)))) .a) .a ?_
  refine SR 5 (decide ((↑c.toNat : Int) ≥ (48 : Int))) true (decide_eq_true (by omega)) ?_
  refine RR [] .z (.i 2 (.bool (decide ((↑c.toNat : Int) ≤ (57 : Int)))) .z) .a ?_
  refine RZ (NT (RE ?_))
  refine NE [] .a .a [] (.bool (decide ((↑c.toNat : Int) ≤ 57))) ?_
  refine ⟨?_, rfl⟩
  first | omega | (simp [digB, h1, h2, beq95]; done) | (simp [digB, h1, h2, beq95]; omega)
 ·refine fn_enter Tryz.func170 rfl 9 rfl fun w0 h0 => ?_
  refine SQ (RG ?_)
  refine RR [] .z (.i 2 (.bool false) .a) .a ?_
  refine RZ (NT (SQ (RG ?_)))
  refine RR [] (.d (.d (.d .a))) (.i 5 (.bool (decide ((↑c.toNat : Int) ≥ (48 : Int)))) .a) .a ?_
  refine SR 5 (decide ((↑c.toNat : Int) ≥ (48 : Int))) true (decide_eq_true (by omega)) ?_
  refine RR [] .z (.i 2 (.bool (decide ((↑c.toNat : Int) ≤ (57 : Int)))) .z) .a ?_
  refine RZ (NT (RE ?_))
  refine NE [] .a .a [] (.bool (decide ((↑c.toNat : Int) ≤ 57))) ?_
  refine ⟨?_, rfl⟩
  first | omega | (simp [digB, h1, h2, beq95]; done) | (simp [digB, h1, h2, beq95]; omega)
theorem rletter_spec (c : UInt8) : Does Tryz.prog 180 [.int .u8 c.toNat] [] (fun v hp' => v = .bool (letB c) ∧ hp' = []) := by
 rcases (by omega : (c.toNat < 65) ∨ (65 ≤ c.toNat ∧ c.toNat ≤ 90) ∨ (90 < c.toNat ∧ c.toNat < 97 ∧ c.toNat = 95) ∨ (90 < c.toNat ∧ c.toNat < 97 ∧ ¬ c.toNat = 95) ∨ (97 ≤ c.toNat ∧ c.toNat ≤ 122) ∨ (122 < c.toNat)) with h1 | ⟨h1, h2⟩ | ⟨h1, h2, h3⟩ | ⟨h1, h2, h3⟩ | ⟨h1, h2⟩ | h1
 ·refine fn_enter Tryz.func180 rfl 21 rfl fun w0 h0 => ?_
  refine SQ (RG ?_)
  refine RR [] .z (.i 2 (.bool false) .a) .a ?_
  refine RZ (NT (SQ (RG ?_)))
  refine RR [] (.d (.d (.d .a))) (.i 5 (.bool (decide ((↑c.toNat : Int) ≥ (97 : Int)))) .a) .a ?_
  refine SR 5 (decide ((↑c.toNat : Int) ≥ (97 : Int))) false (decide_eq_false (by omega)) ?_
  refine RR [] (.d (.d (.d (.d (.d (.d (.d .a))))))) (.i 12 (.bool (decide ((↑c.toNat : Int) ≥ (65 : Int)))) (.i 9 (.bool false) (.d (.d (.k .a))))) .a ?_
  refine SR 12 (decide ((↑c.toNat : Int) ≥ (65 : Int))) false (decide_eq_false (by omega)) ?_
  refine RR [] .z (.i 2 (.bool ((↑c.toNat : Int) == (95 : Int))) .z) .a ?_
  refine RZ (NT (RE ?_))
  refine NE [] .a .a [] (.bool ((↑c.toNat : Int) == 95)) ?_
  refine ⟨?_, rfl⟩
  first | omega | (simp [letB, h1, beq95]; done) | (simp [letB, h1, beq95]; omega)
 ·refine fn_enter Tryz.func180 rfl 21 rfl fun w0 h0 => ?_
  refine SQ (RG ?_)
  refine RR [] .z (.i 2 (.bool false) .a) .a ?_
  refine RZ (NT (SQ (RG ?_)))
  refine RR [] (.d (.d (.d .a))) (.i 5 (.bool (decide ((↑c.toNat : Int) ≥ (97 : Int)))) .a) .a ?_
  refine SR 5 (decide ((↑c.toNat : Int) ≥ (97 : Int))) false (decide_eq_false (by omega)) ?_
  refine RR [] (.d (.d (.d (.d (.d (.d (.d .a))))))) (.i 12 (.bool (decide ((↑c.toNat : Int) ≥ (65 : Int)))) (.i 9 (.bool false) (.d (.d (.k .a))))) .a ?_
  refine SR 12 (decide ((↑c.toNat : Int) ≥ (65 : Int))) true (decide_eq_true (by omega)) ?_
  refine RR [] (.d (.d (.d (.d (.d .a))))) (.i 17 (.bool (decide ((↑c.toNat : Int) ≤ (90 : Int)))) (.d (.d (.d (.k .a))))) .a ?_
  refine SR 17 (decide ((↑c.toNat : Int) ≤ (90 : Int))) true (decide_eq_true (by omega)) ?_
  refine RR [] .z (.i 2 (.bool true) .z) .a ?_
  refine RZ (NT (RE ?_))
  refine NE [] .a .a [] (.bool true) ?_
  refine ⟨?_, rfl⟩
  first | omega | (simp [letB, h1, h2, beq95]; done) | (simp [letB, h1, h2, beq95]; omega)
 ·refine fn_enter Tryz.func180 rfl 21 rfl fun w0 h0 => ?_
  refine SQ (RG ?_)
  refine RR [] .z (.i 2 (.bool false) .a) .a ?_
  refine RZ (NT (SQ (RG ?_)))
  refine RR [] (.d (.d (.d .a))) (.i 5 (.bool (decide ((↑c.toNat : Int) ≥ (97 : Int)))) .a) .a ?_
  refine SR 5 (decide ((↑c.toNat : Int) ≥ (97 : Int))) false (decide_eq_false (by omega)) ?_
  refine RR [] (.d (.d (.d (.d (.d (.d (.d .a))))))) (.i 12 (.bool (decide ((↑c.toNat : Int) ≥ (65 : Int)))) (.i 9 (.bool false) (.d (.d (.k .a))))) .a ?_
  refine SR 12 (decide ((↑c.toNat : Int) ≥ (65 : Int))) true (decide_eq_true (by omega)) ?_
  refine RR [] (.d (.d (.d (.d (.d .a))))) (.i 17 (.bool (decide ((↑c.toNat : Int) ≤ (90 : Int)))) (.d (.d (.d (.k .a))))) .a ?_
  refine SR 17 (decide ((↑c.toNat : Int) ≤ (90 : Int))) false (decide_eq_false (by omega)) ?_
  refine RR [] .z (.i 2 (.bool ((↑c.toNat : Int) == (95 : Int))) .z) .a ?_
  refine RZ (NT (RE ?_))
  refine NE [] .a .a [] (.bool ((↑c.toNat : Int) == 95)) ?_
  refine ⟨?_, rfl⟩
  first | omega | (simp [letB, h1, h2, h3, beq95]; done) | (simp [letB, h1, h2, h3, beq95]; omega)
 ·refine fn_enter Tryz.func180 rfl 21 rfl fun w0 h0 => ?_
  refine SQ (RG ?_)
  refine RR [] .z (.i 2 (.bool false) .a) .a ?_
  refine RZ (NT (SQ (RG ?_)))
  refine RR [] (.d (.d (.d .a))) (.i 5 (.bool (decide ((↑c.toNat : Int) ≥ (97 : Int)))) .a) .a ?_
  refine SR 5 (decide ((↑c.toNat : Int) ≥ (97 : Int))) false (decide_eq_false (by omega)) ?_
  refine RR [] (.d (.d (.d (.d (.d (.d (.d .a))))))) (.i 12 (.bool (decide ((↑c.toNat : Int) ≥ (65 : Int)))) (.i 9 (.bool false) (.d (.d (.k .a))))) .a ?_
  refine SR 12 (decide ((↑c.toNat : Int) ≥ (65 : Int))) true (decide_eq_true (by omega)) ?_
  refine RR [] (.d (.d (.d (.d (.d .a))))) (.i 17 (.bool (decide ((↑c.toNat : Int) ≤ (90 : Int)))) (.d (.d (.d (.k .a))))) .a ?_
  refine SR 17 (decide ((↑c.toNat : Int) ≤ (90 : Int))) false (decide_eq_false (by omega)) ?_
  refine RR [] .z (.i 2 (.bool ((↑c.toNat : Int) == (95 : Int))) .z) .a ?_
  refine RZ (NT (RE ?_))
  refine NE [] .a .a [] (.bool ((↑c.toNat : Int) == 95)) ?_
  refine ⟨?_, rfl⟩
  first | omega | (simp [letB, h1, h2, h3, beq95]; done) | (simp [letB, h1, h2, h3, beq95]; omega)
 ·refine fn_enter Tryz.func180 rfl 21 rfl fun w0 h0 => ?_
  refine SQ (RG ?_)
  refine RR [] .z (.i 2 (.bool false) .a) .a ?_
  refine RZ (NT (SQ (RG ?_)))
  refine RR [] (.d (.d (.d .a))) (.i 5 (.bool (decide ((↑c.toNat : Int) ≥ (97 : Int)))) .a) .a ?_
  refine SR 5 (decide ((↑c.toNat : Int) ≥ (97 : Int))) true (decide_eq_true (by omega)) ?_
  refine RR [] (.d (.d (.d (.d .a)))) (.i 9 (.bool (decide ((↑c.toNat : Int) ≤ (122 : Int)))) (.d (.d (.k .a)))) .a ?_
  refine SR 9 (decide ((↑c.toNat : Int) ≤ (122 : Int))) true (decide_eq_true (by omega)) ?_
  refine RR [] .z (.i 2 (.bool true) .z) .a ?_
  refine RZ (NT (RE ?_))
  refine NE [] .a .a [] (.bool true) ?_
  refine ⟨?_, rfl⟩
  first | omega | (simp [letB, h1, h2, beq95]; done) | (simp [letB, h1, h2, beq95]; omega)
 ·refine fn_enter Tryz.func180 rfl 21 rfl fun w0 h0 => ?_
  refine SQ (RG ?_)
  refine RR [] .z (.i 2 (.bool false) .a) .a ?_
  refine RZ (NT (SQ (RG ?_)))
  refine RR [] (.d (.d (.d .a))) (.i 5 (.bool (decide ((↑c.toNat : Int) ≥ (97 : Int)))) .a) .a ?_
  refine SR 5 (decide ((↑c.toNat : Int) ≥ (97 : Int))) true (decide_eq_true (by omega)) ?_
  refine RR [] (.d (.d (.d (.d .a)))) (.i 9 (.bool (decide ((↑c.toNat : Int) ≤ (122 : Int)))) (.d (.d (.k .a)))) .a ?_
  refine SR 9 (decide ((↑c.toNat : Int) ≤ (122 : Int))) false (decide_eq_false (by omega)) ?_
  refine RR [] (.d (.d (.d .a))) (.i 12 (.bool (decide ((↑c.toNat : Int) ≥ (65 : Int)))) (.k (.d (.k .a)))) .a ?_
  refine SR 12 (decide ((↑c.toNat : Int) ≥ (65 : Int))) true (decide_eq_true (by omega)) ?_
  refine RR [] (.d (.d (.d (.d (.d .a))))) (.i 17 (.bool (decide ((↑c.toNat : Int) ≤ (90 : Int)))) (.d (.d (.d (.k .a))))) .a ?_
  refine SR 17 (decide ((↑c.toNat : Int) ≤ (90 : Int))) false (decide_eq_false (by omega)) ?_
  refine RR [] .z (.i 2 (.bool ((↑c.toNat : Int) == (95 : Int))) .z) .a ?_
  refine RZ (NT (RE ?_))
  refine NE [] .a .a [] (.bool ((↑c.toNat : Int) == 95)) ?_
  refine ⟨?_, rfl⟩
  first | omega | (simp [letB, h1, beq95]; done) | (simp [letB, h1, beq95]; omega)
theorem rdigit_spec (c : UInt8) : Does Tryz.prog 182 [.int .u8 c.toNat] [] (fun v hp' => v = .bool (digB c) ∧ hp' = []) := by
 rcases (by omega : (c.toNat < 48) ∨ (48 ≤ c.toNat ∧ c.toNat ≤ 57) ∨ (48 ≤ c.toNat ∧ ¬ c.toNat ≤ 57)) with h1 | ⟨h1, h2⟩ | ⟨h1, h2⟩
 ·refine fn_enter Tryz.func182 rfl 9 rfl fun w0 h0 => ?_
  refine SQ (RG ?_)
  refine RR [] .z (.i 2 (.bool false) .a) .a ?_
  refine RZ (NT (SQ (RG ?_)))
  refine RR [] (.d (.d (.d .a))) (.i 5 (.bool (decide ((↑c.toNat : Int) ≥ (48 : Int)))) .a) .a ?_
  refine SR 5 (decide ((↑c.toNat : Int) ≥ (48 : Int))) false (decide_eq_false (by omega)) ?_
  refine RR [] .z (.d (.d (.k .z))) .a ?_
  refine RZ (NT (RE ?_))
  refine NE [] .a .a [] (.bool false) ?_
  refine ⟨?_, rfl⟩
  first | omega | (simp [digB, h1, beq95]; done) | (simp [digB, h1, beq95]; omega)
 ·refine fn_enter Tryz.func182 rfl 9 rfl fun w0 h0 => ?_
  refine SQ (RG ?_)
  refine RR [] .z (.i 2 (.bool false) .a) .a ?_
  refine RZ (NT (SQ (RG ?_)))
  refine RR [] (.d (.d (.d .a))) (.i 5 (.bool (decide ((↑c.toNat : Int) ≥ (48 : Int)))) .a) .a ?_
  refine SR 5 (decide ((↑c.toNat : Int) ≥ (48 : Int))) true (decide_eq_true (by omega)) ?_
  refine RR [] .z (.i 2 (.bool (decide ((↑c.toNat : Int) ≤ (57 : Int)))) .z) .a ?_
  refine RZ (NT (RE ?_))
  refine NE [] .a .a [] (.bool (decide ((↑c.toNat : Int) ≤ 57))) ?_
  refine ⟨?_, rfl⟩
  first | omega | (simp [digB, h1, h2, beq95]; done) | (simp [digB, h1, h2, beq95]; omega)
 ·refine fn_enter Tryz.func182 rfl 9 rfl fun w0 h0 => ?_
  refine SQ (RG ?_)
  refine RR [] .z (.i 2 (.bool false) .a) .a ?_
  refine RZ (NT (SQ (RG ?_)))
  refine RR [] (.d (.d (.d .a))) (.i 5 (.bool (decide ((↑c.toNat : Int) ≥ (48 : Int)))) .a) .a ?_
  refine SR 5 (decide ((↑c.toNat : Int) ≥ (48 : Int))) true (decide_eq_true (by omega)) ?_
  refine RR [] .z (.i 2 (.bool (decide ((↑c.toNat : Int) ≤ (57 : Int)))) .z) .a ?_
  refine RZ (NT (RE ?_))
  refine NE [] .a .a [] (.bool (decide ((↑c.toNat : Int) ≤ 57))) ?_
  refine ⟨?_, rfl⟩
  first | omega | (simp [digB, h1, h2, beq95]; done) | (simp [digB, h1, h2, beq95]; omega)
end Go.Proofs.YtgcfomhlgipllaaGreatDoor
namespace Go.Proofs.YtgcfomhlgipllaaGreatDoor
open Go Go.Sx
theorem rWords_spec : Does Tryz.prog 201 [] [] (fun v hp' => ∃ g, v = .slice (some ⟨g, 0, none⟩) 10 10 ∧ hp' = [.blk g 9 (wordsL.map strV)]) := by
 refine fn_enter Tryz.func201 rfl 2 rfl fun w0 h0 => ?_
 refine SQ (RG ?_)
 refine RR [] .z (.i 0 (.slice none 0 0) .a) .a ?_
 refine RZ (NT (SQ (RG ?_)))
 refine RN [] (.d .a) 1 (fun g1 => (.slice (some ⟨g1, 0, none⟩) 10 10)) .a .a 9 [.string { data := #[102, 110] }, .string { data := #[114, 101, 99, 111, 114, 100] }, .string { data := #[108, 101, 116] }, .string { data := #[105, 102] }, .string { data := #[101, 108, 115, 101] }, .string { data := #[119, 104, 105, 108, 101] }, .string { data := #[114, 101, 116, 117, 114, 110] }, .string { data := #[110, 101, 119] }, .string { data := #[116, 114, 117, 101] }, .string { data := #[102, 97, 108, 115, 101] }] fun g1 => ?_
 refine RR [] .z (.i 0 (.slice (some ⟨g1, 0, none⟩) 10 10) .z) .a ?_
 refine RZ (NT (RE ?_))
 refine NE [0] .a .z [] (.slice (some ⟨g1, 0, none⟩) 10 10) ?_
 exact ⟨g1, rfl, rfl⟩
theorem rin_spec (a : Option Addr) (c : Nat) (l : List (List UInt8)) (s : List UInt8) (hl : l.length ≤ 1048576) : Does Tryz.prog 200 [.slice a l.length c, .string (mkS s)] [ro a (l.map strV)] (fun v hp' => v = .bool (l.contains s) ∧ hp' = []) := by
 refine fn_enter Tryz.func200 rfl 18 rfl fun w0 h0 => ?_
 refine SQ (RG ?_)
 refine RR [] .z (.i 4 (.bool false) .a) .a ?_
 refine RZ (NT (SQ (SQ (RG ?_))))
 refine RR [] .z (.i 5 (.int .i64 0) .a) .a ?_
 refine RZ (NT (BK ?_))
 refine wpc_loop (X := {i : Nat // i ≤ l.length ∧ ∀ j, j < i → l[j]? ≠ some s}) (fun x => St.mk [(5, .int .i64 (x.1 : Int)), (4, .bool false), (0, .slice a l.length c), (1, .string (mkS s))] [ro a (l.map strV)]) (fun x => l.length - x.1) ⟨0, by omega, fun j h => absurd h (Nat.not_lt_zero _)⟩ (ent_fr (by kernel_rfl)) ?_
 rintro ⟨i, hi, hall⟩
 dsimp only at hi hall ⊢
 refine SQ (SQ (RG ?_))
 refine RR [] .z (.i 9 (.bool (decide ((↑i : Int) < (↑l.length : Int)))) .a) .a ?_
 refine RZ (NT ?_)
 refine wpc_if (((↑i : Int) < (↑l.length : Int))) (by kernel_rfl) (fun hlt => ?_) (fun hlt => ?_)
 ·have hil : i < l.length := by omega
  refine wpc_fact (fun w h => ro_addr h 0 rfl (by rw [List.length_map]; omega)) ?_
  rintro ⟨g0, o0, rfl⟩
  refine SK (NT (SQ (BK (SQ (RG ?_)))))
  refine RV true [] (.d (.d (.d .a))) (.i 14 (.pointer (some ⟨g0, o0 + i * 1, none⟩)) (.d (.k .a))) .a [(0 : Int) ≤ (↑i : Int) ∧ (↑i : Int) < (↑l.length : Int)] ⟨by omega, trivial⟩ ?_
  refine wpr_eq (ld (t := 9) (a := (⟨g0, o0 + i * 1, none⟩)) (dst := some 15) (by kernel_rfl) false 1 (by kernel_rfl) (by simp) [.string (mkS l[i])] rfl (fun w h => ld_ro h 0 rfl (i * 1) (map_at strV hil))) ?_
  refine RR [] .z (.i 17 (.bool (decide (l[i] = s))) (.d (.d (.k .a)))) .a ?_
  refine RZ (NT ?_)
  refine wpc_if ((l[i] = s)) (by kernel_rfl) (fun heq => ?_) (fun heq => ?_)
  ·refine SQ (RG ?_)
   refine RR [] .z (.i 4 (.bool true) (.d (.k (.d (.k .a))))) .a ?_
   refine RZ (NT (RE (BR (TR (TR (BR (TR ?_)))))))
   refine NE [] .z .a [] (.bool true) ?_
   refine ⟨?_, rfl⟩
   have he : l[i] = s := heq
   have h2 : l.contains s = true := List.contains_iff_mem.2 (he ▸ List.getElem_mem hil)
   rw [h2]
  ·refine SK (BN (NT (RG ?_)))
   refine RV true [] .z (.i 5 (.int .i64 ((↑i : Int) + 1)) (.d (.d (.k .a)))) .a ([inI64 ((↑i : Int) + (1 : Int))]) ⟨by unfold inI64; omega, trivial⟩ ?_
   refine RZ ?_
   exact fun a' w' hS' => ⟨⟨i + 1, by omega, fun j hj => by
       rcases Nat.lt_or_ge j i with h | h
       ·exact hall j h
       ·obtain rfl : j = i := by omega
        rw [List.getElem?_eq_getElem hil]
        intro h2
        exact heq (Option.some.inj h2)⟩, by dsimp only; omega, ent_fr (by kernel_rfl) _ _ (ent_hp [0] rfl _ _ hS')⟩
 ·refine EX (TE (TE (BH (NT (SQ (RG ?_))))))
  refine RR [] .z (.d (.d (.k .z))) .a ?_
  refine RZ (NT (RE ?_))
  refine NE [] .z .a [] (.bool false) ?_
  refine ⟨?_, rfl⟩
  have h2 : l.contains s = false := by
   cases hw : l.contains s with
   | false => rfl
   | true =>
    obtain ⟨j, hj⟩ := List.getElem?_of_mem (List.contains_iff_mem.1 hw)
    obtain ⟨hj1, _⟩ := List.getElem?_eq_some_iff.1 hj
    exact absurd hj (hall j (by omega))
  rw [h2]
theorem rWord_spec (s : List UInt8) : Does Tryz.prog 181 [.string (mkS s)] [] (fun v hp' => v = .bool (isWord s) ∧ hp' = []) := by
 refine fn_enter Tryz.func181 rfl 6 rfl fun w0 h0 => ?_
 refine SQ (RG ?_)
 refine RR [] .z (.i 2 (.bool false) .a) .a ?_
 refine RZ (NT (SQ (RG ?_)))
 refine RCA (dst := some 3) (rWords_spec) ?_
 rintro v _ ⟨g, rfl, rfl⟩
 refine wpr_ent (ent_turn 0 (ro (some ⟨g, 0, none⟩) (wordsL.map strV)) rfl (turn_rblk (by intro u hu; obtain ⟨x, _, rfl⟩ := List.mem_map.1 hu; rfl)) rfl) ?_
 refine RR [] (.d .a) (.i 4 (.string (mkS s)) (.k (.k .z))) .a ?_
 refine RCG (dst := some 5) .a (rin_spec (some ⟨g, 0, none⟩) 10 wordsL s (by decide)) (GV (GI []) 0 view_ro) ?_
 rintro v _ ⟨rfl, rfl⟩
 refine RR [] .z (.i 2 (.bool (wordsL.contains s)) .z) .a ?_
 refine RZ (NT (RE ?_))
 refine NE [] .z .a [] (.bool (wordsL.contains s)) ?_
 exact ⟨rfl, rfl⟩
def ldB (c : UInt8) : Bool := letB c || digB c
theorem name1_spec (c : UInt8) : Does Tryz.prog 172 [.int .u8 c.toNat] [] (fun v hp' => v = .bool (ldB c) ∧ hp' = []) := by
 unfold ldB
 refine fn_enter Tryz.func172 rfl 9 rfl fun w0 h0 => ?_
 refine SQ (RG ?_)
 refine RR [] .z (.i 2 (.bool false) .a) .a ?_
 refine RZ (NT (SQ (RG ?_)))
 refine RR [] (.d .a) (.i 3 (.int .u8 (↑c.toNat : Int)) .a) .a ?_
 refine RCA (dst := some 4) (letter_spec c) ?_
 rintro v _ ⟨rfl, rfl⟩
 cases hl : letB c with
 | true =>
  refine RR [] .z (.i 2 (.bool true) .z) .a ?_
  refine RZ (NT (RE ?_))
  refine NE [] .a .a [] (.bool true) ?_
  exact ⟨rfl, rfl⟩
 | false =>
  refine RR [] (.d (.d .a)) (.i 6 (.int .u8 (↑c.toNat : Int)) (.i 5 (.bool false) (.d (.d (.k .z))))) .a ?_
  refine RCA (dst := some 7) (digit_spec c) ?_
  rintro v _ ⟨rfl, rfl⟩
  refine RR [] .z (.i 2 (.bool (digB c)) .z) .a ?_
  refine RZ (NT (RE ?_))
  refine NE [] .a .a [] (.bool (digB c)) ?_
  exact ⟨by simp, rfl⟩
theorem bt_at {s : List UInt8} {i : Nat} (h : i < s.length) : bt (mkS s) (i : Int) = (s[i].toNat : Int) := by
 simp [bt, mkS, List.getD, h]
theorem takeWhile_end {p : UInt8 → Bool} {s : List UInt8} {n : Nat} (hn : n ≤ s.length) (h1 : ∀ j, (hj : j < n) → p (s[j]'(by omega)) = true) (h2 : (h : n < s.length) → p s[n] = false) : (s.takeWhile p).length = n := by
 induction s generalizing n with
 | nil => simp at hn; subst hn; rfl
 | cons c s ih =>
  cases n with
  | zero =>
   have := h2 (by simp)
   simp only [List.getElem_cons_zero] at this
   simp [List.takeWhile, this]
  | succ n =>
   have h0 := h1 0 (by omega)
   simp only [List.getElem_cons_zero] at h0
   have h3 := ih (n := n) (by simpa using hn) (fun j hj => by have := h1 (j + 1) (by omega); simpa using this) (fun h => by have := h2 (by simpa using h); simpa using this)
   simp [List.takeWhile, h0, h3]
theorem row_spec (s : List UInt8) (hl : s.length ≤ 1048576) : Does Tryz.prog 171 [.string (mkS s), .func (.func 172) #[] #[]] [] (fun v hp' => v = .int .i64 ((s.takeWhile ldB).length : Int) ∧ hp' = []) := by
 refine fn_enter Tryz.func171 rfl 20 rfl fun w0 h0 => ?_
 refine SQ (RG ?_)
 refine RR [] .z (.i 4 (.int .i64 0) .a) .a ?_
 refine RZ (NT (SQ (RG ?_)))
 refine RR [] .z (.i 5 (.int .i64 0) .a) .a ?_
 refine RZ (NT (SQ (BK ?_)))
 refine wpc_loop (X := {n : Nat // ∃ h : n ≤ s.length, ∀ j, (hj : j < n) → ldB (s[j]'(by omega)) = true}) (fun x => St.mk [(5, .int .i64 (x.1 : Int)), (0, .string (mkS s)), (1, .func (.func 172) #[] #[])] []) (fun x => s.length - x.1) ⟨0, Nat.zero_le _, fun j h => absurd h (Nat.not_lt_zero _)⟩ (ent_fr (by kernel_rfl)) ?_
 rintro ⟨n, hn, hall⟩
 dsimp only at hn hall ⊢
 by_cases hlt : n < s.length
 ·refine SQ (SQ (RG ?_))
  refine RR [] (.d (.d (.d (.d (.d .a))))) (.i 10 (.bool (decide ((↑n : Int) < (↑s.length : Int)))) .a) .a ?_
  refine SR 10 (decide ((↑n : Int) < (↑s.length : Int))) true (decide_eq_true (by omega)) ?_
  refine RV true [] (.d (.d (.d (.d .a)))) (.i 14 (.int .u8 (bt (mkS s) (↑n : Int))) (.i 11 (Value.func (Fn.func 172) #[] #[]) (.k (.d (.k .a))))) .a [(0 : Int) ≤ (↑n : Int) ∧ (↑n : Int) < (↑s.length : Int)] ⟨by omega, trivial⟩ ?_
  rw [bt_at hlt]
  refine wpr_callv_all (dst := some 15) (first := (#[])) (caps := (#[])) (args := [.int .u8 (↑s[n].toNat : Int)]) (f := 172) (by kernel_rfl) (by kernel_rfl) (name1_spec s[n]) give_all ?_
  rintro v _ ⟨rfl, rfl⟩
  cases hp : ldB s[n] with
  | true =>
   refine RR [] .z (.i 16 (.bool true) (.d (.d (.d (.d (.k .a)))))) .a ?_
   refine RZ (NT (CT (SK (NT (BK (RG ?_))))))
   refine RV true [] .z (.i 5 (.int .i64 ((↑n : Int) + 1)) (.d (.d (.k .a)))) .a ([inI64 ((↑n : Int) + (1 : Int))]) ⟨by unfold inI64; omega, trivial⟩ ?_
   refine RZ (BN ?_)
   exact fun a' w' hS' => ⟨⟨n + 1, hlt, fun j hj => by
       rcases Nat.lt_or_ge j n with h | h
       ·exact hall j h
       ·obtain rfl : j = n := by omega
        exact hp⟩, by dsimp only; omega, ent_fr (by kernel_rfl) _ _ (ent_hp [] rfl _ _ hS')⟩
  | false =>
   refine RR [] .z (.i 16 (.bool false) (.d (.d (.d (.d (.k .a)))))) .a ?_
   refine RZ (NT (CF (EX (TE (TE (BH (NT (SQ (RG ?_)))))))))
   refine RR [] .z (.i 4 (.int .i64 (↑n : Int)) .z) .a ?_
   refine RZ (NT (RE ?_))
   refine NE [] .a .a [] (.int .i64 (↑n : Int)) ?_
   exact ⟨by rw [takeWhile_end hn hall (fun _ => hp)], rfl⟩
 ·refine SQ (SQ (RG ?_))
  refine RR [] (.d (.d (.d (.d (.d .a))))) (.i 10 (.bool (decide ((↑n : Int) < (↑s.length : Int)))) .a) .a ?_
  refine SR 10 (decide ((↑n : Int) < (↑s.length : Int))) false (decide_eq_false (by omega)) ?_
  refine RR [] .z (.i 16 (.bool false) (.d (.d (.k .a)))) .a ?_
  refine RZ (NT (CF (EX (TE (TE (BH (NT (SQ (RG ?_)))))))))
  refine RR [] .z (.i 4 (.int .i64 (↑n : Int)) .z) .a ?_
  refine RZ (NT (RE ?_))
  refine NE [] .a .a [] (.int .i64 (↑n : Int)) ?_
  exact ⟨by rw [takeWhile_end hn hall (fun h => absurd h hlt)], rfl⟩
def nameB (s : List UInt8) : Bool := match s with
 | [] => false
 | c :: _ => decide (s.length ≤ 20) && !digB c && !isWord s && s.all ldB
theorem takeWhile_all {p : UInt8 → Bool} : ∀ s : List UInt8, ((s.takeWhile p).length == s.length) = s.all p
 | [] => rfl
 | c :: s => by
  cases h : p c with
  | true =>
   simp only [List.takeWhile, h, List.length_cons, List.all_cons, Bool.true_and]
   rw [← takeWhile_all s, Bool.eq_iff_iff, beq_iff_eq, beq_iff_eq]; omega
  | false => simp [List.takeWhile, h]
theorem name_spec (s : List UInt8) (hl : s.length ≤ 1048576) : Does Tryz.prog 135 [.string (mkS s)] [gWords] (fun v hp' => v = .bool (nameB s) ∧ hp' = []) := by
 cases s with
 | nil =>
  refine fn_enter Tryz.func135 rfl 28 rfl fun w0 h0 => ?_
  refine SQ (RG ?_)
  refine RR [] .z (.i 2 (.bool false) .a) .a ?_
  refine RZ (NT (SQ (RG ?_)))
  refine RR [] .z (.k .z) .a ?_
  refine RZ (NT (RE ?_))
  refine NE [] .z .a [] (.bool false) ?_
  exact ⟨rfl, rfl⟩
 | cons c r =>
  have hb : bt (mkS (c :: r)) 0 = (c.toNat : Int) := bt_at (s := c :: r) (i := 0) (by simp)
  have hall := takeWhile_all (p := ldB) (c :: r)
  unfold nameB
  dsimp only
  rw [← hall]
  obtain ⟨s, hs⟩ : ∃ s, s = c :: r := ⟨_, rfl⟩
  have hpos : 0 < s.length := by rw [hs]; simp
  rw [← hs] at hb hl ⊢
  have hne : (!decide (s = [])) = true := by rw [hs]; simp
  by_cases h20 : s.length ≤ 20
  ·refine fn_enter Tryz.func135 rfl 28 rfl fun w0 h0 => ?_
   refine SQ (RG ?_)
   refine RR [] .z (.i 2 (.bool false) .a) .a ?_
   refine RZ (NT (SQ (RG ?_)))
   refine RR [] (.d (.d (.d .a))) (.i 5 (.bool !decide (s = [])) .a) .a ?_
   refine SR 5 (!decide (s = [])) true hne ?_
   refine RR [] (.d (.d (.d (.d (.d .a))))) (.i 10 (.bool (decide ((↑s.length : Int) ≤ (20 : Int)))) (.d (.d (.k .a)))) .a ?_
   refine SR 10 (decide ((↑s.length : Int) ≤ (20 : Int))) true (decide_eq_true (by omega)) ?_
   refine RV true [] (.d (.d .a)) (.i 12 (.int .u8 (bt (mkS s) 0)) (.k (.d (.k .a)))) .a [(0 : Int) ≤ (0 : Int) ∧ (0 : Int) < (↑s.length : Int)] ⟨by omega, trivial⟩ ?_
   rw [hb]
   refine RC (dst := some 13) [] .a (digit_spec c) ?_
   rintro v _ ⟨rfl, rfl⟩
   cases hd : digB c with
   | true =>
    refine RR [] .z (.d (.d (.d (.k .z)))) .a ?_
    refine RZ (NT (RE ?_))
    refine NE [] .z .a [] (.bool false) ?_
    exact ⟨by simp, rfl⟩
   | false =>
    refine RR [] (.d (.d (.d (.d .a)))) (.i 17 (.string (mkS s)) (.i 16 (.bool true) (.d (.d (.d (.k .a)))))) .a ?_
    refine RCG (dst := some 18) .a (Word_spec s) (GV (GI []) 0 view_ro) ?_
    rintro v _ ⟨rfl, rfl⟩
    cases hw : isWord s with
    | true =>
     refine RR [] .z (.d (.d (.d (.k .z)))) .a ?_
     refine RZ (NT (RE ?_))
     refine NE [] .z .a [] (.bool false) ?_
     exact ⟨by simp, rfl⟩
    | false =>
     refine RR [] (.d (.d (.d (.d .a)))) (.i 22 (.string (mkS s)) (.i 21 (.bool true) (.d (.d (.d (.k .a)))))) .a ?_
     refine RC (dst := some 23) [] .a (row_spec s hl) ?_
     rintro v _ ⟨rfl, rfl⟩
     refine RR [] .z (.i 2 (.bool ((↑(List.takeWhile ldB s).length : Int) == (↑s.length : Int))) .z) .a ?_
     refine RZ (NT (RE ?_))
     refine NE [] .z .a [] (.bool ((↑(List.takeWhile ldB s).length : Int) == (↑s.length : Int))) ?_
     refine ⟨?_, rfl⟩
     simp only [decide_eq_true h20, Bool.true_and, Bool.not_false, Value.bool.injEq, Bool.and_true, cond_true]
     rw [Bool.eq_iff_iff, beq_iff_eq, beq_iff_eq]; omega
  ·refine fn_enter Tryz.func135 rfl 28 rfl fun w0 h0 => ?_
   refine SQ (RG ?_)
   refine RR [] .z (.i 2 (.bool false) .a) .a ?_
   refine RZ (NT (SQ (RG ?_)))
   refine RR [] (.d (.d (.d .a))) (.i 5 (.bool !decide (s = [])) .a) .a ?_
   refine SR 5 (!decide (s = [])) true hne ?_
   refine RR [] (.d (.d (.d (.d (.d .a))))) (.i 10 (.bool (decide ((↑s.length : Int) ≤ (20 : Int)))) (.d (.d (.k .a)))) .a ?_
   refine SR 10 (decide ((↑s.length : Int) ≤ (20 : Int))) false (decide_eq_false (by omega)) ?_
   refine RR [] .z (.d (.d (.k .z))) .a ?_
   refine RZ (NT (RE ?_))
   refine NE [] .z .a [] (.bool false) ?_
   exact ⟨by simp [h20], rfl⟩
theorem let_dig (c : UInt8) : letB c = (!digB c && ldB c) := by
 unfold ldB
 cases h : letB c with
 | true =>
  have : digB c = false := by
   unfold letB at h
   unfold digB
   simp only [Bool.or_eq_true, Bool.and_eq_true, decide_eq_true_eq, beq_iff_eq] at h
   simp only [Bool.and_eq_false_iff, decide_eq_false_iff_not]
   omega
  simp [this]
 | false => cases digB c <;> rfl
theorem nameB_eq (c : UInt8) (r : List UInt8) : nameB (c :: r) = (decide ((c :: r).length ≤ 20) && letB c && !isWord (c :: r) && r.all ldB) := by
 unfold nameB
 rw [let_dig, List.all_cons]
 dsimp only
 cases decide ((c :: r).length ≤ 20) <;> cases digB c <;> cases isWord (c :: r) <;> cases ldB c <;> cases r.all ldB <;> rfl
theorem rName_spec (s : List UInt8) (hl : s.length ≤ 1048576) : Does Tryz.prog 146 [.string (mkS s)] [] (fun v hp' => v = .bool (nameB s) ∧ hp' = []) := by
 cases s with
 | nil =>
  refine fn_enter Tryz.func146 rfl 40 rfl fun w0 h0 => ?_
  refine SQ (RG ?_)
  refine RR [] .z (.i 2 (.bool false) .a) .a ?_
  refine RZ (NT (SQ (SQ (RG ?_))))
  refine RR [] .z (.i 21 (.bool true) .a) .a ?_
  refine RZ (NT (CT (SQ (RG ?_))))
  refine RR [] .z (.d (.k .a)) .a ?_
  refine RZ (NT (RE (TR ?_)))
  refine NE [] .a .a [] (.bool false) ?_
  exact ⟨rfl, rfl⟩
 | cons c r =>
  have hb : bt (mkS (c :: r)) 0 = (c.toNat : Int) := bt_at (s := c :: r) (i := 0) (by simp)
  rw [nameB_eq]
  obtain ⟨s, hs⟩ : ∃ s, s = c :: r := ⟨_, rfl⟩
  have hpos : s.length = r.length + 1 := by rw [hs]; simp
  rw [← hs] at hb hl ⊢
  by_cases h20 : s.length ≤ 20
  ·rw [decide_eq_true h20]
   refine fn_enter Tryz.func146 rfl 40 rfl fun w0 h0 => ?_
   refine SQ (RG ?_)
   refine RR [] .z (.i 2 (.bool false) .a) .a ?_
   refine RZ (NT (SQ (SQ (RG ?_))))
   refine RR [] (.d (.d (.d (.d .a)))) (.i 7 (.bool (decide ((↑s.length : Int) < (1 : Int)))) .a) .a ?_
   refine SR 7 (decide ((↑s.length : Int) < (1 : Int))) false (decide_eq_false (by omega)) ?_
   refine RR [] (.d (.d (.d (.d (.d .a))))) (.i 12 (.bool (decide ((↑s.length : Int) > (20 : Int)))) (.d (.d (.k .a)))) .a ?_
   refine SR 12 (decide ((↑s.length : Int) > (20 : Int))) false (decide_eq_false (by omega)) ?_
   refine RV true [] (.d (.d .a)) (.i 14 (.int .u8 (bt (mkS s) 0)) (.k (.d (.k .a)))) .a [(0 : Int) ≤ (0 : Int) ∧ (0 : Int) < (↑s.length : Int)] ⟨by omega, trivial⟩ ?_
   rw [hb]
   refine RCA (dst := some 15) (rletter_spec c) ?_
   rintro v _ ⟨rfl, rfl⟩
   cases hd : letB c with
   | false =>
    refine RR [] .z (.i 21 (.bool true) (.d (.d (.d (.k .a))))) .a ?_
    refine RZ (NT (CT (SQ (RG ?_))))
    refine RR [] .z (.d (.k .a)) .a ?_
    refine RZ (NT (RE (TR ?_)))
    refine NE [] .a .a [] (.bool false) ?_
    exact ⟨by simp, rfl⟩
   | true =>
    refine RR [] (.d (.d (.d (.d .a)))) (.i 19 (.string (mkS s)) (.i 18 (.bool false) (.d (.d (.d (.k .a)))))) .a ?_
    refine RCA (dst := some 20) (rWord_spec s) ?_
    rintro v _ ⟨rfl, rfl⟩
    cases hw : isWord s with
    | true =>
     refine RR [] .z (.i 21 (.bool true) (.d (.d (.d (.k .a))))) .a ?_
     refine RZ (NT (CT (SQ (RG ?_))))
     refine RR [] .z (.d (.k .a)) .a ?_
     refine RZ (NT (RE (TR ?_)))
     refine NE [] .a .a [] (.bool false) ?_
     exact ⟨by simp, rfl⟩
    | false =>
     refine RR [] .z (.i 21 (.bool false) (.d (.d (.d (.k .a))))) .a ?_
     refine RZ (NT (CF (SK (NT (SQ (SQ (RG ?_)))))))
     refine RR [] .z (.i 3 (.int .i64 1) (.d (.k .a))) .a ?_
     refine RZ (NT (BK ?_))
     refine wpc_loop (X := {i : Nat // i ≤ r.length ∧ ∀ j, (hj : j < r.length) → j < i → ldB r[j] = true}) (fun x => St.mk [(3, .int .i64 ((x.1 + 1 : Nat) : Int)), (2, .bool false), (0, .string (mkS s))] []) (fun x => r.length - x.1) ⟨0, Nat.zero_le _, fun j _ h => absurd h (Nat.not_lt_zero _)⟩ (ent_fr (by kernel_rfl)) ?_
     rintro ⟨i, hi, hall⟩
     dsimp only at hi hall ⊢
     by_cases hlt : i < r.length
     ·have hbt : bt (mkS s) ((i + 1 : Nat) : Int) = (r[i].toNat : Int) := by rw [bt_at (s := s) (i := i + 1) (by omega)]; simp [hs]
      refine SQ (SQ (RG ?_))
      refine RR [] .z (.i 25 (.bool (decide ((↑(i + (1 : Nat)) : Int) < (↑s.length : Int)))) .a) .a ?_
      refine RZ (NT ?_)
      refine SC 25 (decide ((↑(i + (1 : Nat)) : Int) < (↑s.length : Int))) true (decide_eq_true (by omega)) ?_
      refine CT (SK (NT (SQ (BK (SQ (RG ?_))))))
      refine RV true [] (.d (.d (.d .a))) (.i 30 (.int .u8 (bt (mkS s) (↑(i + 1) : Int))) (.d (.d (.k .a)))) .a ([(0 : Int) ≤ (↑(i + (1 : Nat)) : Int) ∧ (↑(i + (1 : Nat)) : Int) < (↑s.length : Int)]) ⟨by omega, trivial⟩ ?_
      rw [hbt]
      refine RCA (dst := some 31) (rletter_spec r[i]) ?_
      rintro v _ ⟨rfl, rfl⟩
      have hnext : ldB r[i] = true → ∀ j, (hj : j < r.length) → j < i + 1 → ldB r[j] = true := fun h j hj hji => by
       rcases Nat.lt_or_ge j i with h' | h'
       ·exact hall j hj h'
       ·obtain rfl : j = i := by omega
        exact h
      cases h1 : letB r[i] with
      | true =>
       refine RR [] .z (.i 39 (.bool false) (.d (.d (.k .a)))) .a ?_
       refine RZ (NT (CF (SK (BN (NT (RG ?_))))))
       refine RV true [] .z (.i 3 (.int .i64 ((↑(i + 1) : Int) + 1)) (.d (.d (.k .a)))) .a ([inI64 ((↑(i + (1 : Nat)) : Int) + (1 : Int))]) ⟨by unfold inI64; omega, trivial⟩ ?_
       refine RZ ?_
       exact fun a' w' hS' => ⟨⟨i + 1, hlt, hnext (by unfold ldB; rw [h1]; rfl)⟩, by dsimp only; omega, ent_fr (by kernel_rfl) _ _ (ent_hp [] rfl _ _ hS')⟩
      | false =>
       refine RV true [] (.d (.d (.d (.d (.d .a))))) (.i 36 (.int .u8 (bt (mkS s) (↑(i + 1) : Int))) (.i 33 (.bool true) (.d (.d (.k .a))))) .a ([(0 : Int) ≤ (↑(i + (1 : Nat)) : Int) ∧ (↑(i + (1 : Nat)) : Int) < (↑s.length : Int)]) ⟨by omega, trivial⟩ ?_
       rw [hbt]
       refine RCA (dst := some 37) (rdigit_spec r[i]) ?_
       rintro v _ ⟨rfl, rfl⟩
       cases h2 : digB r[i] with
       | true =>
        refine RR [] .z (.i 39 (.bool false) (.d (.d (.d (.k .a))))) .a ?_
        refine RZ (NT (CF (SK (BN (NT (RG ?_))))))
        refine RV true [] .z (.i 3 (.int .i64 ((↑(i + 1) : Int) + 1)) (.d (.d (.k .a)))) .a ([inI64 ((↑(i + (1 : Nat)) : Int) + (1 : Int))]) ⟨by unfold inI64; omega, trivial⟩ ?_
        refine RZ ?_
        exact fun a' w' hS' => ⟨⟨i + 1, hlt, hnext (by unfold ldB; rw [h1, h2]; rfl)⟩, by dsimp only; omega, ent_fr (by kernel_rfl) _ _ (ent_hp [] rfl _ _ hS')⟩
       | false =>
        refine RR [] .z (.i 39 (.bool true) (.d (.d (.d (.k .a))))) .a ?_
        refine RZ (NT (CT (SQ (RG ?_))))
        refine RR [] .z (.i 2 (.bool false) (.d (.k (.d (.k .a))))) .a ?_
        refine RZ (NT (RE (BR (TR (TR (BR (TR ?_)))))))
        refine NE [] .a .a [] (.bool false) ?_
        refine ⟨?_, rfl⟩
        have : r.all ldB = false := by
         cases h3 : r.all ldB with
         | false => rfl
         | true =>
          have h4 := List.all_eq_true.1 h3 r[i] (List.getElem_mem hlt)
          unfold ldB at h4
          rw [h1, h2] at h4
          cases h4
        simp [this]
     ·refine SQ (SQ (RG ?_))
      refine RR [] .z (.i 25 (.bool (decide ((↑(i + (1 : Nat)) : Int) < (↑s.length : Int)))) .a) .a ?_
      refine RZ (NT ?_)
      refine SC 25 (decide ((↑(i + (1 : Nat)) : Int) < (↑s.length : Int))) false (decide_eq_false (by omega)) ?_
      refine CF (EX (TE (TE (BH (NT (SQ (RG ?_)))))))
      refine RR [] .z (.i 2 (.bool true) .z) .a ?_
      refine RZ (NT (RE ?_))
      refine NE [] .a .a [] (.bool true) ?_
      refine ⟨?_, rfl⟩
      have : r.all ldB = true := List.all_eq_true.2 fun x hx => by
       obtain ⟨j, hj⟩ := List.getElem?_of_mem hx
       obtain ⟨hj1, rfl⟩ := List.getElem?_eq_some_iff.1 hj
       exact hall j hj1 (by omega)
      simp [this]
  ·rw [decide_eq_false h20]
   refine fn_enter Tryz.func146 rfl 40 rfl fun w0 h0 => ?_
   refine SQ (RG ?_)
   refine RR [] .z (.i 2 (.bool false) .a) .a ?_
   refine RZ (NT (SQ (SQ (RG ?_))))
   refine RR [] (.d (.d (.d (.d .a)))) (.i 7 (.bool (decide ((↑s.length : Int) < (1 : Int)))) .a) .a ?_
   refine SR 7 (decide ((↑s.length : Int) < (1 : Int))) false (decide_eq_false (by omega)) ?_
   refine RR [] (.d (.d (.d (.d (.d .a))))) (.i 12 (.bool (decide ((↑s.length : Int) > (20 : Int)))) (.d (.d (.k .a)))) .a ?_
   refine SR 12 (decide ((↑s.length : Int) > (20 : Int))) true (decide_eq_true (by omega)) ?_
   refine RR [] .z (.i 21 (.bool true) (.d (.d (.k .a)))) .a ?_
   refine RZ (NT (CT (SQ (RG ?_))))
   refine RR [] .z (.d (.k .a)) .a ?_
   refine RZ (NT (RE (TR ?_)))
   refine NE [] .a .a [] (.bool false) ?_
   exact ⟨by simp, rfl⟩
end Go.Proofs.YtgcfomhlgipllaaGreatDoor
namespace Go.Proofs.YtgcfomhlgipllaaGreatDoor
open Go Go.Sx
def plB (c : Int) : Bool := c == 10 || (decide (32 ≤ c) && decide (c ≤ 126))
theorem bad_spec (c : Int) : Does Tryz.prog 175 [.int .i32 c] [] (fun v hp' => v = .bool (!plB c) ∧ hp' = []) := by
 unfold plB
 rcases (by omega : (c = 10) ∨ (¬ c = 10 ∧ c < 32) ∨ (¬ c = 10 ∧ 32 ≤ c ∧ c ≤ 126) ∨ (¬ c = 10 ∧ 32 ≤ c ∧ ¬ c ≤ 126)) with h1 | ⟨h1, h2⟩ | ⟨h1, h2, h3⟩ | ⟨h1, h2, h3⟩
 ·refine fn_enter Tryz.func175 rfl 13 rfl fun w0 h0 => ?_
  refine SQ (RG ?_)
  refine RR [] .z (.i 2 (.bool false) .a) .a ?_
  refine RZ (NT (SQ (RG ?_)))
  refine RR [] (.d (.d (.d .a))) (.i 5 (.bool (c != (10 : Int))) .a) .a ?_
  refine SR 5 (c != (10 : Int)) false (by simp only [bne_eq_false_iff_eq, beq_eq_false_iff_ne, ne_eq]; omega) ?_
  refine RR [] .z (.d (.d (.k .z))) .a ?_
  refine RZ (NT (RE ?_))
  refine NE [] .a .a [] (.bool false) ?_
  exact ⟨by simp [h1], rfl⟩
 ·refine fn_enter Tryz.func175 rfl 13 rfl fun w0 h0 => ?_
  refine SQ (RG ?_)
  refine RR [] .z (.i 2 (.bool false) .a) .a ?_
  refine RZ (NT (SQ (RG ?_)))
  refine RR [] (.d (.d (.d .a))) (.i 5 (.bool (c != (10 : Int))) .a) .a ?_
  refine SR 5 (c != (10 : Int)) true (by simp only [bne_iff_ne, beq_iff_eq, ne_eq]; omega) ?_
  refine RR [] (.d (.d (.d .a))) (.i 8 (.bool (decide (c < (32 : Int)))) (.k (.d (.k .a)))) .a ?_
  refine SR 8 (decide (c < (32 : Int))) true (decide_eq_true (by omega)) ?_
  refine RR [] .z (.i 2 (.bool true) .z) .a ?_
  refine RZ (NT (RE ?_))
  refine NE [] .a .a [] (.bool true) ?_
  exact ⟨by rw [Value.bool.injEq, Bool.eq_iff_iff]; simp; omega, rfl⟩
 ·refine fn_enter Tryz.func175 rfl 13 rfl fun w0 h0 => ?_
  refine SQ (RG ?_)
  refine RR [] .z (.i 2 (.bool false) .a) .a ?_
  refine RZ (NT (SQ (RG ?_)))
  refine RR [] (.d (.d (.d .a))) (.i 5 (.bool (c != (10 : Int))) .a) .a ?_
  refine SR 5 (c != (10 : Int)) true (by simp only [bne_iff_ne, beq_iff_eq, ne_eq]; omega) ?_
  refine RR [] (.d (.d (.d .a))) (.i 8 (.bool (decide (c < (32 : Int)))) (.k (.d (.k .a)))) .a ?_
  refine SR 8 (decide (c < (32 : Int))) false (decide_eq_false (by omega)) ?_
  refine RR [] .z (.i 2 (.bool (decide (c > (126 : Int)))) .z) .a ?_
  refine RZ (NT (RE ?_))
  refine NE [] .a .a [] (.bool (decide (c > 126))) ?_
  exact ⟨by rw [Value.bool.injEq, Bool.eq_iff_iff]; simp; omega, rfl⟩
 ·refine fn_enter Tryz.func175 rfl 13 rfl fun w0 h0 => ?_
  refine SQ (RG ?_)
  refine RR [] .z (.i 2 (.bool false) .a) .a ?_
  refine RZ (NT (SQ (RG ?_)))
  refine RR [] (.d (.d (.d .a))) (.i 5 (.bool (c != (10 : Int))) .a) .a ?_
  refine SR 5 (c != (10 : Int)) true (by simp only [bne_iff_ne, beq_iff_eq, ne_eq]; omega) ?_
  refine RR [] (.d (.d (.d .a))) (.i 8 (.bool (decide (c < (32 : Int)))) (.k (.d (.k .a)))) .a ?_
  refine SR 8 (decide (c < (32 : Int))) false (decide_eq_false (by omega)) ?_
  refine RR [] .z (.i 2 (.bool (decide (c > (126 : Int)))) .z) .a ?_
  refine RZ (NT (RE ?_))
  refine NE [] .a .a [] (.bool (decide (c > 126))) ?_
  exact ⟨by rw [Value.bool.injEq, Bool.eq_iff_iff]; simp; omega, rfl⟩
def pairsL : List (List UInt8) := [[92], [92, 92], [34], [92, 34], [10], [92, 110]]
theorem NewReplacer_spec (g0 : Nat) : Does Tryz.prog 177 [.slice (some ⟨g0, 0, none⟩) 6 6] [ro (some ⟨g0, 0, none⟩) (pairsL.map strV)] (fun v hp' => ∃ g a c, v = .pointer (some ⟨g, 0, none⟩) ∧ hp' = [.blk g 286 [.int .u32 0, .int .i32 0, .int .u32 0, .nilIface, .slice a 6 c], row 9 1 a 6 c (pairsL.map strV)]) := by
 refine fn_enter Tryz.func177 rfl 12 rfl fun w0 h0 => ?_
 refine SQ (RG ?_)
 refine RR [] .z (.i 2 (.pointer none) .a) .a ?_
 refine RZ (NT (SQ (SQ (RG ?_))))
 refine RV true [] .z (.i 6 (.bool false) .a) .a [(2 : Int) ≠ (0 : Int)] ⟨by omega, trivial⟩ ?_
 refine RZ (NT (CF (SK (NT (SQ (RG ?_))))))
 refine RR [] (.d .a) (.i 8 (.slice (some ⟨g0, 0, none⟩) 6 6) (.d (.k .z))) .a ?_
 refine wpr_ent (ent_nil 9 1) ?_
 refine wpr_app (a := none) (n := 0) (cap := 0) (x := (.slice (some ⟨g0, 0, none⟩) 6 6)) (t := 22) (xt := 22) (dst := some 9) (by kernel_rfl) (e := 9) (sz := 1) (bytes := 16) (by kernel_rfl) 0 (xs := []) (by kernel_rfl) (m := 6) (news := (pairsL.map strV)) (fun w h => src_ro h 1 rfl rfl (fun e => by cases e)) (by unfold maxLen; omega) (by omega) ?_
 intro a c hac
 refine RP [] (.d (.d .a)) 11 (.d (.d (.k .a))) .a 286 [.int .u32 0, .int .i32 0, .int .u32 0, Value.nilIface, .slice a 6 c] fun g1 => ?_
 refine RR [] .z (.i 2 (.pointer (some ⟨g1, 0, none⟩)) .z) .a ?_
 refine RZ (NT (RE ?_))
 refine NE [2, 0] (.i (.blk g1 286 [.int .u32 0, .int .i32 0, .int .u32 0, Value.nilIface, .slice a 6 c]) (.k .z)) (.d (.k .z)) [] (.pointer (some ⟨g1, 0, none⟩)) ?_
 exact ⟨g1, a, c, rfl, rfl⟩
theorem bLoad_spec (g : Nat) (v o1 o2 : Int) (r o : Value) : Does Tryz.prog 211 [.pointer (some ⟨g, 0, none⟩)] [.blk g 286 [.int .u32 v, .int .i32 o1, .int .u32 o2, r, o]] (fun x hp' => x = .bool (v != 0) ∧ hp' = [.blk g 286 [.int .u32 v, .int .i32 o1, .int .u32 o2, r, o]]) := by
 refine fn_enter Tryz.func211 rfl 8 rfl fun w0 h0 => ?_
 refine SQ (RG ?_)
 refine RR [] .z (.i 2 (.bool false) .a) .a ?_
 refine RZ (NT (SQ (RG ?_)))
 refine RR [0] .z (.i 2 (.bool (v != (0 : Int))) .z) .a ?_
 refine RZ (NT (RE ?_))
 refine NE [0] .a .z [] (.bool (v != 0)) ?_
 exact ⟨rfl, rfl⟩
theorem b32_spec : Does Tryz.prog 232 [.bool true] [] (fun x hp' => x = .int .u32 1 ∧ hp' = []) := by
 refine fn_enter Tryz.func232 rfl 4 rfl fun w0 h0 => ?_
 refine SQ (RG ?_)
 refine RR [] .z (.i 2 (.int .u32 0) .a) .a ?_
 refine RZ (NT (SQ (SQ (RG ?_))))
 refine RR [] .z (.i 3 (.bool true) (.k .z)) .a ?_
 refine RZ (NT (CT (SQ (RG ?_))))
 refine RR [] .z (.i 2 (.int .u32 1) .z) .a ?_
 refine RZ (NT (RE (TR ?_)))
 refine NE [] .a .a [] (.int .u32 1) ?_
 exact ⟨rfl, rfl⟩
theorem iLock_spec (g : Nat) (v o2 : Int) (r o : Value) : Does Tryz.prog 229 [.pointer (some ⟨g, 1, none⟩)] [.blk g 286 [.int .u32 v, .int .i32 0, .int .u32 o2, r, o]] (fun x hp' => x = .tuple #[] ∧ hp' = [.blk g 286 [.int .u32 v, .int .i32 1, .int .u32 o2, r, o]]) := by
 refine fn_enter Tryz.func229 rfl 13 rfl fun w0 h0 => ?_
 refine SQ (RG ?_)
 refine RR [] .z .a .a ?_
 refine RZ (NT (SQ (SQ (RG ?_))))
 refine RR [0, 0, 0, 0] .z (.i 6 (.bool true) .a) (.u (.k (.i (.int .i32 1) (.d (.k .a)))) .a) ?_
 refine RZ (NT (CT (SQ (CT (SQ (RG ?_))))))
 refine RR [] .z (.d (.k .a)) .a ?_
 refine RZ (NT (RG ?_))
 refine RR [0, 0] .z .a .a ?_
 refine RZ (NT (RE (TR ?_)))
 refine NE [0] .a .z [] (.tuple #[]) ?_
 exact ⟨rfl, rfl⟩
theorem Lock_spec (g : Nat) (v o2 : Int) (r o : Value) : Does Tryz.prog 222 [.pointer (some ⟨g, 1, none⟩)] [.blk g 286 [.int .u32 v, .int .i32 0, .int .u32 o2, r, o]] (fun x hp' => x = .tuple #[] ∧ hp' = [.blk g 286 [.int .u32 v, .int .i32 1, .int .u32 o2, r, o]]) := by
 refine fn_enter Tryz.func222 rfl 6 rfl fun w0 h0 => ?_
 refine RG ?_
 refine RR [] (.d (.d (.d .a))) (.i 4 (.pointer (some ⟨g, 1, none⟩)) .z) .a ?_
 refine RCA (dst := some 5) (iLock_spec g v o2 r o) ?_
 rintro v _ ⟨rfl, rfl⟩
 refine RZ ?_
 refine NE [0] .a .z [] (.tuple #[]) ?_
 exact ⟨rfl, rfl⟩
theorem iUnlock_spec (g : Nat) (v o2 : Int) (r o : Value) : Does Tryz.prog 230 [.pointer (some ⟨g, 1, none⟩)] [.blk g 286 [.int .u32 v, .int .i32 1, .int .u32 o2, r, o]] (fun x hp' => x = .tuple #[] ∧ hp' = [.blk g 286 [.int .u32 v, .int .i32 0, .int .u32 o2, r, o]]) := by
 refine fn_enter Tryz.func230 rfl 21 rfl fun w0 h0 => ?_
 refine SQ (CT (SQ (RG ?_)))
 refine RR [0] .z .a .a ?_
 refine RZ (NT (SQ (RG ?_)))
 refine RR [0, 0] .z .a .a ?_
 refine RZ (NT (RG ?_))
 refine RR [] .z .a .a ?_
 refine RZ (NT (SQ (RG ?_)))
 refine RR [0, 0] .z (.i 2 (.int .i32 0) .a) (.u (.k (.i (.int .i32 0) (.d (.k .a)))) .a) ?_
 refine RZ (NT (SQ (SQ (RG ?_))))
 refine RR [] .z (.i 16 (.bool false) .a) .a ?_
 refine RZ (NT (CF (SK (NT (RG ?_)))))
 refine RR [] .z .z .a ?_
 refine RZ ?_
 refine NE [0] .a .z [] (.tuple #[]) ?_
 exact ⟨rfl, rfl⟩
end Go.Proofs.YtgcfomhlgipllaaGreatDoor
