import Derived.Lib.Bytealg
import Derived.Test.YtgcfomhlgipllaaGreatDoorCc2
set_option linter.unusedVariables false
set_option linter.unusedSimpArgs false
namespace Go.Proofs.YtgcfomhlgipllaaGreatDoor
open Go Go.Sx
def repC (R : Nat → Value) (t : Value) : List Value := (List.range 256).map R ++ [t]
theorem repC_len (R : Nat → Value) (t : Value) : (repC R t).length = 257 := by simp [repC]
def upd (R : Nat → Value) (q : Nat) (v : Value) : Nat → Value := fun i => if i = q then v else R i
theorem repC_at {R : Nat → Value} {t : Value} {q : Nat} (hq : q < 256) : ((repC R t).drop (q * 1)).take 1 = [R q] := by
 rw [Nat.mul_one, List.drop_eq_getElem_cons (by rw [repC_len]; omega)]
 simp [repC, List.getElem_append, hq]
theorem repC_t {R : Nat → Value} {t : Value} : ((repC R t).drop 256).take 1 = [t] := by
 unfold repC
 rw [List.drop_left' (by simp)]
 rfl
theorem set_parts {l : List Value} {q : Nat} (hq : q < l.length) (v : Value) : l.take q ++ [v] ++ l.drop (q + 1) = l.set q v := by
 rw [List.set_eq_take_append_cons_drop, if_pos hq]; simp
theorem repC_set {R : Nat → Value} {t v : Value} {q : Nat} (hq : q < 256) : (repC R t).take q ++ [v] ++ (repC R t).drop (q + 1) = repC (upd R q v) t := by
 have hl := repC_len R t
 rw [set_parts (by omega)]
 apply List.ext_getElem?
 intro i
 rw [List.getElem?_set]
 by_cases h : q = i
 ·subst h
  simp [repC, upd, List.getElem?_append, hq]
  omega
 ·rw [if_neg h]
  by_cases h256 : i < 256
  ·simp [repC, upd, List.getElem?_append, h256, show ¬ i = q from fun e => h e.symm]
  ·simp [repC, upd, List.getElem?_append, h256]
theorem repC_setT {R : Nat → Value} {t v : Value} : (repC R t).take 256 ++ [v] ++ (repC R t).drop (256 + 1) = repC R v := by
 unfold repC
 rw [List.take_left' (by simp), List.drop_eq_nil_of_le (by simp)]
 simp
def sl2 (x : Nat × Nat) : Value := .slice (some ⟨x.1, 0, none⟩) 2 x.2
def repR (k : Nat) (p : Nat → Nat × Nat) : Nat → Value := fun i => if i = 10 ∧ k ≤ 2 then sl2 (p 2) else if i = 34 ∧ k ≤ 1 then sl2 (p 1) else if i = 92 ∧ k ≤ 0 then sl2 (p 0) else .slice none 0 0
def newL : Nat → List UInt8 | 0 => [92, 92] | 1 => [92, 34] | _ => [92, 110]
def repRow (p : Nat → Nat × Nat) (j : Nat) : Ch := row 5 1 (some ⟨(p j).1, 0, none⟩) 2 (p j).2 (u8s (newL j))
def repRows (k : Nat) (p : Nat → Nat × Nat) : Hp := ([2, 1, 0].take (3 - k)).map (repRow p)
def toRep (k : Nat) : List Value := (([[10], [34], [92]] : List (List UInt8)).take (3 - k)).map strV
theorem repR3 (p : Nat → Nat × Nat) : (fun _ => Value.slice none 0 0) = repR 3 p := by
 funext i; simp [repR]
def updp (p : Nat → Nat × Nat) (j : Nat) (x : Nat × Nat) : Nat → Nat × Nat := fun i => if i = j then x else p i
theorem repR2 (p : Nat → Nat × Nat) (x : Nat × Nat) : upd (repR 3 p) 10 (sl2 x) = repR 2 (updp p 2 x) := by
 funext i; simp [repR, upd, updp]
theorem repR1 (p : Nat → Nat × Nat) (x : Nat × Nat) : upd (repR 2 p) 34 (sl2 x) = repR 1 (updp p 1 x) := by
 funext i; simp only [repR, upd, updp]; by_cases h : i = 34
 ·subst h; simp
 ·simp [h]
theorem repR0 (p : Nat → Nat × Nat) (x : Nat × Nat) : upd (repR 1 p) 92 (sl2 x) = repR 0 (updp p 0 x) := by
 funext i; simp only [repR, upd, updp]; by_cases h : i = 92
 ·subst h; simp
 ·simp [h]
structure B2 where
 k : Nat
 p : Nat → Nat × Nat
 ta : Option Addr
 tc : Nat
 hk : k ≤ 3
set_option maxRecDepth 10000 in
theorem build_spec (g : Nat) (r : Value) (a : Option Addr) (c : Nat) : Does Tryz.prog 213 [.pointer (some ⟨g, 0, none⟩)] [.blk g 286 [.int .u32 0, .int .i32 1, .int .u32 0, r, .slice a 6 c], row 9 1 a 6 c (pairsL.map strV)] (fun x hp' => ∃ g2 p ta tc, x = .iface 313 (.pointer (some ⟨g2, 0, none⟩)) ∧ hp' = [.blk g 286 [.int .u32 0, .int .i32 1, .int .u32 0, r, .slice a 6 c], row 9 1 a 6 c (pairsL.map strV), row 9 1 ta 3 tc (toRep 0), row 312 1 (some ⟨g2, 0, none⟩) 257 257 (repC (repR 0 p) (.slice ta 3 tc)), star (repRows 0 p)]) := by
 refine fn_enter Tryz.func213 rfl 132 rfl fun w0 h0 => ?_
 refine SQ (RG ?_)
 refine RR [] .z (.i 2 Value.nilIface .a) .a ?_
 refine RZ (NT (SQ (RG ?_)))
 refine RR [0] .z (.i 3 (.slice a 6 c) (.k .z)) .a ?_
 refine RZ (NT (SQ (SQ (RG ?_))))
 refine RR [] .z (.i 28 (.bool false) .a) .a ?_
 refine RZ (NT (CF (SK (NT (SQ (RG ?_))))))
 refine RR [] .z (.i 4 (.bool true) (.d (.k .a))) .a ?_
 refine RZ (NT (SQ (SQ (RG ?_))))
 refine RR [] .z (.i 5 (.int .i64 0) .a) .a ?_
 refine RZ (NT (BK ?_))
 refine wpc_fact (fun w h => row_addr h 1 rfl (by decide)) ?_
 rintro ⟨ga, oa, rfl⟩
 refine wpc_loop (X := {x : Nat × Bool // x.1 ≤ 3 ∧ (0 < x.1 → x.2 = false)}) (fun x => St.mk [(5, .int .i64 ((2 * x.1.1 : Nat) : Int)), (4, .bool x.1.2), (3, .slice (some ⟨ga, oa, none⟩) 6 c), (2, Value.nilIface)] [.blk g 286 [.int .u32 0, .int .i32 1, .int .u32 0, r, .slice (some ⟨ga, oa, none⟩) 6 c], row 9 1 (some ⟨ga, oa, none⟩) 6 c (pairsL.map strV)]) (fun x => 3 - x.1.1) ⟨(0, true), by decide, fun h => absurd h (by decide)⟩ (ent_fr (by kernel_rfl)) ?_
 rintro ⟨⟨k, b⟩, hk, hb⟩
 dsimp only at hk hb ⊢
 by_cases hlt : k < 3
 ·have hi0 : 2 * k < pairsL.length := by show 2 * k < 6; omega
  have hi1 : 2 * k + 1 < pairsL.length := by show 2 * k + 1 < 6; omega
  have e0 : (pairsL[2 * k]).length = 1 := by
   rcases (by omega : k = 0 ∨ k = 1 ∨ k = 2) with rfl | rfl | rfl <;> rfl
  have e1 : (pairsL[2 * k + 1]).length = 2 := by
   rcases (by omega : k = 0 ∨ k = 1 ∨ k = 2) with rfl | rfl | rfl <;> rfl
  refine SQ (SQ (RG ?_))
  refine RR [] .z (.i 40 (.bool (decide ((↑((2 : Nat) * k) : Int) < (6 : Int)))) .a) .a ?_
  refine RZ (NT ?_)
  refine SC 40 (decide ((↑((2 : Nat) * k) : Int) < (6 : Int))) true (decide_eq_true (by omega)) ?_
  refine CT (SK (NT (SQ (BK (SQ (SQ (RG ?_)))))))
  refine RV true [] (.d (.d (.d .a))) (.i 45 (.pointer (some ⟨ga, oa + 2 * k * 1, none⟩)) (.d (.d (.k .a)))) .a [(0 : Int) ≤ (↑((2 : Nat) * k) : Int) ∧ (↑((2 : Nat) * k) : Int) < (↑(6 : Nat) : Int)] ⟨by omega, trivial⟩ ?_
  refine wpr_eq (ld (t := 9) (a := (⟨ga, oa + 2 * k * 1, none⟩)) (dst := some 46) (by kernel_rfl) false 1 (by kernel_rfl) (by simp) [.string (mkS (pairsL[2 * k]))] rfl (fun w h => ld_row h 1 rfl (2 * k * 1) (map_at strV hi0))) ?_
  refine RR [] .z (.i 48 (.bool ((↑pairsL[(2 : Nat) * k].length : Int) != (1 : Int))) (.d (.d (.k .a)))) .a ?_
  refine RZ (NT ?_)
  refine SC 48 ((↑pairsL[(2 : Nat) * k].length : Int) != (1 : Int)) false (by simp only [bne_eq_false_iff_eq, beq_eq_false_iff_ne, ne_eq]; omega) ?_
  refine CF (SK (NT (SQ (RG ?_))))
  refine RV true [] (.d (.d (.d (.d .a)))) (.i 55 (.pointer (some ⟨ga, oa + Int.toNat ((↑(2 * k) : Int) + 1) * 1, none⟩)) (.d (.d (.k .a)))) .a ([inI64 ((↑((2 : Nat) * k) : Int) + (1 : Int)), (0 : Int) ≤ (↑((2 : Nat) * k) : Int) + (1 : Int) ∧ (↑((2 : Nat) * k) : Int) + (1 : Int) < (↑(6 : Nat) : Int)]) ⟨by unfold inI64; omega, by omega, trivial⟩ ?_
  rw [show (((2 * k : Nat) : Int) + 1).toNat = 2 * k + 1 by omega]
  refine wpr_eq (ld (t := 9) (a := (⟨ga, oa + (2 * k + 1) * 1, none⟩)) (dst := some 56) (by kernel_rfl) false 1 (by kernel_rfl) (by simp) [.string (mkS (pairsL[2 * k + 1]))] rfl (fun w h => ld_row h 1 rfl ((2 * k + 1) * 1) (map_at strV hi1))) ?_
  refine RR [] .z (.i 58 (.bool ((↑pairsL[(2 : Nat) * k + (1 : Nat)].length : Int) != (1 : Int))) (.d (.d (.k .a)))) .a ?_
  refine RZ (NT ?_)
  refine SC 58 ((↑pairsL[(2 : Nat) * k + (1 : Nat)].length : Int) != (1 : Int)) true (by simp only [bne_iff_ne, beq_iff_eq, ne_eq]; omega) ?_
  refine CT (RG ?_)
  refine RR [] .z (.i 4 (.bool false) (.d (.d (.k (.d (.k .a)))))) .a ?_
  refine RZ (BN (NT (RG ?_)))
  refine RV true [] .z (.i 5 (.int .i64 ((↑(2 * k) : Int) + 2)) (.k (.d (.k .a)))) .a ([inI64 ((↑((2 : Nat) * k) : Int) + (2 : Int))]) ⟨by unfold inI64; omega, trivial⟩ ?_
  refine RZ ?_
  exact fun a' w' hS' => ⟨⟨(k + 1, false), by omega, fun _ => rfl⟩, by dsimp only; omega, ent_fr (by kernel_rfl) _ _ (ent_hp [0, 0] rfl _ _ hS')⟩
 ·have h62 : Int.tdiv 6 2 = 3 := by decide
  obtain rfl : k = 3 := by omega
  obtain rfl : b = false := hb (by decide)
  refine SQ (SQ (RG ?_))
  refine RR [] .z (.i 40 (.bool false) (.i 5 (.int .i64 6) (.d (.k .a)))) .a ?_
  refine RZ (NT (CF (EX (TE (TE (BH (NT (SQ (SQ (RG ?_))))))))))
  refine RR [] .z (.i 59 (.bool false) (.d (.d (.d (.k .a))))) .a ?_
  refine RZ (NT (CF (SK (NT (SQ (RG ?_))))))
  refine wpr_new (l₂ := [4, 5, 6]) true [0, 1, 2, 3] [] (fun g1 => [(94, .slice (some ⟨g1, 0, none⟩) 0 3), (3, .slice (some ⟨ga, oa, none⟩) 6 c), (2, Value.nilIface)]) (fun g1 => [.blk g 286 [.int .u32 0, .int .i32 1, .int .u32 0, r, .slice (some ⟨ga, oa, none⟩) 6 c], row 9 1 (some ⟨ga, oa, none⟩) 6 c (List.map strV pairsL), .blk g1 9 [.string ⟨#[]⟩, .string ⟨#[]⟩, .string ⟨#[]⟩]]) (fun g1 => [(2 : Int) ≠ (0 : Int) ∧ inI64 (Int.tdiv (6 : Int) (2 : Int))]) (fun g1 => by kernel_rfl) (fun g1 => by kernel_rfl) (fun g1 => ⟨by unfold inI64; omega, trivial⟩) fun g1 => ?_
  refine RP [] (.d (.d .a)) 11 (.i 95 (.agg #[.slice none 0 0, .slice none 0 0, .slice none 0 0, .slice none 0 0, .slice none 0 0, .slice none 0 0, .slice none 0 0, .slice none 0 0, .slice none 0 0, .slice none 0 0, .slice none 0 0, .slice none 0 0, .slice none 0 0, .slice none 0 0, .slice none 0 0, .slice none 0 0, .slice none 0 0, .slice none 0 0, .slice none 0 0, .slice none 0 0, .slice none 0 0, .slice none 0 0, .slice none 0 0, .slice none 0 0, .slice none 0 0, .slice none 0 0, .slice none 0 0, .slice none 0 0, .slice none 0 0, .slice none 0 0, .slice none 0 0, .slice none 0 0, .slice none 0 0, .slice none 0 0, .slice none 0 0, .slice none 0 0, .slice none 0 0, .slice none 0 0, .slice none 0 0, .slice none 0 0, .slice none 0 0, .slice none 0 0, .slice none 0 0, .slice none 0 0, .slice none 0 0, .slice none 0 0, .slice none 0 0, .slice none 0 0, .slice none 0 0, .slice none 0 0, .slice none 0 0, .slice none 0 0, .slice none 0 0, .slice none 0 0, .slice none 0 0, .slice none 0 0, .slice none 0 0, .slice none 0 0, .slice none 0 0, .slice none 0 0, .slice none 0 0, .slice none 0 0, .slice none 0 0, .slice none 0 0, .slice none 0 0, .slice none 0 0, .slice none 0 0, .slice none 0 0, .slice none 0 0, .slice none 0 0, .slice none 0 0, .slice none 0 0, .slice none 0 0, .slice none 0 0, .slice none 0 0, .slice none 0 0, .slice none 0 0, .slice none 0 0, .slice none 0 0, .slice none 0 0, .slice none 0 0, .slice none 0 0, .slice none 0 0, .slice none 0 0, .slice none 0 0, .slice none 0 0, .slice none 0 0, .slice none 0 0, .slice none 0 0, .slice none 0 0, .slice none 0 0, .slice none 0 0, .slice none 0 0, .slice none 0 0, .slice none 0 0, .slice none 0 0, .slice none 0 0, .slice none 0 0, .slice none 0 0, .slice none 0 0, .slice none 0 0, .slice none 0 0, .slice none 0 0, .slice none 0 0, .slice none 0 0, .slice none 0 0, .slice none 0 0, .slice none 0 0, .slice none 0 0, .slice none 0 0, .slice none 0 0, .slice none 0 0, .slice none 0 0, .slice none 0 0, .slice none 0 0, .slice none 0 0, .slice none 0 0, .slice none 0 0, .slice none 0 0, .slice none 0 0, .slice none 0 0, .slice none 0 0, .slice none 0 0, .slice none 0 0, .slice none 0 0, .slice none 0 0, .slice none 0 0, .slice none 0 0, .slice none 0 0, .slice none 0 0, .slice none 0 0, .slice none 0 0, .slice none 0 0, .slice none 0 0, .slice none 0 0, .slice none 0 0, .slice none 0 0, .slice none 0 0, .slice none 0 0, .slice none 0 0, .slice none 0 0, .slice none 0 0, .slice none 0 0, .slice none 0 0, .slice none 0 0, .slice none 0 0, .slice none 0 0, .slice none 0 0, .slice none 0 0, .slice none 0 0, .slice none 0 0, .slice none 0 0, .slice none 0 0, .slice none 0 0, .slice none 0 0, .slice none 0 0, .slice none 0 0, .slice none 0 0, .slice none 0 0, .slice none 0 0, .slice none 0 0, .slice none 0 0, .slice none 0 0, .slice none 0 0, .slice none 0 0, .slice none 0 0, .slice none 0 0, .slice none 0 0, .slice none 0 0, .slice none 0 0, .slice none 0 0, .slice none 0 0, .slice none 0 0, .slice none 0 0, .slice none 0 0, .slice none 0 0, .slice none 0 0, .slice none 0 0, .slice none 0 0, .slice none 0 0, .slice none 0 0, .slice none 0 0, .slice none 0 0, .slice none 0 0, .slice none 0 0, .slice none 0 0, .slice none 0 0, .slice none 0 0, .slice none 0 0, .slice none 0 0, .slice none 0 0, .slice none 0 0, .slice none 0 0, .slice none 0 0, .slice none 0 0, .slice none 0 0, .slice none 0 0, .slice none 0 0, .slice none 0 0, .slice none 0 0, .slice none 0 0, .slice none 0 0, .slice none 0 0, .slice none 0 0, .slice none 0 0, .slice none 0 0, .slice none 0 0, .slice none 0 0, .slice none 0 0, .slice none 0 0, .slice none 0 0, .slice none 0 0, .slice none 0 0, .slice none 0 0, .slice none 0 0, .slice none 0 0, .slice none 0 0, .slice none 0 0, .slice none 0 0, .slice none 0 0, .slice none 0 0, .slice none 0 0, .slice none 0 0, .slice none 0 0, .slice none 0 0, .slice none 0 0, .slice none 0 0, .slice none 0 0, .slice none 0 0, .slice none 0 0, .slice none 0 0, .slice none 0 0, .slice none 0 0, .slice none 0 0, .slice none 0 0, .slice none 0 0, .slice none 0 0, .slice none 0 0, .slice none 0 0, .slice none 0 0, .slice none 0 0, .slice none 0 0, .slice none 0 0, .slice none 0 0, .slice none 0 0, .slice none 0 0, .slice none 0 0, .slice none 0 0, .slice none 0 0, .slice none 0 0, .slice none 0 0, .slice none 0 0, .slice none 0 0, .slice none 0 0, .slice none 0 0, .slice none 0 0, .slice (some ⟨g1, 0, none⟩) 0 3]) (.d (.k .a))) .a 312 (List.replicate 257 (Value.slice none 0 0)) fun g2 => ?_
  refine RR (List.replicate 257 3) .z (.k (.d (.k .a))) (.k (.k (.k (.u (.k (.k (.k (.k (.k (.k (.k (.k (.k (.k (.k (.k (.k (.k (.k (.k (.k (.k (.k (.k (.k (.k (.k (.k (.k (.k (.k (.k (.k (.k (.k (.k (.k (.k (.k (.k (.k (.k (.k (.k (.k (.k (.k (.k (.k (.k (.k (.k (.k (.k (.k (.k (.k (.k (.k (.k (.k (.k (.k (.k (.k (.k (.k (.k (.k (.k (.k (.k (.k (.k (.k (.k (.k (.k (.k (.k (.k (.k (.k (.k (.k (.k (.k (.k (.k (.k (.k (.k (.k (.k (.k (.k (.k (.k (.k (.k (.k (.k (.k (.k (.k (.k (.k (.k (.k (.k (.k (.k (.k (.k (.k (.k (.k (.k (.k (.k (.k (.k (.k (.k (.k (.k (.k (.k (.k (.k (.k (.k (.k (.k (.k (.k (.k (.k (.k (.k (.k (.k (.k (.k (.k (.k (.k (.k (.k (.k (.k (.k (.k (.k (.k (.k (.k (.k (.k (.k (.k (.k (.k (.k (.k (.k (.k (.k (.k (.k (.k (.k (.k (.k (.k (.k (.k (.k (.k (.k (.k (.k (.k (.k (.k (.k (.k (.k (.k (.k (.k (.k (.k (.k (.k (.k (.k (.k (.k (.k (.k (.k (.k (.k (.k (.k (.k (.k (.k (.k (.k (.k (.k (.k (.k (.k (.k (.k (.k (.k (.k (.k (.k (.k (.k (.k (.k (.k (.k (.k (.k (.k (.k (.k (.k (.k (.k (.k (.k (.k (.k (.k (.k (.k (.k (.k (.k (.k (.k (.k (.k (.k (.k (.k (.k (.k (.k (.k (.k (.k (.i (.slice (some ⟨g1, 0, none⟩) 0 3) .z))))))))))))))))))))))))))))))))))))))))))))))))))))))))))))))))))))))))))))))))))))))))))))))))))))))))))))))))))))))))))))))))))))))))))))))))))))))))))))))))))))))))))))))))))))))))))))))))))))))))))))))))))))))))))))))))))))))))))))))))))))))))))))))))) .a)))) ?_
  refine RZ (NT (SQ (SQ (RG ?_))))
  refine RV true [] .z (.i 12 (.int .i64 4) .a) .a [inI64 ((6 : Int) - (2 : Int))] ⟨by unfold inI64; omega, trivial⟩ ?_
  refine RZ (NT (BK ?_))
  refine wpc_ent (ent_turn 2 (row 9 1 (some ⟨g1, 0, none⟩) 3 3 [.string ⟨#[]⟩, .string ⟨#[]⟩, .string ⟨#[]⟩]) rfl (turn_blk rfl (by intro u hu; simp at hu; subst hu; rfl) (by decide)) rfl) ?_
  refine wpc_ent (ent_turn 2 (row 9 1 (some ⟨g1, 0, none⟩) 0 3 []) rfl (turn_cut 0 3 (by decide) (by decide) (by decide)) rfl) ?_
  refine wpc_ent (ent_turn (c := .blk g2 312 (repC (fun _ => .slice none 0 0) (.slice (some ⟨g1, 0, none⟩) 0 3))) 3 (row 312 1 (some ⟨g2, 0, none⟩) 257 257 (repC (fun _ => .slice none 0 0) (.slice (some ⟨g1, 0, none⟩) 0 3))) (by kernel_rfl) (turn_blk (repC_len _ _) (by intro u hu; simp [repC] at hu; rcases hu with ⟨_, rfl⟩ | rfl <;> rfl) (by decide)) rfl) ?_
  rw [repR3 (fun _ => (0, 0))]
  obtain ⟨rc, hlen, hat, hset, hT, hsetT, hrc⟩ : ∃ rc : (Nat → Value) → Value → List Value, (∀ R t, (rc R t).length = 257) ∧ (∀ R t q, q < 256 → ((rc R t).drop (q * 1)).take 1 = [R q]) ∧ (∀ R t v q, q < 256 → (rc R t).take q ++ [v] ++ (rc R t).drop (q + 1) = rc (upd R q v) t) ∧
    (∀ R t, ((rc R t).drop 256).take 1 = [t]) ∧ (∀ R t v, (rc R t).take 256 ++ [v] ++ (rc R t).drop (256 + 1) = rc R v) ∧ rc = repC := ⟨repC, repC_len, fun R t q h => repC_at h, fun R t v q h => repC_set h, fun R t => repC_t, fun R t v => repC_setT, rfl⟩
  rw [← hrc]
  refine wpc_ent ent_star_nil ?_
  refine wpc_loop (X := B2) (fun x => St.mk [(12, .int .i64 (2 * (x.k : Int) - 2)), (11, .pointer (some ⟨g2, 0, none⟩)), (3, .slice (some ⟨ga, oa, none⟩) 6 c), (2, Value.nilIface)]
   [.blk g 286 [.int .u32 0, .int .i32 1, .int .u32 0, r, .slice (some ⟨ga, oa, none⟩) 6 c], row 9 1 (some ⟨ga, oa, none⟩) 6 c (pairsL.map strV), row 9 1 x.ta (3 - x.k) x.tc (toRep x.k), row 312 1 (some ⟨g2, 0, none⟩) 257 257 (rc (repR x.k x.p) (.slice x.ta (3 - x.k) x.tc)), star (repRows x.k x.p)]) (fun x => x.k) ⟨3, fun _ => (0, 0), some ⟨g1, 0, none⟩, 3, Nat.le_refl _⟩ (Ent.trans (ent_hp [1, 1, 1, 1, 0] rfl) (ent_fr (by kernel_rfl))) ?_
  rintro ⟨k, p, ta, tc, hk⟩
  dsimp only at hk ⊢
  rcases (by omega : k = 0 ∨ k = 1 ∨ k = 2 ∨ k = 3) with rfl | rfl | rfl | rfl
  --CASES
  ·refine SQ (SQ (RG ?_))
   refine RR [] .z (.i 100 (.bool false) (.i 12 (.int .i64 (-2)) (.d (.k .a)))) .a ?_
   refine RZ (NT (CF (EX (TE (TE (BH (NT (SQ (RG ?_)))))))))
   refine RR [] .z (.i 2 (Value.iface 313 (.pointer (some ⟨g2, 0, none⟩))) .z) .a ?_
   refine RZ (NT (RE ?_))
   refine NE [0, 0, 0, 0, 0] .a .z [] (Value.iface 313 (.pointer (some ⟨g2, 0, none⟩))) ?_
   exact ⟨g2, p, ta, tc, rfl, by rw [hrc]⟩
  ·have hsz : (mkS [92]).size = 1 := rfl
   refine SQ (SQ (RG ?_))
   refine RR [] .z (.i 100 (.bool true) (.i 12 (.int .i64 0) (.d (.k .a)))) .a ?_
   refine RZ (NT (CT (SK (NT (SQ (BK (SQ (RG ?_))))))))
   refine RV true [] (.d (.d (.d .a))) (.i 105 (.pointer (some ⟨ga, oa, none⟩)) (.d (.k .a))) .a [(0 : Int) ≤ (0 : Int) ∧ (0 : Int) < (↑(6 : Nat) : Int)] ⟨by omega, trivial⟩ ?_
   refine wpr_eq (ld (t := 9) (a := (⟨ga, oa, none⟩)) (dst := some 106) (by kernel_rfl) false 1 (by kernel_rfl) (by simp) [.string (mkS [92])] rfl (fun w h => ld_row h 1 rfl 0 rfl)) ?_
   refine RV true [] .z (.i 13 (.int .u8 92) (.d (.d (.k .a)))) .a [(0 : Int) ≤ (0 : Int) ∧ (0 : Int) < (↑[(92 : UInt8)].length : Int)] ⟨by decide, trivial⟩ ?_
   refine RZ (NT (SQ (RG ?_)))
   refine RV true [] (.d (.d (.d (.d .a)))) (.i 111 (.pointer (some ⟨ga, oa + 1, none⟩)) .a) .a ([inI64 ((0 : Int) + (1 : Int)), (0 : Int) ≤ (1 : Int) ∧ (1 : Int) < (↑(6 : Nat) : Int)]) ⟨by unfold inI64; omega, by omega, trivial⟩ ?_
   refine wpr_eq (ld (t := 9) (a := (⟨ga, oa + 1, none⟩)) (dst := some 112) (by kernel_rfl) false 1 (by kernel_rfl) (by simp) [.string (mkS [92, 92])] rfl (fun w h => ld_row h 1 rfl 1 rfl)) ?_
   refine RR [] .z (.i 14 (.string (mkS [92, 92])) (.d (.d (.k .a)))) .a ?_
   refine RZ (NT (SQ (SQ (RG ?_))))
   refine RV true [] (.d (.d (.d .a))) (.i 115 (.pointer (some ⟨g2, 92, none⟩)) .a) .a [(0 : Int) ≤ (92 : Int) ∧ (92 : Int) < (↑(256 : Nat) : Int)] ⟨by omega, trivial⟩ ?_
   refine wpr_eq (ld (t := 39) (a := (⟨g2, 92, none⟩)) (dst := some 116) (by kernel_rfl) false 1 (by kernel_rfl) (by simp) [.slice none 0 0] rfl (fun w h => ld_row h 3 rfl 92 ((hat _ _ 92 (by decide)).trans (by simp [repR])))) ?_
   refine RR [] .z (.i 117 (.bool true) (.d (.d (.k .a)))) .a ?_
   refine RZ (NT (CT (RG ?_)))
   refine RR [] (.d .a) (.i 118 (.pointer (some ⟨g2, 256, none⟩)) (.d (.k .a))) .a ?_
   refine wpr_eq (ld (t := 22) (a := (⟨g2, 256, none⟩)) (dst := some 119) (by kernel_rfl) false 1 (by kernel_rfl) (by simp) [.slice ta (3 - 1) tc] rfl (fun w h => ld_row h 3 rfl 256 (hT _ _))) ?_
   refine RN [] (.d (.d .a)) 121 (fun g3 => (.slice (some ⟨g3, 0, none⟩) 1 1)) (.i 119 (.slice ta 2 tc) (.d (.d (.k .a)))) .a 5 [.int .u8 92] fun g3 => ?_
   refine RN [5] (.d (.d .a)) 123 (fun g4 => (.slice (some ⟨g4, 0, none⟩) 1 1)) (.d (.k .a)) .a 9 [.string (ByteArray.push ByteArray.empty (UInt8.ofNat (Int.toNat 92)))] fun g4 => ?_
   refine wpr_ent (ent_turn (c := .blk g4 9 [strV [92]]) 6 (ro (some ⟨g4, 0, none⟩) [strV [92]]) (by kernel_rfl) (turn_rblk (by intro u hu; rw [List.mem_singleton.1 hu]; rfl)) rfl) ?_
   refine wpr_app (a := ta) (n := 2) (cap := tc) (x := (.slice (some ⟨g4, 0, none⟩) 1 1)) (t := 22) (xt := 22) (dst := some 124) (by kernel_rfl) (e := 9) (sz := 1) (bytes := 16) (by kernel_rfl) 2 (xs := (toRep 1)) (by kernel_rfl) (m := 1) (news := [strV [92]]) (fun w h => src_ro h 6 rfl rfl (fun e => by cases e)) (by unfold maxLen; omega) (by omega) ?_
   intro ta2 tc2 hta2
   rw [show toRep 1 ++ [strV [92]] = toRep 0 from rfl]
   refine RR [] (.d .a) (.i 125 (.pointer (some ⟨g2, 256, none⟩)) (.k (.d (.d (.k .a))))) .a ?_
   refine wpr_eq (stq' (t := 22) (g := g2) (off := 0) (q := 256) (v := (.slice ta2 3 tc2)) (dst := none) (by kernel_rfl) 3 (T := 312) (sz := 1) (n := 257) (cap := 257) (xs := (rc (repR 1 p) (.slice ta (3 - 1) tc))) (by kernel_rfl) [.slice ta2 3 tc2] (by kernel_rfl) (by kernel_rfl) (by simp [Go.Sx.One, Value.oneCell']) (by rw [hlen]; simp) (xs' := (rc (repR 1 p) (.slice ta2 3 tc2))) (hsetT _ _ _)) ?_
   refine RZ (NT (RG ?_))
   refine RR [] (.d (.d .a)) (.i 127 (.string (mkS [92, 92])) (.i 126 (.int .u8 92) (.d (.d (.d (.d (.k .a))))))) .a ?_
   refine wpr_s2b (a := 9) (b := 39) (e := 5) (dst := some 128) [92, 92] (by kernel_rfl) (by kernel_rfl) (by unfold maxLen; first | omega | decide) ?_
   intro gb cb
   refine RV true [] (.d (.d .a)) (.i 130 (.pointer (some ⟨g2, 92, none⟩)) (.i 128 (.slice (some ⟨gb, 0, none⟩) 2 cb) (.d (.d (.d (.k .a)))))) (.k (.k (.k (.k (.k (.k (.k (.i (row 5 1 (some ⟨gb, 0, none⟩) 2 cb (u8s [92, 92])) .z)))))))) [(0 : Int) ≤ (92 : Int) ∧ (92 : Int) < (↑(256 : Nat) : Int)] ⟨by omega, trivial⟩ ?_
   refine wpr_eq (stq' (t := 39) (g := g2) (off := 0) (q := 92) (v := (.slice (some ⟨gb, 0, none⟩) 2 cb)) (dst := none) (by kernel_rfl) 3 (T := 312) (sz := 1) (n := 257) (cap := 257) (xs := (rc (repR 1 p) (.slice ta2 3 tc2))) (by kernel_rfl) [.slice (some ⟨gb, 0, none⟩) 2 cb] (by kernel_rfl) (by kernel_rfl) (by simp [Go.Sx.One, Value.oneCell']) (by rw [hlen]; simp) (xs' := (rc (repR 0 (updp p 0 (gb, cb))) (.slice ta2 3 tc2))) ((hset _ _ _ 92 (by decide)).trans (by rw [show .slice (some ⟨gb, 0, none⟩) 2 cb = sl2 (gb, cb) from rfl, repR0]))) ?_
   refine RZ (BN (NT (RG ?_)))
   refine RV true [] .z (.i 12 (.int .i64 (-2)) (.d (.d (.d (.k .a))))) .a [inI64 ((0 : Int) - (2 : Int))] ⟨by unfold inI64; omega, trivial⟩ ?_
   refine RZ ?_
   refine nx_ent (ent_hp [4, 6, 0, 0, 0, 0] rfl) ?_
   refine nx_ent (ent_star_snoc trivial) ?_
   rw [show repRows 1 p ++ [row 5 1 (some ⟨gb, 0, none⟩) 2 cb (u8s [92, 92])] = repRows 0 (updp p 0 (gb, cb)) from rfl]
   exact fun a' w' hS' => ⟨⟨0, updp p 0 (gb, cb), ta2, tc2, by decide⟩, by dsimp only; omega, ent_fr (by kernel_rfl) _ _ (ent_hp [1, 1, 1, 1, 0] rfl _ _ hS')⟩
  ·have hsz : (mkS [34]).size = 1 := rfl
   refine SQ (SQ (RG ?_))
   refine RR [] .z (.i 100 (.bool true) (.i 12 (.int .i64 2) (.d (.k .a)))) .a ?_
   refine RZ (NT (CT (SK (NT (SQ (BK (SQ (RG ?_))))))))
   refine RV true [] (.d (.d (.d .a))) (.i 105 (.pointer (some ⟨ga, oa + 2, none⟩)) (.d (.k .a))) .a [(0 : Int) ≤ (2 : Int) ∧ (2 : Int) < (↑(6 : Nat) : Int)] ⟨by omega, trivial⟩ ?_
   refine wpr_eq (ld (t := 9) (a := (⟨ga, oa + 2, none⟩)) (dst := some 106) (by kernel_rfl) false 1 (by kernel_rfl) (by simp) [.string (mkS [34])] rfl (fun w h => ld_row h 1 rfl 2 rfl)) ?_
   refine RV true [] .z (.i 13 (.int .u8 34) (.d (.d (.k .a)))) .a [(0 : Int) ≤ (0 : Int) ∧ (0 : Int) < (↑[(34 : UInt8)].length : Int)] ⟨by decide, trivial⟩ ?_
   refine RZ (NT (SQ (RG ?_)))
   refine RV true [] (.d (.d (.d (.d .a)))) (.i 111 (.pointer (some ⟨ga, oa + 3, none⟩)) .a) .a ([inI64 ((2 : Int) + (1 : Int)), (0 : Int) ≤ (3 : Int) ∧ (3 : Int) < (↑(6 : Nat) : Int)]) ⟨by unfold inI64; omega, by omega, trivial⟩ ?_
   refine wpr_eq (ld (t := 9) (a := (⟨ga, oa + 3, none⟩)) (dst := some 112) (by kernel_rfl) false 1 (by kernel_rfl) (by simp) [.string (mkS [92, 34])] rfl (fun w h => ld_row h 1 rfl 3 rfl)) ?_
   refine RR [] .z (.i 14 (.string (mkS [92, 34])) (.d (.d (.k .a)))) .a ?_
   refine RZ (NT (SQ (SQ (RG ?_))))
   refine RV true [] (.d (.d (.d .a))) (.i 115 (.pointer (some ⟨g2, 34, none⟩)) .a) .a [(0 : Int) ≤ (34 : Int) ∧ (34 : Int) < (↑(256 : Nat) : Int)] ⟨by omega, trivial⟩ ?_
   refine wpr_eq (ld (t := 39) (a := (⟨g2, 34, none⟩)) (dst := some 116) (by kernel_rfl) false 1 (by kernel_rfl) (by simp) [.slice none 0 0] rfl (fun w h => ld_row h 3 rfl 34 ((hat _ _ 34 (by decide)).trans (by simp [repR])))) ?_
   refine RR [] .z (.i 117 (.bool true) (.d (.d (.k .a)))) .a ?_
   refine RZ (NT (CT (RG ?_)))
   refine RR [] (.d .a) (.i 118 (.pointer (some ⟨g2, 256, none⟩)) (.d (.k .a))) .a ?_
   refine wpr_eq (ld (t := 22) (a := (⟨g2, 256, none⟩)) (dst := some 119) (by kernel_rfl) false 1 (by kernel_rfl) (by simp) [.slice ta (3 - 2) tc] rfl (fun w h => ld_row h 3 rfl 256 (hT _ _))) ?_
   refine RN [] (.d (.d .a)) 121 (fun g3 => (.slice (some ⟨g3, 0, none⟩) 1 1)) (.i 119 (.slice ta 1 tc) (.d (.d (.k .a)))) .a 5 [.int .u8 34] fun g3 => ?_
   refine RN [5] (.d (.d .a)) 123 (fun g4 => (.slice (some ⟨g4, 0, none⟩) 1 1)) (.d (.k .a)) .a 9 [.string (ByteArray.push ByteArray.empty (UInt8.ofNat (Int.toNat 34)))] fun g4 => ?_
   refine wpr_ent (ent_turn (c := .blk g4 9 [strV [34]]) 6 (ro (some ⟨g4, 0, none⟩) [strV [34]]) (by kernel_rfl) (turn_rblk (by intro u hu; rw [List.mem_singleton.1 hu]; rfl)) rfl) ?_
   refine wpr_app (a := ta) (n := 1) (cap := tc) (x := (.slice (some ⟨g4, 0, none⟩) 1 1)) (t := 22) (xt := 22) (dst := some 124) (by kernel_rfl) (e := 9) (sz := 1) (bytes := 16) (by kernel_rfl) 2 (xs := (toRep 2)) (by kernel_rfl) (m := 1) (news := [strV [34]]) (fun w h => src_ro h 6 rfl rfl (fun e => by cases e)) (by unfold maxLen; omega) (by omega) ?_
   intro ta2 tc2 hta2
   rw [show toRep 2 ++ [strV [34]] = toRep 1 from rfl]
   refine RR [] (.d .a) (.i 125 (.pointer (some ⟨g2, 256, none⟩)) (.k (.d (.d (.k .a))))) .a ?_
   refine wpr_eq (stq' (t := 22) (g := g2) (off := 0) (q := 256) (v := (.slice ta2 2 tc2)) (dst := none) (by kernel_rfl) 3 (T := 312) (sz := 1) (n := 257) (cap := 257) (xs := (rc (repR 2 p) (.slice ta (3 - 2) tc))) (by kernel_rfl) [.slice ta2 2 tc2] (by kernel_rfl) (by kernel_rfl) (by simp [Go.Sx.One, Value.oneCell']) (by rw [hlen]; simp) (xs' := (rc (repR 2 p) (.slice ta2 2 tc2))) (hsetT _ _ _)) ?_
   refine RZ (NT (RG ?_))
   refine RR [] (.d (.d .a)) (.i 127 (.string (mkS [92, 34])) (.i 126 (.int .u8 34) (.d (.d (.d (.d (.k .a))))))) .a ?_
   refine wpr_s2b (a := 9) (b := 39) (e := 5) (dst := some 128) [92, 34] (by kernel_rfl) (by kernel_rfl) (by unfold maxLen; first | omega | decide) ?_
   intro gb cb
   refine RV true [] (.d (.d .a)) (.i 130 (.pointer (some ⟨g2, 34, none⟩)) (.i 128 (.slice (some ⟨gb, 0, none⟩) 2 cb) (.d (.d (.d (.k .a)))))) (.k (.k (.k (.k (.k (.k (.k (.i (row 5 1 (some ⟨gb, 0, none⟩) 2 cb (u8s [92, 34])) .z)))))))) [(0 : Int) ≤ (34 : Int) ∧ (34 : Int) < (↑(256 : Nat) : Int)] ⟨by omega, trivial⟩ ?_
   refine wpr_eq (stq' (t := 39) (g := g2) (off := 0) (q := 34) (v := (.slice (some ⟨gb, 0, none⟩) 2 cb)) (dst := none) (by kernel_rfl) 3 (T := 312) (sz := 1) (n := 257) (cap := 257) (xs := (rc (repR 2 p) (.slice ta2 2 tc2))) (by kernel_rfl) [.slice (some ⟨gb, 0, none⟩) 2 cb] (by kernel_rfl) (by kernel_rfl) (by simp [Go.Sx.One, Value.oneCell']) (by rw [hlen]; simp) (xs' := (rc (repR 1 (updp p 1 (gb, cb))) (.slice ta2 2 tc2))) ((hset _ _ _ 34 (by decide)).trans (by rw [show .slice (some ⟨gb, 0, none⟩) 2 cb = sl2 (gb, cb) from rfl, repR1]))) ?_
   refine RZ (BN (NT (RG ?_)))
   refine RV true [] .z (.i 12 (.int .i64 0) (.d (.d (.d (.k .a))))) .a [inI64 ((2 : Int) - (2 : Int))] ⟨by unfold inI64; omega, trivial⟩ ?_
   refine RZ ?_
   refine nx_ent (ent_hp [4, 6, 0, 0, 0, 0] rfl) ?_
   refine nx_ent (ent_star_snoc trivial) ?_
   rw [show repRows 2 p ++ [row 5 1 (some ⟨gb, 0, none⟩) 2 cb (u8s [92, 34])] = repRows 1 (updp p 1 (gb, cb)) from rfl]
   exact fun a' w' hS' => ⟨⟨1, updp p 1 (gb, cb), ta2, tc2, by decide⟩, by dsimp only; omega, ent_fr (by kernel_rfl) _ _ (ent_hp [1, 1, 1, 1, 0] rfl _ _ hS')⟩
  ·have hsz : (mkS [10]).size = 1 := rfl
   refine SQ (SQ (RG ?_))
   refine RR [] .z (.i 100 (.bool true) (.i 12 (.int .i64 4) (.d (.k .a)))) .a ?_
   refine RZ (NT (CT (SK (NT (SQ (BK (SQ (RG ?_))))))))
   refine RV true [] (.d (.d (.d .a))) (.i 105 (.pointer (some ⟨ga, oa + 4, none⟩)) (.d (.k .a))) .a [(0 : Int) ≤ (4 : Int) ∧ (4 : Int) < (↑(6 : Nat) : Int)] ⟨by omega, trivial⟩ ?_
   refine wpr_eq (ld (t := 9) (a := (⟨ga, oa + 4, none⟩)) (dst := some 106) (by kernel_rfl) false 1 (by kernel_rfl) (by simp) [.string (mkS [10])] rfl (fun w h => ld_row h 1 rfl 4 rfl)) ?_
   refine RV true [] .z (.i 13 (.int .u8 10) (.d (.d (.k .a)))) .a [(0 : Int) ≤ (0 : Int) ∧ (0 : Int) < (↑[(10 : UInt8)].length : Int)] ⟨by decide, trivial⟩ ?_
   refine RZ (NT (SQ (RG ?_)))
   refine RV true [] (.d (.d (.d (.d .a)))) (.i 111 (.pointer (some ⟨ga, oa + 5, none⟩)) .a) .a ([inI64 ((4 : Int) + (1 : Int)), (0 : Int) ≤ (5 : Int) ∧ (5 : Int) < (↑(6 : Nat) : Int)]) ⟨by unfold inI64; omega, by omega, trivial⟩ ?_
   refine wpr_eq (ld (t := 9) (a := (⟨ga, oa + 5, none⟩)) (dst := some 112) (by kernel_rfl) false 1 (by kernel_rfl) (by simp) [.string (mkS [92, 110])] rfl (fun w h => ld_row h 1 rfl 5 rfl)) ?_
   refine RR [] .z (.i 14 (.string (mkS [92, 110])) (.d (.d (.k .a)))) .a ?_
   refine RZ (NT (SQ (SQ (RG ?_))))
   refine RV true [] (.d (.d (.d .a))) (.i 115 (.pointer (some ⟨g2, 10, none⟩)) .a) .a [(0 : Int) ≤ (10 : Int) ∧ (10 : Int) < (↑(256 : Nat) : Int)] ⟨by omega, trivial⟩ ?_
   refine wpr_eq (ld (t := 39) (a := (⟨g2, 10, none⟩)) (dst := some 116) (by kernel_rfl) false 1 (by kernel_rfl) (by simp) [.slice none 0 0] rfl (fun w h => ld_row h 3 rfl 10 ((hat _ _ 10 (by decide)).trans (by simp [repR])))) ?_
   refine RR [] .z (.i 117 (.bool true) (.d (.d (.k .a)))) .a ?_
   refine RZ (NT (CT (RG ?_)))
   refine RR [] (.d .a) (.i 118 (.pointer (some ⟨g2, 256, none⟩)) (.d (.k .a))) .a ?_
   refine wpr_eq (ld (t := 22) (a := (⟨g2, 256, none⟩)) (dst := some 119) (by kernel_rfl) false 1 (by kernel_rfl) (by simp) [.slice ta (3 - 3) tc] rfl (fun w h => ld_row h 3 rfl 256 (hT _ _))) ?_
   refine RN [] (.d (.d .a)) 121 (fun g3 => (.slice (some ⟨g3, 0, none⟩) 1 1)) (.i 119 (.slice ta 0 tc) (.d (.d (.k .a)))) .a 5 [.int .u8 10] fun g3 => ?_
   refine RN [5] (.d (.d .a)) 123 (fun g4 => (.slice (some ⟨g4, 0, none⟩) 1 1)) (.d (.k .a)) .a 9 [.string (ByteArray.push ByteArray.empty (UInt8.ofNat (Int.toNat 10)))] fun g4 => ?_
   refine wpr_ent (ent_turn (c := .blk g4 9 [strV [10]]) 6 (ro (some ⟨g4, 0, none⟩) [strV [10]]) (by kernel_rfl) (turn_rblk (by intro u hu; rw [List.mem_singleton.1 hu]; rfl)) rfl) ?_
   refine wpr_app (a := ta) (n := 0) (cap := tc) (x := (.slice (some ⟨g4, 0, none⟩) 1 1)) (t := 22) (xt := 22) (dst := some 124) (by kernel_rfl) (e := 9) (sz := 1) (bytes := 16) (by kernel_rfl) 2 (xs := (toRep 3)) (by kernel_rfl) (m := 1) (news := [strV [10]]) (fun w h => src_ro h 6 rfl rfl (fun e => by cases e)) (by unfold maxLen; omega) (by omega) ?_
   intro ta2 tc2 hta2
   rw [show toRep 3 ++ [strV [10]] = toRep 2 from rfl]
   refine RR [] (.d .a) (.i 125 (.pointer (some ⟨g2, 256, none⟩)) (.k (.d (.d (.k .a))))) .a ?_
   refine wpr_eq (stq' (t := 22) (g := g2) (off := 0) (q := 256) (v := (.slice ta2 1 tc2)) (dst := none) (by kernel_rfl) 3 (T := 312) (sz := 1) (n := 257) (cap := 257) (xs := (rc (repR 3 p) (.slice ta (3 - 3) tc))) (by kernel_rfl) [.slice ta2 1 tc2] (by kernel_rfl) (by kernel_rfl) (by simp [Go.Sx.One, Value.oneCell']) (by rw [hlen]; simp) (xs' := (rc (repR 3 p) (.slice ta2 1 tc2))) (hsetT _ _ _)) ?_
   refine RZ (NT (RG ?_))
   refine RR [] (.d (.d .a)) (.i 127 (.string (mkS [92, 110])) (.i 126 (.int .u8 10) (.d (.d (.d (.d (.k .a))))))) .a ?_
   refine wpr_s2b (a := 9) (b := 39) (e := 5) (dst := some 128) [92, 110] (by kernel_rfl) (by kernel_rfl) (by unfold maxLen; first | omega | decide) ?_
   intro gb cb
   refine RV true [] (.d (.d .a)) (.i 130 (.pointer (some ⟨g2, 10, none⟩)) (.i 128 (.slice (some ⟨gb, 0, none⟩) 2 cb) (.d (.d (.d (.k .a)))))) (.k (.k (.k (.k (.k (.k (.k (.i (row 5 1 (some ⟨gb, 0, none⟩) 2 cb (u8s [92, 110])) .z)))))))) [(0 : Int) ≤ (10 : Int) ∧ (10 : Int) < (↑(256 : Nat) : Int)] ⟨by omega, trivial⟩ ?_
   refine wpr_eq (stq' (t := 39) (g := g2) (off := 0) (q := 10) (v := (.slice (some ⟨gb, 0, none⟩) 2 cb)) (dst := none) (by kernel_rfl) 3 (T := 312) (sz := 1) (n := 257) (cap := 257) (xs := (rc (repR 3 p) (.slice ta2 1 tc2))) (by kernel_rfl) [.slice (some ⟨gb, 0, none⟩) 2 cb] (by kernel_rfl) (by kernel_rfl) (by simp [Go.Sx.One, Value.oneCell']) (by rw [hlen]; simp) (xs' := (rc (repR 2 (updp p 2 (gb, cb))) (.slice ta2 1 tc2))) ((hset _ _ _ 10 (by decide)).trans (by rw [show .slice (some ⟨gb, 0, none⟩) 2 cb = sl2 (gb, cb) from rfl, repR2]))) ?_
   refine RZ (BN (NT (RG ?_)))
   refine RV true [] .z (.i 12 (.int .i64 2) (.d (.d (.d (.k .a))))) .a [inI64 ((4 : Int) - (2 : Int))] ⟨by unfold inI64; omega, trivial⟩ ?_
   refine RZ ?_
   refine nx_ent (ent_hp [4, 6, 0, 0, 0, 0] rfl) ?_
   refine nx_ent (ent_star_snoc trivial) ?_
   rw [show repRows 3 p ++ [row 5 1 (some ⟨gb, 0, none⟩) 2 cb (u8s [92, 110])] = repRows 2 (updp p 2 (gb, cb)) from rfl]
   exact fun a' w' hS' => ⟨⟨2, updp p 2 (gb, cb), ta2, tc2, by decide⟩, by dsimp only; omega, ent_fr (by kernel_rfl) _ _ (ent_hp [1, 1, 1, 1, 0] rfl _ _ hS')⟩
end Go.Proofs.YtgcfomhlgipllaaGreatDoor
namespace Go.Proofs.YtgcfomhlgipllaaGreatDoor
open Go Go.Sx
def repH (g2 : Nat) (p : Nat → Nat × Nat) (ta : Option Addr) (tc : Nat) : Hp := [row 9 1 ta 3 tc (toRep 0), row 312 1 (some ⟨g2, 0, none⟩) 257 257 (repC (repR 0 p) (.slice ta 3 tc)), star (repRows 0 p)]
theorem buildOnce_spec (g : Nat) (a : Option Addr) (c : Nat) : Does Tryz.prog 199 [.pointer (some ⟨g, 0, none⟩)] [.blk g 286 [.int .u32 0, .int .i32 1, .int .u32 0, .nilIface, .slice a 6 c], row 9 1 a 6 c (pairsL.map strV)]
  (fun x hp' => ∃ g2 p ta tc, x = .tuple #[] ∧ hp' = .blk g 286 [.int .u32 0, .int .i32 1, .int .u32 0, .iface 313 (.pointer (some ⟨g2, 0, none⟩)), .slice none 0 0] :: repH g2 p ta tc) := by
 refine fn_enter Tryz.func199 rfl 10 rfl fun w0 h0 => ?_
 refine SQ (RG ?_)
 refine RR [] (.d (.d .a)) (.i 3 (.pointer (some ⟨g, 0, none⟩)) (.i 2 (.pointer (some ⟨g, 0, none⟩)) .a)) .a ?_
 refine RCA (dst := some 4) (build_spec g .nilIface a c) ?_
 rintro v _ ⟨g2, p, ta, tc, rfl, rfl⟩
 refine RR [0] .z (.d (.d (.d (.k .a)))) (.u (.k (.k (.k (.i (Value.iface 313 (.pointer (some ⟨g2, 0, none⟩))) (.d (.k .a)))))) .a) ?_
 refine RZ (NT (RG ?_))
 refine RR [0] .z .z (.u (.k (.k (.k (.k (.i (.slice none 0 0) .z))))) .a) ?_
 refine RZ ?_
 refine NE [0, 1, 1, 1] (.k (.d (.k .a))) (.d (.k .z)) [] (.tuple #[]) ?_
 exact ⟨g2, p, ta, tc, rfl, rfl⟩
theorem bStoreD (g : Nat) (v o1 o2 : Int) (r o : Value) : DoesD Tryz.prog 224 [.pointer (some ⟨g, 0, none⟩), .bool true] [.blk g 286 [.int .u32 v, .int .i32 o1, .int .u32 o2, r, o]] (fun x hp' => x = .tuple #[] ∧ hp' = [.blk g 286 [.int .u32 1, .int .i32 o1, .int .u32 o2, r, o]]) := by
 refine fn_enter_d Tryz.func224 rfl 10 rfl fun w0 h0 => ?_
 refine wpc_draw (by kernel_rfl) [] (sub_of [] (by kernel_rfl)) 6 (by kernel_rfl) ?_
 refine TK 2 [(0, []), (1, []), (2, []), (3, [])] (.i 7 (.bool true) (.i 6 (.pointer (some ⟨g, 0, none⟩)) .z)) (#[true, true, true, true, false, false]) ?_
 refine AC (dst := some 8) 1 4 .a (b32_spec) (GI []) [] ?_
 rintro v _ ⟨rfl, rfl⟩
 refine AO 0 5 [0] .z (.u (.i (.int .u32 1) (.d (.k .a))) .a) [] ?_
 refine wpa_done 0 (by kernel_rfl) ?_
 refine NE [0] .a .z [] (.tuple #[]) ?_
 exact ⟨rfl, rfl⟩
theorem UnlockD (g : Nat) (v o2 : Int) (r o : Value) : DoesD Tryz.prog 223 [.pointer (some ⟨g, 1, none⟩)] [.blk g 286 [.int .u32 v, .int .i32 1, .int .u32 o2, r, o]] (fun x hp' => x = .tuple #[] ∧ hp' = [.blk g 286 [.int .u32 v, .int .i32 0, .int .u32 o2, r, o]]) := by
 refine fn_enter_d Tryz.func223 rfl 6 rfl fun w0 h0 => ?_
 refine RG ?_
 refine RR [] (.d (.d (.d .a))) (.i 4 (.pointer (some ⟨g, 1, none⟩)) .z) .a ?_
 refine RCA (dst := some 5) (iUnlock_spec g v o2 r o) ?_
 rintro v _ ⟨rfl, rfl⟩
 refine RZ ?_
 refine NE [0] .a .z [] (.tuple #[]) ?_
 exact ⟨rfl, rfl⟩
theorem doSlow_spec (g : Nat) (a : Option Addr) (c : Nat) : Does Tryz.prog 212 [.pointer (some ⟨g, 0, none⟩), .func (.func 199) #[.pointer (some ⟨g, 0, none⟩)] #[]] [.blk g 286 [.int .u32 0, .int .i32 0, .int .u32 0, .nilIface, .slice a 6 c], row 9 1 a 6 c (pairsL.map strV)]
  (fun x hp' => ∃ g2 p ta tc, x = .tuple #[] ∧ hp' = .blk g 286 [.int .u32 1, .int .i32 0, .int .u32 0, .iface 313 (.pointer (some ⟨g2, 0, none⟩)), .slice none 0 0] :: repH g2 p ta tc) := by
 refine fn_enter_def Tryz.func212 rfl 21 rfl fun w0 h0 => ?_
 refine SQ (RG ?_)
 refine RR [] (.d (.d (.d .a))) (.i 6 (.pointer (some ⟨g, 1, none⟩)) .a) .a ?_
 refine RC (dst := some 7) [0] (.d (.k .a)) (Lock_spec g 0 0 .nilIface (.slice a 6 c)) ?_
 rintro v _ ⟨rfl, rfl⟩
 refine RZ (NT (SQ (RG ?_)))
 refine RR [] (.d (.d (.d .a))) (.i 10 (.pointer (some ⟨g, 1, none⟩)) (.d (.d (.k .a)))) .a ?_
 refine wpr_defer (f := 223) (caps := #[]) (args := #[.pointer (some ⟨g, 1, none⟩)]) (by kernel_rfl) ?_
 refine RZ (NT (SQ (RG ?_)))
 refine RR [] (.d (.d (.d .a))) (.i 13 (.pointer (some ⟨g, 0, none⟩)) (.d (.k .a))) .a ?_
 refine RC (dst := some 14) [0] (.d (.k .a)) (bLoad_spec g 0 1 0 .nilIface (.slice a 6 c)) ?_
 rintro v _ ⟨rfl, rfl⟩
 refine RR [] .z (.i 15 (.bool true) (.d (.d (.k .a)))) .a ?_
 refine RZ (NT (CT (SQ (RG ?_))))
 refine RR [] (.d (.d (.d .a))) (.i 18 (.pointer (some ⟨g, 0, none⟩)) (.d (.d (.k .a)))) .a ?_
 refine wpr_defer (f := 224) (caps := #[]) (args := #[.pointer (some ⟨g, 0, none⟩), .bool true]) (by kernel_rfl) ?_
 refine RZ (NT (RG ?_))
 refine RR [] (.d .a) (.i 19 (Value.func (Fn.func 199) #[.pointer (some ⟨g, 0, none⟩)] #[]) .z) .a ?_
 refine wpr_callv_all (dst := some 20) (first := (#[.pointer (some ⟨g, 0, none⟩)])) (caps := (#[])) (args := []) (f := 199) (by kernel_rfl) (by kernel_rfl) (buildOnce_spec g a c) give_all ?_
 rintro v _ ⟨g2, p, ta, tc, rfl, rfl⟩
 refine RZ ?_
 refine nx_lv (.inl rfl) ?_
 refine lv_cons (by kernel_rfl) (bStoreD g 0 1 0 _ _) (rest := repH g2 p ta tc) (give [0] rfl) ?_
 rintro v _ ⟨rfl, rfl⟩
 refine lv_cons (by kernel_rfl) (UnlockD g 1 0 _ _) (rest := repH g2 p ta tc) (give [0] rfl) ?_
 rintro v _ ⟨rfl, rfl⟩
 refine lv_nil (.tuple #[]) rfl give_all ⟨trivial, trivial, trivial, trivial, trivial⟩ ⟨g2, p, ta, tc, rfl, rfl⟩
theorem Do_spec (g : Nat) (a : Option Addr) (c : Nat) : Does Tryz.prog 198 [.pointer (some ⟨g, 0, none⟩), .func (.func 199) #[.pointer (some ⟨g, 0, none⟩)] #[]] [.blk g 286 [.int .u32 0, .int .i32 0, .int .u32 0, .nilIface, .slice a 6 c], row 9 1 a 6 c (pairsL.map strV)]
  (fun x hp' => ∃ g2 p ta tc, x = .tuple #[] ∧ hp' = .blk g 286 [.int .u32 1, .int .i32 0, .int .u32 0, .iface 313 (.pointer (some ⟨g2, 0, none⟩)), .slice none 0 0] :: repH g2 p ta tc) := by
 refine fn_enter Tryz.func198 rfl 12 rfl fun w0 h0 => ?_
 refine SQ (RG ?_)
 refine RR [] (.d (.d (.d .a))) (.i 6 (.pointer (some ⟨g, 0, none⟩)) .a) .a ?_
 refine RC (dst := some 7) [0] (.d (.k .a)) (bLoad_spec g 0 0 0 .nilIface (.slice a 6 c)) ?_
 rintro v _ ⟨rfl, rfl⟩
 refine RR [] .z (.i 8 (.bool true) (.d (.d (.k .a)))) .a ?_
 refine RZ (NT (CT (RG ?_)))
 refine RR [] (.d (.d .a)) (.i 10 (Value.func (Fn.func 199) #[.pointer (some ⟨g, 0, none⟩)] #[]) (.i 9 (.pointer (some ⟨g, 0, none⟩)) .z)) .a ?_
 refine RCA (dst := some 11) (doSlow_spec g a c) ?_
 rintro v _ ⟨g2, p, ta, tc, rfl, rfl⟩
 refine RZ ?_
 refine NE [0, 0, 0, 0] .a .z [] (.tuple #[]) ?_
 exact ⟨g2, p, ta, tc, rfl, rfl⟩
end Go.Proofs.YtgcfomhlgipllaaGreatDoor
namespace Go.Proofs.YtgcfomhlgipllaaGreatDoor
open Go Go.Sx
def escB (c : UInt8) : List UInt8 := if c = 92 then [92, 92] else if c = 34 then [92, 34] else if c = 10 then [92, 110] else [c]
def spB (c : UInt8) : Bool := c == 92 || c == 34 || c == 10
def escL (s : List UInt8) : List UInt8 := s.flatMap escB
theorem Count_spec (s : List UInt8) (c : UInt8) : Does Tryz.prog 192 [.string (mkS s), .string (mkS [c])] [] (fun v hp' => v = .int .i64 ((s.count c : Nat) : Int) ∧ hp' = []) := by
 refine fn_enter Tryz.func192 rfl 34 rfl fun w0 h0 => ?_
 refine SQ (RG ?_)
 refine RR [] .z (.i 4 (.int .i64 0) .a) .a ?_
 refine RZ (NT (SQ (SQ (RG ?_))))
 refine RR [] .z (.i 9 (.bool false) .a) .a ?_
 refine RZ (NT (CF (SK (NT (SQ (SQ (RG ?_)))))))
 refine RR [] .z (.i 15 (.bool true) (.d (.k .a))) .a ?_
 refine RZ (NT (CT (SQ (RG ?_))))
 refine RV true [] .z (.i 4 (.int .i64 (ByteArray.foldl (fun (n : Int) (x : UInt8) => if (x == Nat.toUInt8 (Int.toNat (bt (mkS [c]) 0))) = true then n + 1 else n) (↑0 : Int) (mkS s) 0 (List.length s))) (.d (.d (.k .a)))) .a [(0 : Int) ≤ (0 : Int) ∧ (0 : Int) < (↑[c].length : Int)] ⟨by simp, trivial⟩ ?_
 refine RZ (NT (RE (TR ?_)))
 refine NE [] .a .a [] (.int .i64 (ByteArray.foldl (fun (n : Int) (x : UInt8) => if (x == Nat.toUInt8 (Int.toNat (bt (mkS [c]) 0))) = true then n + 1 else n) 0 (mkS s) 0 (List.length s))) ?_
 refine ⟨?_, rfl⟩
 have hb : (bt (mkS [c]) 0).toNat.toUInt8 = c := by
  rw [show bt (mkS [c]) 0 = (c.toNat : Int) from bt_at (s := [c]) (i := 0) (by simp)]
  simp
 rw [hb]
 show Value.int .i64 (ByteArray.foldl (fun (n : Int) x => if (x == c) = true then n + 1 else n) ((0 : Nat) : Int) (mkS s)) = _
 rw [Go.Lib.foldl_data, Go.Lib.count_foldl]
 simp [Go.Lib.countByte, mkS]
def spN (s : List UInt8) : Nat := s.countP spB
theorem spN_count : ∀ s : List UInt8, spN s = s.count 10 + s.count 34 + s.count 92
 | [] => rfl
 | c :: s => by
  have ih := spN_count s
  unfold spN at ih ⊢
  rw [List.countP_cons, List.count_cons, List.count_cons, List.count_cons, ih]
  unfold spB
  by_cases h1 : c = 92
  ·subst h1; simp; omega
  ·by_cases h2 : c = 34
   ·subst h2; simp; omega
   ·by_cases h3 : c = 10
    ·subst h3; simp; omega
    ·simp [h1, h2, h3]
theorem escB_len (c : UInt8) : (escB c).length = if spB c then 2 else 1 := by
 unfold escB spB
 by_cases h1 : c = 92
 ·subst h1; rfl
 ·by_cases h2 : c = 34
  ·subst h2; rfl
  ·by_cases h3 : c = 10
   ·subst h3; rfl
   ·simp [h1, h2, h3]
theorem escL_len : ∀ s : List UInt8, (escL s).length = s.length + spN s
 | [] => rfl
 | c :: s => by
  have ih := escL_len s
  unfold escL spN at ih ⊢
  rw [List.flatMap_cons, List.length_append, ih, escB_len, List.countP_cons, List.length_cons]
  cases spB c <;> simp <;> omega
theorem escL_same {s : List UInt8} (h : spN s = 0) : escL s = s := by
 induction s with
 | nil => rfl
 | cons c s ih =>
  unfold spN at h
  rw [List.countP_cons] at h
  have hc : spB c = false := by
   cases hs : spB c with
   | false => rfl
   | true => rw [hs] at h; simp at h
  have hs : spN s = 0 := by unfold spN; omega
  unfold escL
  rw [List.flatMap_cons]
  have : s.flatMap escB = s := ih hs
  rw [this]
  unfold spB at hc
  simp only [Bool.or_eq_false_iff, beq_eq_false_iff_ne, ne_eq] at hc
  unfold escB
  simp [hc.1.1, hc.1.2, hc.2]
theorem repR_sp (p : Nat → Nat × Nat) (c : UInt8) (h : spB c = false) : repR 0 p c.toNat = .slice none 0 0 := by
 unfold spB at h
 simp only [Bool.or_eq_false_iff, beq_eq_false_iff_ne, ne_eq] at h
 have h1 : ¬ c.toNat = 92 := fun e => h.1.1 (UInt8.toNat_inj.1 e)
 have h2 : ¬ c.toNat = 34 := fun e => h.1.2 (UInt8.toNat_inj.1 e)
 have h3 : ¬ c.toNat = 10 := fun e => h.2 (UInt8.toNat_inj.1 e)
 simp [repR, h1, h2, h3]
theorem repR_is (p : Nat → Nat × Nat) (c : UInt8) (h : spB c = true) : ∃ j, j < 3 ∧ repR 0 p c.toNat = sl2 (p j) ∧ newL j = escB c := by
 unfold spB at h
 simp only [Bool.or_eq_true, beq_iff_eq] at h
 rcases h with (rfl | rfl) | rfl
 ·exact ⟨0, by decide, rfl, rfl⟩
 ·exact ⟨1, by decide, rfl, rfl⟩
 ·exact ⟨2, by decide, rfl, rfl⟩
def bsL : List UInt8 := [10, 34, 92]
def cntL (s : List UInt8) (k : Nat) : Nat := ((bsL.take k).map fun b => s.count b).sum
theorem bsrReplace_spec (g2 : Nat) (p : Nat → Nat × Nat) (ta : Option Addr) (tc : Nat) (s : List UInt8) (hl : s.length ≤ 255) (rc : (Nat → Value) → Value → List Value) (hlen : ∀ R t, (rc R t).length = 257) (hat : ∀ R t q, q < 256 → ((rc R t).drop (q * 1)).take 1 = [R q]) (hT : ∀ R t, ((rc R t).drop 256).take 1 = [t]) :
  Does Tryz.prog 278 [.pointer (some ⟨g2, 0, none⟩), .string (mkS s)] [ro (some ⟨g2, 0, none⟩) (rc (repR 0 p) (.slice ta 3 tc)), ro ta (toRep 0), bag (repRows 0 p)] (fun v hp' => v = .string (mkS (escL s)) ∧ hp' = []) := by
 refine fn_enter Tryz.func278 rfl 122 rfl fun w0 h0 => ?_
 refine SQ (RG ?_)
 refine RR [] .z (.i 4 (.string ⟨#[]⟩) .a) .a ?_
 refine RZ (NT (SQ (RG ?_)))
 refine RR [] .z (.i 5 (.int .i64 (↑s.length : Int)) .a) .a ?_
 refine RZ (NT (SQ (RG ?_)))
 refine RR [] .z (.i 6 (.bool false) .a) .a ?_
 refine RZ (NT (SQ (SQ (RG ?_))))
 refine RR [] (.d (.d (.d .a))) (.i 20 (.pointer (some ⟨g2, 256, none⟩)) .a) .a ?_
 refine wpr_eq (ld (t := 22) (a := (⟨g2, 256, none⟩)) (dst := some 21) (by kernel_rfl) false 1 (by kernel_rfl) (by simp) [.slice ta 3 tc] rfl (fun w h => ld_ro h 0 rfl 256 (hT _ _))) ?_
 refine RV true [] .z (.i 26 (.bool (decide ((24 : Int) ≤ (↑s.length : Int)))) (.d (.d (.k .a)))) .a [inI64 ((3 : Int) * (8 : Int))] ⟨by unfold inI64; omega, trivial⟩ ?_
 refine RZ (NT ?_)
 refine wpc_join ⟨[(5, Value.int .i64 ((s.length + spN s : Nat) : Int)), (6, .bool (decide (0 < spN s))), (4, (.string ⟨#[]⟩)), (0, (.pointer (some ⟨g2, 0, none⟩))), (1, (.string (mkS s)))], [ro (some ⟨g2, 0, none⟩) (rc (repR 0 p) (.slice ta 3 tc)), ro ta (toRep 0), bag (repRows 0 p)]⟩ (fun Q1 hQ1 hk => ?_) ?_
 ·by_cases h24 : 24 ≤ s.length
  ·refine SC 26 (decide ((24 : Int) ≤ (↑s.length : Int))) true (decide_eq_true (by omega)) ?_
   refine CT (SQ (RG ?_))
   refine RR [] (.d (.d (.d .a))) (.i 29 (.pointer (some ⟨g2, 256, none⟩)) (.d (.d (.k .a)))) .a ?_
   refine wpr_eq (ld (t := 22) (a := (⟨g2, 256, none⟩)) (dst := some 30) (by kernel_rfl) false 1 (by kernel_rfl) (by simp) [.slice ta 3 tc] rfl (fun w h => ld_ro h 0 rfl 256 (hT _ _))) ?_
   refine RR [] .z (.i 32 (.int .i64 0) (.i 31 (.int .i64 3) (.i 30 (.slice ta 3 tc) (.d (.d (.k .a)))))) .a ?_
   refine RZ (NT (BK ?_))
   refine wpc_fact (fun w h => ro_addr h 1 rfl (by decide)) ?_
   rintro ⟨gt, ot, rfl⟩
   refine wpc_loop (X := {k : Nat // k ≤ 3}) (fun x => St.mk [(32, .int .i64 (x.1 : Int)), (31, .int .i64 3), (30, .slice (some ⟨gt, ot, none⟩) 3 tc), (6, .bool (decide (0 < cntL s x.1))), (5, .int .i64 ((s.length + cntL s x.1 : Nat) : Int)), (4, .string ⟨#[]⟩), (0, .pointer (some ⟨g2, 0, none⟩)), (1, .string (mkS s))]
    [ro (some { block := g2, off := 0 }) (rc (repR 0 p) (Value.slice (some ⟨gt, ot, none⟩) 3 tc)), ro (some ⟨gt, ot, none⟩) (toRep 0), bag (repRows 0 p)]) (fun x => 3 - x.1) ⟨0, by decide⟩ (ent_fr (by kernel_rfl)) ?_
   rintro ⟨k, hk3⟩
   dsimp only at hk3 ⊢
   rcases (by omega : k = 0 ∨ k = 1 ∨ k = 2 ∨ k = 3) with rfl | rfl | rfl | rfl
   ·have hcs : cntL s 1 = cntL s 0 + s.count 10 := by simp [cntL, bsL, Nat.add_assoc]
    have hcl := List.count_le_length (a := 10) (l := s)
    have hsz : (mkS [10]).size = 1 := rfl
    have hcz : cntL s 0 ≤ 0 * 255 := by
     have h1 := List.count_le_length (a := 10) (l := s)
     have h2 := List.count_le_length (a := 34) (l := s)
     simp [cntL, bsL] <;> omega
    refine SQ (RG ?_)
    refine RR [] .z (.i 33 (.bool true) (.i 32 (.int .i64 0) (.d (.k (.k (.i 6 (.bool false) (.d (.k .a)))))))) .a ?_
    refine RZ (NT (SQ (CT (SK (NT (SQ (BK (SQ (RG ?_)))))))))
    refine RV true [] (.d .a) (.i 34 (.pointer (some ⟨gt, ot, none⟩)) (.d (.k .a))) .a [(0 : Int) ≤ (0 : Int) ∧ (0 : Int) < (↑(3 : Nat) : Int)] ⟨by omega, trivial⟩ ?_
    refine wpr_eq (ld (t := 9) (a := (⟨gt, ot, none⟩)) (dst := some 35) (by kernel_rfl) false 1 (by kernel_rfl) (by simp) [.string (mkS [10])] rfl (fun w h => ld_ro h 1 rfl 0 rfl)) ?_
    refine RR [] .z (.i 8 (.string (mkS [10])) (.d (.d (.k .a)))) .a ?_
    refine RZ (NT (SQ (RG ?_)))
    refine RR [] (.d (.d .a)) (.i 37 (.string (mkS [10])) (.i 36 (.string (mkS s)) .a)) .a ?_
    refine RC (dst := some 38) [] .a (Count_spec s 10) ?_
    rintro v _ ⟨rfl, rfl⟩
    by_cases hc : s.count 10 = 0
    ·refine RR [] .z (.i 9 (.int .i64 (↑(List.count 10 s) : Int)) (.d (.d (.d (.k .a))))) .a ?_
     refine RZ (NT (SQ (RG ?_)))
     refine RR [] .z (.i 40 (.bool ((↑(List.count (10 : UInt8) s) : Int) != (0 : Int))) .a) .a ?_
     refine RZ (NT ?_)
     refine SC 40 ((↑(List.count (10 : UInt8) s) : Int) != (0 : Int)) false (by simp only [bne_eq_false_iff_eq, beq_eq_false_iff_ne, ne_eq]; omega) ?_
     refine CF (SK (BN (NT (RG ?_))))
     refine RV true [] .z (.i 32 (.int .i64 1) (.d (.d (.d (.d (.d (.k .a))))))) .a ([inI64 ((0 : Int) + (1 : Int))]) ⟨by unfold inI64; omega, trivial⟩ ?_
     refine RZ ?_
     refine nx_ent (ent_set 5 (.int .i64 (↑(s.length + cntL s 0) : Int)) (Value.int .i64 ((s.length + cntL s 1 : Nat) : Int)) (by kernel_rfl) (by simp only [hcs, hc, Nat.add_zero]; first | done | rfl)) ?_
     refine nx_ent (ent_set 6 (.bool false) (.bool (decide (0 < cntL s 1))) (by kernel_rfl) (by simp only [hcs, hc, Nat.add_zero]; first | done | rfl)) ?_
     exact fun a' w' hS' => ⟨⟨1, by decide⟩, by dsimp only; omega, ent_fr (by kernel_rfl) _ _ (ent_hp [0, 0, 0] rfl _ _ hS')⟩
    ·refine RR [] .z (.i 9 (.int .i64 (↑(List.count 10 s) : Int)) (.d (.d (.d (.k .a))))) .a ?_
     refine RZ (NT (SQ (RG ?_)))
     refine RR [] .z (.i 40 (.bool ((↑(List.count (10 : UInt8) s) : Int) != (0 : Int))) .a) .a ?_
     refine RZ (NT ?_)
     refine SC 40 ((↑(List.count (10 : UInt8) s) : Int) != (0 : Int)) true (by simp only [bne_iff_ne, beq_iff_eq, ne_eq]; omega) ?_
     refine CT (SQ ?_)
     refine wpc_draw (by kernel_rfl) [ro (some ⟨g2, 0, none⟩) (rc (repR 0 p) (.slice (some ⟨gt, ot, none⟩) 3 tc))] (sub_of [0] (by kernel_rfl)) 14 (by kernel_rfl) ?_
     refine wpa_take true [(0, []), (1, []), (2, []), (3, []), (4, []), (5, []), (6, []), (7, [])] ([(48, .pointer (some ⟨g2, 10, none⟩)), (42, .int .i64 (↑(List.count 10 s) : Int)), (41, .int .i64 (↑(s.length + cntL s 0) : Int)), (32, .int .i64 0), (31, .int .i64 3), (30, .slice (some ⟨gt, ot, none⟩) 3 tc), (6, .bool false), (5, .int .i64 (↑(s.length + cntL s 0) : Int)), (4, .string ⟨#[]⟩), (0, .pointer (some ⟨g2, 0, none⟩)), (1, .string (mkS s))]) (#[true, true, true, true, true, true, true, true, false, false, false, false, false, false]) [(0 : Int) ≤ (0 : Int) ∧ (0 : Int) < (↑[(10 : UInt8)].length : Int), (0 : Int) ≤ (10 : Int) ∧ (10 : Int) < (↑(256 : Nat) : Int)] (n := 6) (by kernel_rfl) (by kernel_rfl) (by kernel_rfl) ⟨by decide, by omega, trivial⟩ ?_
     refine wpa_qld (i := 8) (n := 5) (by kernel_rfl) (by kernel_rfl) (by kernel_rfl) (t := 39) (a := (⟨g2, 10, none⟩)) (dst := some 49) (by kernel_rfl) false 1 (by kernel_rfl) (by simp) [sl2 (p 2)] rfl (fun w h => ld_roL h 0 rfl 10 (hat _ _ 10 (by decide))) ?_
     refine wpa_take true [(9, []), (10, []), (11, []), (12, []), (13, [])] ([(5, .int .i64 ((↑(s.length + cntL s 0) : Int) + (↑(List.count 10 s) : Int) * 1)), (32, .int .i64 0), (31, .int .i64 3), (30, .slice (some ⟨gt, ot, none⟩) 3 tc), (6, .bool false), (4, .string ⟨#[]⟩), (0, .pointer (some ⟨g2, 0, none⟩)), (1, .string (mkS s))]) (#[true, true, true, true, true, true, true, true, true, true, true, true, true, true]) ([inI64 ((2 : Int) - (1 : Int)), inI64 ((↑(List.count (10 : UInt8) s) : Int) * (1 : Int)), inI64 ((↑(s.length + cntL s (0 : Nat)) : Int) + (↑(List.count (10 : UInt8) s) : Int) * (1 : Int))]) (n := 0) (by kernel_rfl) (by kernel_rfl) (by kernel_rfl) ⟨by unfold inI64; omega, by unfold inI64; omega, by unfold inI64; omega, trivial⟩ ?_
     refine wpa_done 0 (by kernel_rfl) ?_
     refine NT (RG ?_)
     refine RR [] .z (.i 6 (.bool true) (.k (.k (.k (.k (.d (.k .a))))))) .a ?_
     refine RZ (BN (NT (RG ?_)))
     refine RV true [] .z (.i 32 (.int .i64 1) (.k (.k (.d (.k .a))))) .a ([inI64 ((0 : Int) + (1 : Int))]) ⟨by unfold inI64; omega, trivial⟩ ?_
     refine RZ ?_
     refine nx_ent (ent_set 5 (.int .i64 ((↑(s.length + cntL s 0) : Int) + (↑(List.count 10 s) : Int) * 1)) (Value.int .i64 ((s.length + cntL s 1 : Nat) : Int)) (by kernel_rfl) (by simp only [hcs]; first | done | rfl | (congr 1; omega))) ?_
     refine nx_ent (ent_set 6 (.bool true) (.bool (decide (0 < cntL s 1))) (by kernel_rfl) (by rw [decide_eq_true (by omega)])) ?_
     exact fun a' w' hS' => ⟨⟨1, by decide⟩, by dsimp only; omega, ent_fr (by kernel_rfl) _ _ (ent_hp [0, 0, 0] rfl _ _ hS')⟩
   ·have hcs : cntL s 2 = cntL s 1 + s.count 34 := by simp [cntL, bsL, Nat.add_assoc]
    have hcl := List.count_le_length (a := 34) (l := s)
    have hsz : (mkS [34]).size = 1 := rfl
    have hcz : cntL s 1 ≤ 1 * 255 := by
     have h1 := List.count_le_length (a := 10) (l := s)
     have h2 := List.count_le_length (a := 34) (l := s)
     simp [cntL, bsL] <;> omega
    refine SQ (RG ?_)
    refine RR [] .z (.i 33 (.bool true) (.i 32 (.int .i64 1) (.d (.k .a)))) .a ?_
    refine RZ (NT (SQ (CT (SK (NT (SQ (BK (SQ (RG ?_)))))))))
    refine RV true [] (.d .a) (.i 34 (.pointer (some ⟨gt, ot + 1, none⟩)) (.d (.k .a))) .a [(0 : Int) ≤ (1 : Int) ∧ (1 : Int) < (↑(3 : Nat) : Int)] ⟨by omega, trivial⟩ ?_
    refine wpr_eq (ld (t := 9) (a := (⟨gt, ot + 1, none⟩)) (dst := some 35) (by kernel_rfl) false 1 (by kernel_rfl) (by simp) [.string (mkS [34])] rfl (fun w h => ld_ro h 1 rfl 1 rfl)) ?_
    refine RR [] .z (.i 8 (.string (mkS [34])) (.d (.d (.k .a)))) .a ?_
    refine RZ (NT (SQ (RG ?_)))
    refine RR [] (.d (.d .a)) (.i 37 (.string (mkS [34])) (.i 36 (.string (mkS s)) .a)) .a ?_
    refine RC (dst := some 38) [] .a (Count_spec s 34) ?_
    rintro v _ ⟨rfl, rfl⟩
    by_cases hc : s.count 34 = 0
    ·refine RR [] .z (.i 9 (.int .i64 (↑(List.count 34 s) : Int)) (.d (.d (.d (.k .a))))) .a ?_
     refine RZ (NT (SQ (RG ?_)))
     refine RR [] .z (.i 40 (.bool ((↑(List.count (34 : UInt8) s) : Int) != (0 : Int))) .a) .a ?_
     refine RZ (NT ?_)
     refine SC 40 ((↑(List.count (34 : UInt8) s) : Int) != (0 : Int)) false (by simp only [bne_eq_false_iff_eq, beq_eq_false_iff_ne, ne_eq]; omega) ?_
     refine CF (SK (BN (NT (RG ?_))))
     refine RV true [] .z (.i 32 (.int .i64 2) (.d (.d (.d (.d (.d (.k .a))))))) .a ([inI64 ((1 : Int) + (1 : Int))]) ⟨by unfold inI64; omega, trivial⟩ ?_
     refine RZ ?_
     refine nx_ent (ent_set 5 (.int .i64 (↑(s.length + cntL s 1) : Int)) (Value.int .i64 ((s.length + cntL s 2 : Nat) : Int)) (by kernel_rfl) (by simp only [hcs, hc, Nat.add_zero]; first | done | rfl)) ?_
     refine nx_ent (ent_set 6 (.bool (decide (0 < cntL s 1))) (.bool (decide (0 < cntL s 2))) (by kernel_rfl) (by simp only [hcs, hc, Nat.add_zero]; first | done | rfl)) ?_
     exact fun a' w' hS' => ⟨⟨2, by decide⟩, by dsimp only; omega, ent_fr (by kernel_rfl) _ _ (ent_hp [0, 0, 0] rfl _ _ hS')⟩
    ·refine RR [] .z (.i 9 (.int .i64 (↑(List.count 34 s) : Int)) (.d (.d (.d (.k .a))))) .a ?_
     refine RZ (NT (SQ (RG ?_)))
     refine RR [] .z (.i 40 (.bool ((↑(List.count (34 : UInt8) s) : Int) != (0 : Int))) .a) .a ?_
     refine RZ (NT ?_)
     refine SC 40 ((↑(List.count (34 : UInt8) s) : Int) != (0 : Int)) true (by simp only [bne_iff_ne, beq_iff_eq, ne_eq]; omega) ?_
     refine CT (SQ ?_)
     refine wpc_draw (by kernel_rfl) [ro (some ⟨g2, 0, none⟩) (rc (repR 0 p) (.slice (some ⟨gt, ot, none⟩) 3 tc))] (sub_of [0] (by kernel_rfl)) 14 (by kernel_rfl) ?_
     refine wpa_take true [(0, []), (1, []), (2, []), (3, []), (4, []), (5, []), (6, []), (7, [])] ([(48, .pointer (some ⟨g2, 34, none⟩)), (42, .int .i64 (↑(List.count 34 s) : Int)), (41, .int .i64 (↑(s.length + cntL s 1) : Int)), (32, .int .i64 1), (31, .int .i64 3), (30, .slice (some ⟨gt, ot, none⟩) 3 tc), (6, .bool (decide (0 < cntL s 1))), (5, .int .i64 (↑(s.length + cntL s 1) : Int)), (4, .string ⟨#[]⟩), (0, .pointer (some ⟨g2, 0, none⟩)), (1, .string (mkS s))]) (#[true, true, true, true, true, true, true, true, false, false, false, false, false, false]) [(0 : Int) ≤ (0 : Int) ∧ (0 : Int) < (↑[(34 : UInt8)].length : Int), (0 : Int) ≤ (34 : Int) ∧ (34 : Int) < (↑(256 : Nat) : Int)] (n := 6) (by kernel_rfl) (by kernel_rfl) (by kernel_rfl) ⟨by decide, by omega, trivial⟩ ?_
     refine wpa_qld (i := 8) (n := 5) (by kernel_rfl) (by kernel_rfl) (by kernel_rfl) (t := 39) (a := (⟨g2, 34, none⟩)) (dst := some 49) (by kernel_rfl) false 1 (by kernel_rfl) (by simp) [sl2 (p 1)] rfl (fun w h => ld_roL h 0 rfl 34 (hat _ _ 34 (by decide))) ?_
     refine wpa_take true [(9, []), (10, []), (11, []), (12, []), (13, [])] ([(5, .int .i64 ((↑(s.length + cntL s 1) : Int) + (↑(List.count 34 s) : Int) * 1)), (32, .int .i64 1), (31, .int .i64 3), (30, .slice (some ⟨gt, ot, none⟩) 3 tc), (6, .bool (decide (0 < cntL s 1))), (4, .string ⟨#[]⟩), (0, .pointer (some ⟨g2, 0, none⟩)), (1, .string (mkS s))]) (#[true, true, true, true, true, true, true, true, true, true, true, true, true, true]) ([inI64 ((2 : Int) - (1 : Int)), inI64 ((↑(List.count (34 : UInt8) s) : Int) * (1 : Int)), inI64 ((↑(s.length + cntL s (1 : Nat)) : Int) + (↑(List.count (34 : UInt8) s) : Int) * (1 : Int))]) (n := 0) (by kernel_rfl) (by kernel_rfl) (by kernel_rfl) ⟨by unfold inI64; omega, by unfold inI64; omega, by unfold inI64; omega, trivial⟩ ?_
     refine wpa_done 0 (by kernel_rfl) ?_
     refine NT (RG ?_)
     refine RR [] .z (.i 6 (.bool true) (.k (.k (.k (.k (.d (.k .a))))))) .a ?_
     refine RZ (BN (NT (RG ?_)))
     refine RV true [] .z (.i 32 (.int .i64 2) (.k (.k (.d (.k .a))))) .a ([inI64 ((1 : Int) + (1 : Int))]) ⟨by unfold inI64; omega, trivial⟩ ?_
     refine RZ ?_
     refine nx_ent (ent_set 5 (.int .i64 ((↑(s.length + cntL s 1) : Int) + (↑(List.count 34 s) : Int) * 1)) (Value.int .i64 ((s.length + cntL s 2 : Nat) : Int)) (by kernel_rfl) (by simp only [hcs]; first | done | rfl | (congr 1; omega))) ?_
     refine nx_ent (ent_set 6 (.bool true) (.bool (decide (0 < cntL s 2))) (by kernel_rfl) (by rw [decide_eq_true (by omega)])) ?_
     exact fun a' w' hS' => ⟨⟨2, by decide⟩, by dsimp only; omega, ent_fr (by kernel_rfl) _ _ (ent_hp [0, 0, 0] rfl _ _ hS')⟩
   ·have hcs : cntL s 3 = cntL s 2 + s.count 92 := by simp [cntL, bsL, Nat.add_assoc]
    have hcl := List.count_le_length (a := 92) (l := s)
    have hsz : (mkS [92]).size = 1 := rfl
    have hcz : cntL s 2 ≤ 2 * 255 := by
     have h1 := List.count_le_length (a := 10) (l := s)
     have h2 := List.count_le_length (a := 34) (l := s)
     simp [cntL, bsL] <;> omega
    refine SQ (RG ?_)
    refine RR [] .z (.i 33 (.bool true) (.i 32 (.int .i64 2) (.d (.k .a)))) .a ?_
    refine RZ (NT (SQ (CT (SK (NT (SQ (BK (SQ (RG ?_)))))))))
    refine RV true [] (.d .a) (.i 34 (.pointer (some ⟨gt, ot + 2, none⟩)) (.d (.k .a))) .a [(0 : Int) ≤ (2 : Int) ∧ (2 : Int) < (↑(3 : Nat) : Int)] ⟨by omega, trivial⟩ ?_
    refine wpr_eq (ld (t := 9) (a := (⟨gt, ot + 2, none⟩)) (dst := some 35) (by kernel_rfl) false 1 (by kernel_rfl) (by simp) [.string (mkS [92])] rfl (fun w h => ld_ro h 1 rfl 2 rfl)) ?_
    refine RR [] .z (.i 8 (.string (mkS [92])) (.d (.d (.k .a)))) .a ?_
    refine RZ (NT (SQ (RG ?_)))
    refine RR [] (.d (.d .a)) (.i 37 (.string (mkS [92])) (.i 36 (.string (mkS s)) .a)) .a ?_
    refine RC (dst := some 38) [] .a (Count_spec s 92) ?_
    rintro v _ ⟨rfl, rfl⟩
    by_cases hc : s.count 92 = 0
    ·refine RR [] .z (.i 9 (.int .i64 (↑(List.count 92 s) : Int)) (.d (.d (.d (.k .a))))) .a ?_
     refine RZ (NT (SQ (RG ?_)))
     refine RR [] .z (.i 40 (.bool ((↑(List.count (92 : UInt8) s) : Int) != (0 : Int))) .a) .a ?_
     refine RZ (NT ?_)
     refine SC 40 ((↑(List.count (92 : UInt8) s) : Int) != (0 : Int)) false (by simp only [bne_eq_false_iff_eq, beq_eq_false_iff_ne, ne_eq]; omega) ?_
     refine CF (SK (BN (NT (RG ?_))))
     refine RV true [] .z (.i 32 (.int .i64 3) (.d (.d (.d (.d (.d (.k .a))))))) .a ([inI64 ((2 : Int) + (1 : Int))]) ⟨by unfold inI64; omega, trivial⟩ ?_
     refine RZ ?_
     refine nx_ent (ent_set 5 (.int .i64 (↑(s.length + cntL s 2) : Int)) (Value.int .i64 ((s.length + cntL s 3 : Nat) : Int)) (by kernel_rfl) (by simp only [hcs, hc, Nat.add_zero]; first | done | rfl)) ?_
     refine nx_ent (ent_set 6 (.bool (decide (0 < cntL s 2))) (.bool (decide (0 < cntL s 3))) (by kernel_rfl) (by simp only [hcs, hc, Nat.add_zero]; first | done | rfl)) ?_
     exact fun a' w' hS' => ⟨⟨3, by decide⟩, by dsimp only; omega, ent_fr (by kernel_rfl) _ _ (ent_hp [0, 0, 0] rfl _ _ hS')⟩
    ·refine RR [] .z (.i 9 (.int .i64 (↑(List.count 92 s) : Int)) (.d (.d (.d (.k .a))))) .a ?_
     refine RZ (NT (SQ (RG ?_)))
     refine RR [] .z (.i 40 (.bool ((↑(List.count (92 : UInt8) s) : Int) != (0 : Int))) .a) .a ?_
     refine RZ (NT ?_)
     refine SC 40 ((↑(List.count (92 : UInt8) s) : Int) != (0 : Int)) true (by simp only [bne_iff_ne, beq_iff_eq, ne_eq]; omega) ?_
     refine CT (SQ ?_)
     refine wpc_draw (by kernel_rfl) [ro (some ⟨g2, 0, none⟩) (rc (repR 0 p) (.slice (some ⟨gt, ot, none⟩) 3 tc))] (sub_of [0] (by kernel_rfl)) 14 (by kernel_rfl) ?_
     refine wpa_take true [(0, []), (1, []), (2, []), (3, []), (4, []), (5, []), (6, []), (7, [])] ([(48, .pointer (some ⟨g2, 92, none⟩)), (42, .int .i64 (↑(List.count 92 s) : Int)), (41, .int .i64 (↑(s.length + cntL s 2) : Int)), (32, .int .i64 2), (31, .int .i64 3), (30, .slice (some ⟨gt, ot, none⟩) 3 tc), (6, .bool (decide (0 < cntL s 2))), (5, .int .i64 (↑(s.length + cntL s 2) : Int)), (4, .string ⟨#[]⟩), (0, .pointer (some ⟨g2, 0, none⟩)), (1, .string (mkS s))]) (#[true, true, true, true, true, true, true, true, false, false, false, false, false, false]) [(0 : Int) ≤ (0 : Int) ∧ (0 : Int) < (↑[(92 : UInt8)].length : Int), (0 : Int) ≤ (92 : Int) ∧ (92 : Int) < (↑(256 : Nat) : Int)] (n := 6) (by kernel_rfl) (by kernel_rfl) (by kernel_rfl) ⟨by decide, by omega, trivial⟩ ?_
     refine wpa_qld (i := 8) (n := 5) (by kernel_rfl) (by kernel_rfl) (by kernel_rfl) (t := 39) (a := (⟨g2, 92, none⟩)) (dst := some 49) (by kernel_rfl) false 1 (by kernel_rfl) (by simp) [sl2 (p 0)] rfl (fun w h => ld_roL h 0 rfl 92 (hat _ _ 92 (by decide))) ?_
     refine wpa_take true [(9, []), (10, []), (11, []), (12, []), (13, [])] ([(5, .int .i64 ((↑(s.length + cntL s 2) : Int) + (↑(List.count 92 s) : Int) * 1)), (32, .int .i64 2), (31, .int .i64 3), (30, .slice (some ⟨gt, ot, none⟩) 3 tc), (6, .bool (decide (0 < cntL s 2))), (4, .string ⟨#[]⟩), (0, .pointer (some ⟨g2, 0, none⟩)), (1, .string (mkS s))]) (#[true, true, true, true, true, true, true, true, true, true, true, true, true, true]) ([inI64 ((2 : Int) - (1 : Int)), inI64 ((↑(List.count (92 : UInt8) s) : Int) * (1 : Int)), inI64 ((↑(s.length + cntL s (2 : Nat)) : Int) + (↑(List.count (92 : UInt8) s) : Int) * (1 : Int))]) (n := 0) (by kernel_rfl) (by kernel_rfl) (by kernel_rfl) ⟨by unfold inI64; omega, by unfold inI64; omega, by unfold inI64; omega, trivial⟩ ?_
     refine wpa_done 0 (by kernel_rfl) ?_
     refine NT (RG ?_)
     refine RR [] .z (.i 6 (.bool true) (.k (.k (.k (.k (.d (.k .a))))))) .a ?_
     refine RZ (BN (NT (RG ?_)))
     refine RV true [] .z (.i 32 (.int .i64 3) (.k (.k (.d (.k .a))))) .a ([inI64 ((2 : Int) + (1 : Int))]) ⟨by unfold inI64; omega, trivial⟩ ?_
     refine RZ ?_
     refine nx_ent (ent_set 5 (.int .i64 ((↑(s.length + cntL s 2) : Int) + (↑(List.count 92 s) : Int) * 1)) (Value.int .i64 ((s.length + cntL s 3 : Nat) : Int)) (by kernel_rfl) (by simp only [hcs]; first | done | rfl | (congr 1; omega))) ?_
     refine nx_ent (ent_set 6 (.bool true) (.bool (decide (0 < cntL s 3))) (by kernel_rfl) (by rw [decide_eq_true (by omega)])) ?_
     exact fun a' w' hS' => ⟨⟨3, by decide⟩, by dsimp only; omega, ent_fr (by kernel_rfl) _ _ (ent_hp [0, 0, 0] rfl _ _ hS')⟩
   ·have hcs : cntL s 3 = spN s := by rw [spN_count, Nat.add_assoc]; show s.count 10 + (s.count 34 + (s.count 92 + 0)) = _; rfl
    refine SQ (RG ?_)
    refine RR [] .z (.i 33 (.bool false) (.i 32 (.int .i64 3) (.d (.k .a)))) .a ?_
    refine RZ (NT (SQ (CF (EX (TE (TE (BH ?_)))))))
    rw [hcs]
    exact nx_ent (ent_fr (by kernel_rfl)) hk
  --PATHB
  ·refine SC 26 (decide ((24 : Int) ≤ (↑s.length : Int))) false (decide_eq_false (by omega)) ?_
   refine CF (SQ (RG ?_))
   refine RR [] .z (.i 10 (.int .i64 0) (.d (.d (.k .a)))) .a ?_
   refine RZ (NT (BK ?_))
   refine wpc_loop (X := {i : Nat // i ≤ s.length}) (fun x => St.mk [(10, .int .i64 (x.1 : Int)), (6, .bool (decide (0 < spN (s.take x.1)))), (5, .int .i64 ((s.length + spN (s.take x.1) : Nat) : Int)), (4, .string ⟨#[]⟩), (0, .pointer (some ⟨g2, 0, none⟩)), (1, .string (mkS s))]
    [ro (some { block := g2, off := 0 }) (rc (repR 0 p) (Value.slice ta 3 tc)), ro ta (toRep 0), bag (repRows 0 p)]) (fun x => s.length - x.1) ⟨0, Nat.zero_le _⟩ (ent_fr (by kernel_rfl)) ?_
   rintro ⟨i, hi⟩
   dsimp only at hi ⊢
   have hsl : spN (s.take i) ≤ 255 := by
    have h1 : spN (s.take i) ≤ (s.take i).length := List.countP_le_length
    rw [List.length_take] at h1; omega
   by_cases hlt : i < s.length
   ·have hstep : spN (s.take (i + 1)) = spN (s.take i) + if spB s[i] then 1 else 0 := by
     unfold spN
     rw [← List.take_append_getElem hlt, List.countP_append, List.countP_singleton]
    have hbt : bt (mkS s) (i : Int) = (s[i].toNat : Int) := bt_at hlt
    have hc256 := (s[i]).toNat_lt
    refine SQ (SQ (RG ?_))
    refine RR [] .z (.i 58 (.bool (decide ((↑i : Int) < (↑s.length : Int)))) .a) .a ?_
    refine RZ (NT ?_)
    refine SC 58 (decide ((↑i : Int) < (↑s.length : Int))) true (decide_eq_true (by omega)) ?_
    refine CT (SK (NT (SQ (BK (SQ (RG ?_))))))
    refine RV true [] .z (.i 11 (.int .u8 (bt (mkS s) (↑i : Int))) (.d (.d (.k .a)))) .a [(0 : Int) ≤ (↑i : Int) ∧ (↑i : Int) < (↑s.length : Int)] ⟨by omega, trivial⟩ ?_
    refine RZ (NT (SQ (RG ?_)))
    refine RV true [] (.d (.d (.d (.d (.d .a))))) (.i 68 (.pointer (some ⟨g2, 0 + Int.toNat (bt (mkS s) (↑i : Int)) * 1, none⟩)) .a) .a [(0 : Int) ≤ bt (mkS s) (↑i : Int) ∧ bt (mkS s) (↑i : Int) < (↑(256 : Nat) : Int)] ⟨by omega, trivial⟩ ?_
    rw [hbt, Int.toNat_natCast]
    cases hsp : spB s[i] with
    | false =>
     rw [hsp] at hstep
     refine wpr_eq (ld (t := 39) (a := (⟨g2, 0 + s[i].toNat * 1, none⟩)) (dst := some 69) (by kernel_rfl) false 1 (by kernel_rfl) (by simp) [.slice none 0 0] rfl (fun w h => ld_ro h 0 rfl (s[i].toNat * 1) ((hat _ _ _ hc256).trans (by rw [repR_sp p _ hsp])))) ?_
     refine RR [] .z (.i 70 (.bool false) (.d (.d (.k .a)))) .a ?_
     refine RZ (NT (CF (SK (BN (NT (RG ?_))))))
     refine RV true [] .z (.i 10 (.int .i64 ((↑i : Int) + 1)) (.d (.d (.d (.k .a))))) .a ([inI64 ((↑i : Int) + (1 : Int))]) ⟨by unfold inI64; omega, trivial⟩ ?_
     refine RZ ?_
     refine nx_ent (ent_set 5 (.int .i64 (↑(s.length + spN (List.take i s)) : Int)) (Value.int .i64 ((s.length + spN (s.take (i + 1)) : Nat) : Int)) (by kernel_rfl) (by rw [hstep]; first | done | rfl)) ?_
     refine nx_ent (ent_set 6 (.bool (decide (0 < spN (List.take i s)))) (.bool (decide (0 < spN (s.take (i + 1))))) (by kernel_rfl) (by rw [hstep]; first | done | rfl)) ?_
     exact fun a' w' hS' => ⟨⟨i + 1, hlt⟩, by dsimp only; omega, ent_fr (by kernel_rfl) _ _ (ent_hp [0, 0, 0] rfl _ _ hS')⟩
    | true =>
     rw [hsp] at hstep
     obtain ⟨j, hj, hR, hnew⟩ := repR_is p s[i] hsp
     refine wpr_eq (ld (t := 39) (a := (⟨g2, 0 + s[i].toNat * 1, none⟩)) (dst := some 69) (by kernel_rfl) false 1 (by kernel_rfl) (by simp) [sl2 (p j)] rfl (fun w h => ld_ro h 0 rfl (s[i].toNat * 1) ((hat _ _ _ hc256).trans (by rw [hR])))) ?_
     refine RR [] .z (.i 70 (.bool true) (.d (.d (.k .a)))) .a ?_
     refine RZ (NT (CT (SQ (RG ?_))))
     refine RV true [] (.d (.d (.d (.d (.d (.d .a)))))) (.i 76 (.pointer (some ⟨g2, 0 + s[i].toNat * 1, none⟩)) (.i 71 (.int .i64 (↑(s.length + spN (List.take i s)) : Int)) (.d (.d (.k .a))))) .a [(0 : Int) ≤ (↑s[i].toNat : Int) ∧ (↑s[i].toNat : Int) < (↑(256 : Nat) : Int)] ⟨by omega, trivial⟩ ?_
     refine wpr_eq (ld (t := 39) (a := (⟨g2, 0 + s[i].toNat * 1, none⟩)) (dst := some 77) (by kernel_rfl) false 1 (by kernel_rfl) (by simp) [sl2 (p j)] rfl (fun w h => ld_ro h 0 rfl (s[i].toNat * 1) ((hat _ _ _ hc256).trans (by rw [hR])))) ?_
     refine RV true [] .z (.i 5 (.int .i64 ((↑(s.length + spN (List.take i s)) : Int) + 1)) (.d (.d (.d (.k (.k (.d (.k .a)))))))) .a ([inI64 ((2 : Int) - (1 : Int)), inI64 ((↑(s.length + spN (List.take i s)) : Int) + (1 : Int))]) ⟨by unfold inI64; omega, by unfold inI64; omega, trivial⟩ ?_
     refine RZ (NT (RG ?_))
     refine RR [] .z (.i 6 (.bool true) (.k (.k (.d (.k .a))))) .a ?_
     refine RZ (BN (NT (RG ?_)))
     refine RV true [] .z (.i 10 (.int .i64 ((↑i : Int) + 1)) (.k (.k (.d (.k .a))))) .a ([inI64 ((↑i : Int) + (1 : Int))]) ⟨by unfold inI64; omega, trivial⟩ ?_
     refine RZ ?_
     refine nx_ent (ent_set 5 (.int .i64 ((↑(s.length + spN (List.take i s)) : Int) + 1)) (Value.int .i64 ((s.length + spN (s.take (i + 1)) : Nat) : Int)) (by kernel_rfl) (by rw [hstep, if_pos rfl]; first | rfl | (congr 1; omega))) ?_
     refine nx_ent (ent_set 6 (.bool true) (.bool (decide (0 < spN (s.take (i + 1))))) (by kernel_rfl) (by rw [hstep, if_pos rfl, decide_eq_true (by omega)])) ?_
     exact fun a' w' hS' => ⟨⟨i + 1, hlt⟩, by dsimp only; omega, ent_fr (by kernel_rfl) _ _ (ent_hp [0, 0, 0] rfl _ _ hS')⟩
   ·obtain rfl : i = s.length := by omega
    rw [List.take_length]
    refine SQ (SQ (RG ?_))
    refine RR [] .z (.i 58 (.bool (decide ((↑s.length : Int) < (↑s.length : Int)))) .a) .a ?_
    refine RZ (NT ?_)
    refine SC 58 (decide ((↑s.length : Int) < (↑s.length : Int))) false (by simp) ?_
    refine CF (EX (TE (TE (BH ?_))))
    exact nx_ent (ent_fr (by kernel_rfl)) hk
 have hsl : spN s ≤ s.length := List.countP_le_length
 refine NT (SQ (SQ (RG ?_)))
 refine RR [] .z (.i 82 (.bool !decide ((0 : Nat) < spN s)) (.k (.d (.k .a)))) .a ?_
 refine RZ (NT ?_)
 by_cases h0 : spN s = 0
 ·refine SC 82 (!decide ((0 : Nat) < spN s)) true (by simp [h0]) ?_
  refine CT (SQ (RG ?_))
  refine RR [] .z (.i 4 (.string (mkS s)) (.d (.d (.k (.d (.k .a)))))) .a ?_
  refine RZ (NT (RE (TR ?_)))
  refine NE [] .z .a [] (.string (mkS s)) ?_
  exact ⟨by rw [escL_same h0], rfl⟩
 ·refine SC 82 (!decide ((0 : Nat) < spN s)) false (by simp; omega) ?_
  refine CF (SK (NT (SQ (RG ?_))))
  refine RR [] (.d .a) (.i 84 (.int .i64 (↑(s.length + spN s) : Int)) (.d (.d (.d (.k .a))))) .a ?_
  refine wpr_make (m := s.length + spN s) (t := 39) (dst := some 85) (by kernel_rfl) (e := 5) (sz := 1) (bytes := 1) (by kernel_rfl) (by omega) (by omega) ?_
  intro gb zs hzs
  refine RR [] .z (.i 12 (.slice (some ⟨gb, 0, none⟩) (s.length + spN s) (s.length + spN s)) (.d (.d (.k .a)))) .a ?_
  refine RZ (NT (SQ (RG ?_)))
  refine RR [] .z (.i 13 (.int .i64 0) .a) .a ?_
  refine RZ (NT (SQ (SQ (RG ?_))))
  refine RR [] .z (.i 14 (.int .i64 0) .a) .a ?_
  refine RZ (NT (BK ?_))
  obtain ⟨N, hN⟩ : ∃ N, N = s.length + spN s := ⟨_, rfl⟩
  have hNl : (escL s).length = N := by rw [escL_len, hN]
  rw [← hN] at hzs ⊢
  have hEs : ∀ i, (hi : i < s.length) → escL (s.take (i + 1)) = escL (s.take i) ++ escB s[i] := fun i hi => by
   unfold escL; rw [← List.take_append_getElem hi, List.flatMap_append]; simp
  have hEl : ∀ i, (escL (s.take i)).length ≤ N := fun i => by
   have h : escL s = escL (s.take i) ++ escL (s.drop i) := by unfold escL; rw [← List.flatMap_append, List.take_append_drop]
   rw [← hNl, h, List.length_append]; omega
  refine wpc_loop (X := {x : Nat × List Value // x.1 ≤ s.length ∧ x.2.length + (escL (s.take x.1)).length = N}) (fun x => St.mk [(14, .int .i64 (x.1.1 : Int)), (13, .int .i64 ((escL (s.take x.1.1)).length : Int)), (12, .slice (some ⟨gb, 0, none⟩) N N), (4, .string ⟨#[]⟩), (0, .pointer (some ⟨g2, 0, none⟩)), (1, .string (mkS s))]
   [ro (some { block := g2, off := 0 }) (rc (repR 0 p) (Value.slice ta 3 tc)), bag (repRows 0 p), row 5 1 (some { block := gb, off := 0 }) N N (u8s (escL (s.take x.1.1)) ++ x.1.2)]) (fun x => s.length - x.1.1) ⟨(0, zs), Nat.zero_le _, by simp [escL]; omega⟩ (Ent.trans (ent_hp [0, 1, 1] rfl) (ent_fr (by kernel_rfl))) ?_
  rintro ⟨⟨i, ys⟩, hi, hys⟩
  dsimp only at hi hys ⊢
  by_cases hlt : i < s.length
  ·have hbt : bt (mkS s) (i : Int) = (s[i].toNat : Int) := bt_at hlt
   have hc256 := (s[i]).toNat_lt
   have hE1 := hEs i hlt
   have hE2 := hEl (i + 1)
   have hB := escB_len s[i]
   rw [hE1, List.length_append, hB] at hE2
   obtain ⟨E, hE⟩ : ∃ E, E = escL (s.take i) := ⟨_, rfl⟩
   rw [← hE] at hys hE1 hE2 ⊢
   refine SQ (SQ (RG ?_))
   refine RR [] .z (.i 89 (.bool (decide ((↑i : Int) < (↑s.length : Int)))) .a) .a ?_
   refine RZ (NT ?_)
   refine SC 89 (decide ((↑i : Int) < (↑s.length : Int))) true (decide_eq_true (by omega)) ?_
   refine CT (SK (NT (SQ (BK (SQ (RG ?_))))))
   refine RV true [] .z (.i 15 (.int .u8 (bt (mkS s) (↑i : Int))) (.d (.d (.k .a)))) .a [(0 : Int) ≤ (↑i : Int) ∧ (↑i : Int) < (↑s.length : Int)] ⟨by omega, trivial⟩ ?_
   refine RZ (NT (SQ (RG ?_)))
   refine RV true [] (.d (.d (.d (.d (.d .a))))) (.i 99 (.pointer (some ⟨g2, 0 + Int.toNat (bt (mkS s) (↑i : Int)) * 1, none⟩)) .a) .a [(0 : Int) ≤ bt (mkS s) (↑i : Int) ∧ bt (mkS s) (↑i : Int) < (↑(256 : Nat) : Int)] ⟨by omega, trivial⟩ ?_
   rw [hbt, Int.toNat_natCast]
   cases hsp : spB s[i] with
   | false =>
    rw [hsp] at hE2 hB
    simp only [Bool.false_eq_true, if_false] at hE2 hB
    have hBe : escB s[i] = [s[i]] := by
     unfold spB at hsp
     simp only [Bool.or_eq_false_iff, beq_eq_false_iff_ne, ne_eq] at hsp
     simp [escB, hsp.1.1, hsp.1.2, hsp.2]
    refine wpr_eq (ld (t := 39) (a := (⟨g2, 0 + s[i].toNat * 1, none⟩)) (dst := some 100) (by kernel_rfl) false 1 (by kernel_rfl) (by simp) [.slice none 0 0] rfl (fun w h => ld_ro h 0 rfl (s[i].toNat * 1) ((hat _ _ _ hc256).trans (by rw [repR_sp p _ hsp])))) ?_
    refine RR [] .z (.i 101 (.bool false) (.d (.d (.k .a)))) .a ?_
    refine RZ (NT (CF (SQ (RG ?_))))
    refine RV true [] (.d (.d (.d (.d .a)))) (.i 117 (.pointer (some ⟨gb, 0 + E.length * 1, none⟩)) (.i 116 (.int .u8 (↑s[i].toNat : Int)) (.d (.d (.k .a))))) .a [(0 : Int) ≤ (↑E.length : Int) ∧ (↑E.length : Int) < (↑N : Int)] ⟨by omega, trivial⟩ ?_
    have hE3 : (escL (s.take (i + 1))).length = E.length + 1 := by rw [hE1, List.length_append, hB]
    refine wpr_eq (stq' (t := 5) (g := gb) (off := 0) (q := (E.length * 1)) (v := (.int .u8 (↑s[i].toNat : Int))) (dst := none) (by kernel_rfl) 2 (T := 5) (sz := 1) (n := N) (cap := N) (xs := (u8s E ++ ys)) (by kernel_rfl) [.int .u8 (s[i].toNat : Int)] (by kernel_rfl) (by kernel_rfl) (by simp [Go.Sx.One, Value.oneCell']) (by rw [List.length_append, u8s_len]; simp; omega) (xs' := (u8s (escL (s.take (i + 1))) ++ ys.drop 1)) (by
              rw [hE1, hBe, Nat.mul_one]
              rw [List.take_left' (u8s_len E), ← List.drop_drop, List.drop_left' (u8s_len E)]
              simp [u8s])) ?_
    refine RZ (NT (RG ?_))
    refine RV true [] .z (.i 13 (.int .i64 ((↑E.length : Int) + 1)) (.d (.d (.k (.d (.k .a)))))) .a ([inI64 ((↑E.length : Int) + (1 : Int))]) ⟨by unfold inI64; omega, trivial⟩ ?_
    refine RZ (BN (NT (RG ?_)))
    refine RV true [] .z (.i 14 (.int .i64 ((↑i : Int) + 1)) (.k (.d (.k .a)))) .a ([inI64 ((↑i : Int) + (1 : Int))]) ⟨by unfold inI64; omega, trivial⟩ ?_
    refine RZ ?_
    refine nx_ent (ent_set 13 (.int .i64 ((↑E.length : Int) + 1)) (Value.int .i64 ((escL (s.take (i + 1))).length : Int)) (by kernel_rfl) (by rw [hE3]; rfl)) ?_
    exact fun a' w' hS' => ⟨⟨(i + 1, ys.drop 1), hlt, by rw [List.length_drop, hE3]; omega⟩, by dsimp only; omega, ent_fr (by kernel_rfl) _ _ (ent_hp [0, 0, 0] rfl _ _ hS')⟩
   | true =>
    rw [hsp, if_pos rfl] at hE2 hB
    obtain ⟨j, hj, hR, hnew⟩ := repR_is p s[i] hsp
    have hmem : repRow p j ∈ repRows 0 p := by
     rcases (by omega : j = 0 ∨ j = 1 ∨ j = 2) with rfl | rfl | rfl <;> simp [repRows]
    refine wpr_eq (ld (t := 39) (a := (⟨g2, 0 + s[i].toNat * 1, none⟩)) (dst := some 100) (by kernel_rfl) false 1 (by kernel_rfl) (by simp) [sl2 (p j)] rfl (fun w h => ld_ro h 0 rfl (s[i].toNat * 1) ((hat _ _ _ hc256).trans (by rw [hR])))) ?_
    refine RR [] .z (.i 101 (.bool true) (.d (.d (.k .a)))) .a ?_
    refine RZ (NT (CT ?_))
    refine wpc_ent (ent_copy 1 (ro (some ⟨(p j).1, 0, none⟩) (u8s (newL j))) rfl (fun h => h) (view_in hmem view_row)) ?_
    refine wpc_draw (by kernel_rfl) [ro (some ⟨(p j).fst, 0, none⟩) (u8s (newL j)), ro (some ⟨g2, 0, none⟩) (rc (repR 0 p) (.slice ta 3 tc))] (sub_of [0, 1] (by kernel_rfl)) 13 (by kernel_rfl) ?_
    refine wpa_take true [(0, []), (1, []), (2, []), (3, []), (4, []), (5, []), (6, []), (7, []), (8, [])] ([(110, .pointer (some ⟨g2, 0 + UInt8.toNat s[i] * 1, none⟩)), (105, .slice (some ⟨gb, sOff 0 (↑(List.length E) : Int) (↑N : Int) 1, none⟩) (Int.toNat ((↑N : Int) - (↑(List.length E) : Int))) (Int.toNat ((↑N : Int) - (↑(List.length E) : Int)))), (102, .int .i64 (↑(List.length E) : Int)), (14, .int .i64 (↑i : Int)), (13, .int .i64 (↑(List.length E) : Int)), (12, .slice (some ⟨gb, 0, none⟩) N N), (4, .string ⟨#[]⟩), (0, .pointer (some ⟨g2, 0, none⟩)), (1, .string (mkS s))]) (#[true, true, true, true, true, true, true, true, true, false, false, false, false]) [(0 : Int) ≤ (↑E.length : Int) ∧ (↑E.length : Int) ≤ (↑N : Int), (0 : Int) ≤ (↑s[i].toNat : Int) ∧ (↑s[i].toNat : Int) < (↑(256 : Nat) : Int)] (n := 4) (by kernel_rfl) (by kernel_rfl) (by kernel_rfl) ⟨by omega, by omega, trivial⟩ ?_
    refine wpa_qld (i := 9) (n := 3) (by kernel_rfl) (by kernel_rfl) (by kernel_rfl) (t := 39) (a := (⟨g2, 0 + s[i].toNat * 1, none⟩)) (dst := some 111) (by kernel_rfl) false 1 (by kernel_rfl) (by simp) [sl2 (p j)] rfl (fun w h => ld_roL h 1 rfl (s[i].toNat * 1) ((hat _ _ _ hc256).trans (by rw [hR]))) ?_
    have hnl : (newL j).length = 2 := by rw [hnew]; exact hB
    refine wpa_ent (ent_set 105 (.slice (some ⟨gb, sOff 0 (↑(List.length E) : Int) (↑N : Int) 1, none⟩) (Int.toNat ((↑N : Int) - (↑(List.length E) : Int))) (Int.toNat ((↑N : Int) - (↑(List.length E) : Int)))) (.slice (some ⟨gb, 0 + E.length, none⟩) (N - E.length) (N - E.length)) (by kernel_rfl) (by
              unfold sOff
              rw [if_neg (by omega)]
              congr 1 <;> (try omega)
              simp)) ?_
    refine wpa_eq (i := 10) (n := 2) (by kernel_rfl) (step_copy (g := gb) (off := 0) (q := E.length) (dl := N - E.length) (dc := N - E.length) (x := .slice (some ⟨(p j).1, 0, none⟩) 2 (p j).2) (t := 39) (dst := some 112) (by kernel_rfl) (e := 5) (sz := 1) (by kernel_rfl) 3 (T := 5) (n := N) (cap := N) (xs := u8s E ++ ys) (by kernel_rfl) (m := 2) (news := u8s (newL j)) (fun w h => src_ro h 0 rfl (by rw [u8s_len, hnl]) (fun e => by cases e)) (by omega) (by rw [List.length_append, u8s_len]; omega) (xs' := u8s (E ++ escB s[i]) ++ ys.drop 2) (by
     rw [u8s_len, hnl, ← hnew]
     rw [List.take_left' (u8s_len E), ← List.drop_drop, List.drop_left' (u8s_len E)]
     simp [u8s])) (sub_of [0, 1] (by kernel_rfl)) ?_
    refine wpa_take true [(11, []), (12, [])] ([(13, .int .i64 ((↑E.length : Int) + 2)), (14, .int .i64 (↑i : Int)), (12, .slice (some ⟨gb, 0, none⟩) N N), (4, .string ⟨#[]⟩), (0, .pointer (some ⟨g2, 0, none⟩)), (1, .string (mkS s))]) (#[true, true, true, true, true, true, true, true, true, true, true, true, true]) ([inI64 ((↑E.length : Int) + (2 : Int))]) (n := 0) (by kernel_rfl) (by kernel_rfl) (by kernel_rfl) ⟨by unfold inI64; omega, trivial⟩ ?_
    refine wpa_done 0 (by kernel_rfl) ?_
    refine BN (NT (RG ?_))
    refine RV true [] .z (.i 14 (.int .i64 ((↑i : Int) + 1)) (.k (.d (.k .a)))) .a ([inI64 ((↑i : Int) + (1 : Int))]) ⟨by unfold inI64; omega, trivial⟩ ?_
    refine RZ ?_
    rw [← hE1]
    have hE3 : (escL (s.take (i + 1))).length = E.length + 2 := by rw [hE1, List.length_append, hB]
    refine nx_ent (ent_set 13 (.int .i64 ((↑E.length : Int) + 2)) (Value.int .i64 ((escL (s.take (i + 1))).length : Int)) (by kernel_rfl) (by rw [hE3]; rfl)) ?_
    exact fun a' w' hS' => ⟨⟨(i + 1, ys.drop 2), hlt, by rw [List.length_drop, hE3]; omega⟩, by dsimp only; omega, ent_fr (by kernel_rfl) _ _ (ent_hp [1, 1, 1] rfl _ _ hS')⟩
  ·obtain rfl : i = s.length := by omega
   rw [List.take_length] at hys ⊢
   obtain rfl : ys = [] := List.eq_nil_of_length_eq_zero (by omega)
   rw [List.append_nil]
   refine SQ (SQ (RG ?_))
   refine RR [] .z (.i 89 (.bool (decide ((↑s.length : Int) < (↑s.length : Int)))) .a) .a ?_
   refine RZ (NT ?_)
   refine SC 89 (decide ((↑s.length : Int) < (↑s.length : Int))) false (by simp) ?_
   refine CF (EX (TE (TE (BH (NT (SQ (RG ?_)))))))
   refine RR [] (.d .a) (.i 120 (.slice (some ⟨gb, 0, none⟩) N N) (.d (.d (.d (.d (.d (.k .z))))))) .a ?_
   refine wpr_ent (ent_set 120 (.slice (some ⟨gb, 0, none⟩) N N) (.slice (some ⟨gb, 0, none⟩) (escL s).length N) (by kernel_rfl) (by rw [hNl])) ?_
   refine wpr_eq (b2s (a := 39) (b := 9) (ad := (some ⟨gb, 0, none⟩)) (n := ((escL s).length)) (c := N) (dst := some 121) (by kernel_rfl) (by kernel_rfl) (escL s) (by first | rfl | simp) (fun w h => b2s_row h 2 rfl)) ?_
   refine RR [] .z (.i 4 (.string (mkS (escL s))) .z) .a ?_
   refine RZ (NT (RE ?_))
   refine NE [] .z .a [] (.string (mkS (escL s))) ?_
   exact ⟨rfl, rfl⟩
end Go.Proofs.YtgcfomhlgipllaaGreatDoor
namespace Go.Proofs.YtgcfomhlgipllaaGreatDoor
open Go Go.Sx
def okB (c : UInt8) : Bool := plB c.toNat
theorem okB_lt {c : UInt8} (h : okB c = true) : c.toNat < 128 := by
 unfold okB plB at h
 simp only [Bool.or_eq_true, beq_iff_eq, Bool.and_eq_true, decide_eq_true_eq] at h
 omega
theorem dec_ok {l : List UInt8} {pos : Nat} (hp : pos < l.length) (h : okB l[pos] = true) : Utf8.decode (mkS l) pos = (l[pos].toNat, 1) := decode_ascii (mkS l) pos hp (okB_lt h)
theorem dec_bad {l : List UInt8} {pos : Nat} (hp : pos < l.length) (h : okB l[pos] = false) : plB ((Utf8.decode (mkS l) pos).1 : Int) = false := by
 by_cases ha : l[pos].toNat < 128
 ·rw [decode_ascii (mkS l) pos hp ha]; exact h
 ·have h2 := (decode_high (mkS l) pos hp (by show 128 ≤ l[pos].toNat; omega)).1
  unfold plB
  simp only [Bool.or_eq_false_iff, beq_eq_false_iff_ne, ne_eq, Bool.and_eq_false_iff, decide_eq_false_iff_not]
  omega
theorem indexFunc_spec (l : List UInt8) (hl : l.length ≤ 1048576) : Does Tryz.prog 197 [.string (mkS l), .func (.func 175) #[] #[], .bool true] [] (fun v hp' => ∃ n : Int, v = .int .i64 n ∧ (0 ≤ n ↔ l.all okB = false) ∧ hp' = []) := by
 refine fn_enter Tryz.func197 rfl 21 rfl fun w0 h0 => ?_
 refine SQ (RG ?_)
 refine RR [] .z (.i 6 (.int .i64 0) .a) .a ?_
 refine RZ (NT (SQ (SQ (RG ?_))))
 refine RR [] (.d .a) (.i 9 (.string (mkS l)) (.k (.d (.k .a)))) .a ?_
 refine wpr_step (step_rng (l := l) (dst := some 10) (by kernel_rfl)) ?_
 rintro _ ⟨g, rfl⟩
 refine RZ (NT (BK ?_))
 refine wpc_loop (X := {pos : Nat // ∃ h : pos ≤ l.length, ∀ j, (hj : j < pos) → okB (l[j]'(by omega)) = true}) (fun x => St.mk [(10, .pointer (some ⟨g, 0, none⟩)), (1, .func (.func 175) #[] #[]), (2, .bool true)] [itS g l x.1]) (fun x => l.length - x.1) ⟨0, Nat.zero_le _, fun j h => absurd h (Nat.not_lt_zero _)⟩ (ent_fr (by kernel_rfl)) ?_
 rintro ⟨pos, hp, hall⟩
 dsimp only at hp hall ⊢
 by_cases hlt : pos < l.length
 ·refine SQ (RG ?_)
  refine wpr_eq (step_nxt (g := g) (l := l) (pos := pos) (dst := some 11) (by kernel_rfl) 0 rfl hlt) ?_
  refine RR [] .z (.i 12 (.bool true) .a) .a ?_
  refine RZ (NT (SQ (CT (SK (NT (BK (SQ (RG ?_))))))))
  refine RR [] .z (.i 8 (.int .i32 (↑(Utf8.decode (mkS l) pos).fst : Int)) (.i 7 (.int .i64 (↑pos : Int)) (.d (.d (.k .a))))) .a ?_
  refine RZ (NT (SQ (RG ?_)))
  refine RR [] (.d (.d .a)) (.i 16 (.int .i32 (↑(Utf8.decode (mkS l) pos).fst : Int)) (.i 15 (Value.func (Fn.func 175) #[] #[]) (.d (.k .a)))) .a ?_
  refine wpr_callv (dst := some 17) (rest := ([itS g l (pos + (Utf8.decode (mkS l) pos).snd)])) (first := (#[])) (caps := (#[])) (args := [.int .i32 (↑(Utf8.decode (mkS l) pos).fst : Int)]) (f := 175) (by kernel_rfl) (by kernel_rfl) (bad_spec ((Utf8.decode (mkS l) pos).1 : Int)) (give [] (by kernel_rfl)) ?_
  rintro v _ ⟨rfl, rfl⟩
  cases hok : okB l[pos] with
  | true =>
   have hd := dec_ok hlt hok
   have hpl : plB ((Utf8.decode (mkS l) pos).1 : Int) = true := by rw [hd]; exact hok
   rw [hpl, hd]
   refine RR [] .z (.i 19 (.bool false) (.d (.d (.d (.k .a))))) .a ?_
   refine RZ (NT (CF (SK (BN ?_))))
   exact fun a' w' hS' => ⟨⟨pos + 1, hlt, fun j hj => by
       rcases Nat.lt_or_ge j pos with h | h
       ·exact hall j h
       ·obtain rfl : j = pos := by omega
        exact hok⟩, by dsimp only; omega, ent_fr (by kernel_rfl) _ _ (ent_hp [0] rfl _ _ hS')⟩
  | false =>
   rw [dec_bad hlt hok]
   refine RR [] .z (.i 19 (.bool true) (.d (.d (.d (.k .a))))) .a ?_
   refine RZ (NT (CT (SQ (RG ?_))))
   refine RR [] .z (.i 6 (.int .i64 (↑pos : Int)) (.d (.d (.k .a)))) .a ?_
   refine RZ (NT (RE (BR (TR (BR (TR ?_))))))
   refine NE [] .z .a [] (.int .i64 (↑pos : Int)) ?_
   refine ⟨_, rfl, ⟨fun _ => ?_, fun _ => by omega⟩, rfl⟩
   cases h : l.all okB with
   | false => rfl
   | true =>
    have h2 := List.all_eq_true.1 h l[pos] (List.getElem_mem hlt)
    rw [hok] at h2; cases h2
 ·refine SQ (RG ?_)
  refine wpr_eq (step_nxt_end (g := g) (l := l) (pos := pos) (dst := some 11) (by kernel_rfl) 0 rfl (by omega)) ?_
  refine RR [] .z (.i 12 (.bool false) .a) .a ?_
  refine RZ (NT (SQ (CF (EX (TE (TE (BH (NT (SQ (RG ?_))))))))))
  refine RR [] .z (.i 6 (.int .i64 (-1)) .z) .a ?_
  refine RZ (NT (RE ?_))
  refine NE [] .z .a [] (.int .i64 (-1)) ?_
  refine ⟨-1, rfl, ⟨fun h => absurd h (by decide), fun h => ?_⟩, rfl⟩
  have : l.all okB = true := List.all_eq_true.2 fun x hx => by
   obtain ⟨j, hj⟩ := List.getElem?_of_mem hx
   obtain ⟨hj1, rfl⟩ := List.getElem?_eq_some_iff.1 hj
   exact hall j (by omega)
  rw [this] at h; cases h
theorem IndexFunc_spec (l : List UInt8) (hl : l.length ≤ 1048576) : Does Tryz.prog 176 [.string (mkS l), .func (.func 175) #[] #[]] [] (fun v hp' => ∃ n : Int, v = .int .i64 n ∧ (0 ≤ n ↔ l.all okB = false) ∧ hp' = []) := by
 refine fn_enter Tryz.func176 rfl 8 rfl fun w0 h0 => ?_
 refine SQ (RG ?_)
 refine RR [] .z (.i 4 (.int .i64 0) .a) .a ?_
 refine RZ (NT (SQ (RG ?_)))
 refine RR [] (.d (.d .a)) (.i 6 (Value.func (Fn.func 175) #[] #[]) (.i 5 (.string (mkS l)) (.k .z))) .a ?_
 refine RCA (dst := some 7) (indexFunc_spec l hl) ?_
 rintro v _ ⟨n, rfl, hn, rfl⟩
 refine RR [] .z (.i 4 (.int .i64 n) .z) .a ?_
 refine RZ (NT (RE ?_))
 refine NE [] .a .a [] (.int .i64 n) ?_
 exact ⟨n, rfl, hn, rfl⟩
theorem Replace_spec (g : Nat) (a : Option Addr) (c : Nat) (s : List UInt8) (hl : s.length ≤ 255) : Does Tryz.prog 178 [.pointer (some ⟨g, 0, none⟩), .string (mkS s)] [.blk g 286 [.int .u32 0, .int .i32 0, .int .u32 0, .nilIface, .slice a 6 c], row 9 1 a 6 c (pairsL.map strV)] (fun v hp' => v = .string (mkS (escL s)) ∧ hp' = []) := by
 refine fn_enter Tryz.func178 rfl 17 rfl fun w0 h0 => ?_
 refine SQ (RG ?_)
 refine RR [] .z (.i 4 (.string ⟨#[]⟩) .a) .a ?_
 refine RZ (NT (SQ (RG ?_)))
 refine RR [] (.d (.d (.d (.d (.d .a))))) (.i 9 (Value.func (Fn.func 199) #[.pointer (some ⟨g, 0, none⟩)] #[]) (.i 7 (.pointer (some ⟨g, 0, none⟩)) .a)) .a ?_
 refine RCA (dst := some 10) (Do_spec g a c) ?_
 rintro v _ ⟨g2, p, ta, tc, rfl, rfl⟩
 unfold repH
 obtain ⟨rc, hlen, hat, hT, hrc⟩ : ∃ rc : (Nat → Value) → Value → List Value, (∀ R t, (rc R t).length = 257) ∧ (∀ R t q, q < 256 → ((rc R t).drop (q * 1)).take 1 = [R q]) ∧ (∀ R t, ((rc R t).drop 256).take 1 = [t]) ∧ rc = repC := ⟨repC, repC_len, fun R t q h => repC_at h, fun R t => repC_t, rfl⟩
 rw [← hrc]
 refine RZ (NT (SQ (RG ?_)))
 refine RR [0] (.d (.d (.d (.d (.d .a))))) (.i 15 (.string (mkS s)) (.i 14 (Value.iface 313 (.pointer (some ⟨g2, 0, none⟩))) (.d (.d (.d (.k .z)))))) .a ?_
 refine wpr_ent (ent_turn 1 (ro ta (toRep 0)) rfl (turn_view view_row) rfl) ?_
 refine wpr_ent (ent_turn 2 (ro (some ⟨g2, 0, none⟩) (rc (repR 0 p) (.slice ta 3 tc))) rfl (turn_view view_row) rfl) ?_
 refine wpr_ent (ent_turn 3 (bag (repRows 0 p)) rfl (turn_view view_bag) rfl) ?_
 refine RCG (dst := some 16) .a (bsrReplace_spec g2 p ta tc s hl rc hlen hat hT) (GV (GV (GV (GI []) 3 view_self) 1 view_ro) 2 view_ro) ?_
 rintro v _ ⟨rfl, rfl⟩
 refine RR [] .z (.i 4 (.string (mkS (escL s))) .z) .a ?_
 refine RZ (NT (RE ?_))
 refine NE [] .z .a [] (.string (mkS (escL s))) ?_
 exact ⟨rfl, rfl⟩
def plainB (s : List UInt8) : Bool := decide (s.length ≤ 255) && s.all okB
def quoL (s : List UInt8) : List UInt8 := [34] ++ escL s ++ [34]
theorem quote_spec (s : List UInt8) (hl : s.length ≤ 1048576) : Does Tryz.prog 138 [.string (mkS s)] [] (fun v hp' => v = .tuple #[.string (mkS (if plainB s then quoL s else [])), .bool (plainB s)] ∧ hp' = []) := by
 unfold plainB
 have hEl := escL_len s
 have hsl : spN s ≤ s.length := List.countP_le_length
 by_cases h255 : s.length ≤ 255
 ·rw [decide_eq_true h255, Bool.true_and]
  refine fn_enter Tryz.func138 rfl 20 rfl fun w0 h0 => ?_
  refine SQ (RG ?_)
  refine RR [] .z (.i 3 (.bool false) (.i 2 (.string ⟨#[]⟩) .a)) .a ?_
  refine RZ (NT (SQ (RG ?_)))
  refine RR [] .z (.i 4 (Value.func (Fn.func 175) #[] #[]) .a) .a ?_
  refine RZ (NT (SQ (SQ (RG ?_))))
  refine RR [] (.d (.d (.d (.d .a)))) (.i 8 (.bool (decide ((↑s.length : Int) > (255 : Int)))) .a) .a ?_
  refine SR 8 (decide ((↑s.length : Int) > (255 : Int))) false (decide_eq_false (by omega)) ?_
  refine RR [] (.d (.d .a)) (.i 10 (Value.func (Fn.func 175) #[] #[]) (.i 9 (.string (mkS s)) (.k (.d (.d (.k .a)))))) .a ?_
  refine RCA (dst := some 11) (IndexFunc_spec s hl) ?_
  rintro v _ ⟨n, rfl, hn, rfl⟩
  cases hall : s.all okB with
  | false =>
   have hn0 : 0 ≤ n := hn.2 hall
   refine RR [] .z (.i 13 (.bool (decide (n ≥ (0 : Int)))) (.d (.d (.d (.d (.k .a)))))) .a ?_
   refine RZ (NT ?_)
   refine SC 13 (decide (n ≥ (0 : Int))) true (decide_eq_true (by omega)) ?_
   refine CT (SQ (RG ?_))
   refine RR [] .z (.d (.d (.k .a))) .a ?_
   refine RZ (NT (RE (TR ?_)))
   refine NE [] .a .a [] (.tuple #[.string ⟨#[]⟩, .bool false]) ?_
   exact ⟨rfl, rfl⟩
  | true =>
   have hn0 : ¬ 0 ≤ n := fun h => by have := hn.1 h; rw [hall] at this; cases this
   refine RR [] .z (.i 13 (.bool (decide (n ≥ (0 : Int)))) (.d (.d (.d (.d (.k .a)))))) .a ?_
   refine RZ (NT ?_)
   refine SC 13 (decide (n ≥ (0 : Int))) false (decide_eq_false (by omega)) ?_
   refine CF (SK (NT (SQ (RG ?_))))
   refine RN [] (.d .a) 14 (fun g1 => (.slice (some ⟨g1, 0, none⟩) 6 6)) (.d (.d (.k .a))) .a 9 [.string { data := #[92] }, .string { data := #[92, 92] }, .string { data := #[34] }, .string { data := #[92, 34] }, .string { data := #[10] }, .string { data := #[92, 110] }] fun g1 => ?_
   refine wpr_ent (ent_turn (c := .blk g1 9 (pairsL.map strV)) 0 (ro (some ⟨g1, 0, none⟩) (pairsL.map strV)) (by kernel_rfl) (turn_rblk (by intro u hu; obtain ⟨x, _, rfl⟩ := List.mem_map.1 hu; rfl)) rfl) ?_
   refine RCG (dst := some 15) .a (NewReplacer_spec g1) (GV (GI []) 0 view_ro) ?_
   rintro v _ ⟨g, a, c, rfl, rfl⟩
   refine RR [] (.d .a) (.i 16 (.string (mkS s)) (.k (.d (.k (.k .z))))) .a ?_
   refine RC (dst := some 17) [0, 0] (.d (.d (.k .a))) (Replace_spec g a c s h255) ?_
   rintro v _ ⟨rfl, rfl⟩
   have hEl2 : (escL s).length ≤ 510 := by omega
   have hs34 : (ByteArray.mk #[34]).size = 1 := rfl
   have hs35 : (([34] : List UInt8) ++ escL s).length = (escL s).length + 1 := by simp
   have hs36 : (mkS (([34] : List UInt8) ++ escL s)).size = (escL s).length + 1 := by rw [mkS_size]; exact hs35
   refine RV true [] .z (.i 3 (.bool true) (.i 2 (.string (mkS ([34] ++ escL s ++ [34]))) .z)) .a ([(ByteArray.mk #[(34 : UInt8)]).size + (escL s).length ≤ (9223372036854775807 : Nat), ([(34 : UInt8)] ++ escL s).length + (ByteArray.mk #[(34 : UInt8)]).size ≤ (9223372036854775807 : Nat)]) ⟨by omega, by omega, trivial⟩ ?_
   refine RZ (NT (RE ?_))
   refine NE [] .z .a [] (.tuple #[.string (mkS ([34] ++ escL s ++ [34])), .bool true]) ?_
   exact ⟨rfl, rfl⟩
 ·rw [decide_eq_false h255]
  refine fn_enter Tryz.func138 rfl 20 rfl fun w0 h0 => ?_
  refine SQ (RG ?_)
  refine RR [] .z (.i 3 (.bool false) (.i 2 (.string ⟨#[]⟩) .a)) .a ?_
  refine RZ (NT (SQ (RG ?_)))
  refine RR [] .z (.i 4 (Value.func (Fn.func 175) #[] #[]) .a) .a ?_
  refine RZ (NT (SQ (SQ (RG ?_))))
  refine RR [] (.d (.d (.d (.d .a)))) (.i 8 (.bool (decide ((↑s.length : Int) > (255 : Int)))) .a) .a ?_
  refine SR 8 (decide ((↑s.length : Int) > (255 : Int))) true (decide_eq_true (by omega)) ?_
  refine RR [] .z (.i 13 (.bool true) (.d (.d (.d (.k .a))))) .a ?_
  refine RZ (NT (CT (SQ (RG ?_))))
  refine RR [] .z (.d (.k .a)) .a ?_
  refine RZ (NT (RE (TR ?_)))
  refine NE [] .a .a [] (.tuple #[.string ⟨#[]⟩, .bool false]) ?_
  exact ⟨rfl, rfl⟩
def tokV (k : Int) (s : List UInt8) : Value := .agg #[.int .i64 k, .string (mkS s), .int .i64 0, .int .i64 0, .int .i64 0]
theorem TextStr_spec (s : List UInt8) (hl : s.length ≤ 1048576) : Does Tryz.prog 86 [tokV 3 s] [] (fun v hp' => v = .tuple #[.string (mkS (if plainB s then quoL s else [])), .int .i64 (if plainB s then 0 else 2)] ∧ hp' = []) := by
 unfold tokV
 refine fn_enter Tryz.func86 rfl 80 rfl fun w0 h0 => ?_
 refine SQ (RG ?_)
 refine RP [] (.d .a) 1 .z .a 162 [.int .i64 3, .string (mkS s), .int .i64 0, .int .i64 0, .int .i64 0] fun g1 => ?_
 refine RR [] .z (.i 3 (.int .i64 0) (.i 2 (.string ⟨#[]⟩) .a)) .a ?_
 refine RZ (NT (SQ (RG ?_)))
 refine RR [0] .z (.i 5 (.bool false) (.i 4 (.string (mkS s)) .a)) .a ?_
 refine RZ (NT (SQ (SQ (RG ?_))))
 refine RR [0] .z (.i 9 (.int .i64 3) .a) .a ?_
 refine RZ (NT (BK (SQ (RG ?_))))
 refine RR [] .z (.i 10 (.bool false) .a) .a ?_
 refine RZ (NT (CF (SQ (RG ?_))))
 refine RR [] .z (.i 19 (.bool false) (.d (.k .a))) .a ?_
 refine RZ (NT (CF (SQ (RG ?_))))
 refine RR [] .z (.i 28 (.bool false) (.d (.k .a))) .a ?_
 refine RZ (NT (CF (SQ (RG ?_))))
 refine RR [] .z (.i 43 (.bool false) (.d (.k .a))) .a ?_
 refine RZ (NT (CF (SQ (RG ?_))))
 refine RR [] .z (.i 52 (.bool false) (.d (.k .a))) .a ?_
 refine RZ (NT (CF (SQ (RG ?_))))
 refine RR [] .z (.i 64 (.bool true) (.d (.d (.k .a)))) .a ?_
 refine RZ (NT (CT (SQ (RG ?_))))
 refine RR [] (.d .a) (.i 67 (.string (mkS s)) (.d (.k .a))) .a ?_
 refine RC (dst := some 68) [] .a (quote_spec s hl) ?_
 rintro v _ ⟨rfl, rfl⟩
 cases hp : plainB s with
 | true =>
  refine RR [] .z (.i 5 (.bool true) (.i 4 (.string (mkS (if true = true then quoL s else []))) (.d (.d (.d (.d (.k .a))))))) .a ?_
  refine RZ (NT (RG ?_))
  refine RR [0] .z (.k (.k (.k (.k .z)))) .a ?_
  refine RZ (BN (NT (SQ (SQ (RG ?_)))))
  refine RR [] .z (.i 78 (.bool false) (.d (.k .a))) .a ?_
  refine RZ (NT (CF (SK (NT (SQ (RG ?_))))))
  refine RR [] .z (.d (.d (.k (.i 2 (.string (mkS (if true = true then quoL s else []))) .z)))) .a ?_
  refine RZ (NT (RE ?_))
  refine NE [] .z .a [] (.tuple #[.string (mkS (if true = true then quoL s else [])), .int .i64 0]) ?_
  exact ⟨rfl, rfl⟩
 | false =>
  refine RR [] .z (.d (.d (.k (.i 4 (.string (mkS (if false = true then quoL s else []))) (.d (.k .a)))))) .a ?_
  refine RZ (NT (RG ?_))
  refine RR [] .z (.k (.k (.k (.k .z)))) .a ?_
  refine RZ (BN (NT (SQ (SQ (RG ?_)))))
  refine RR [] .z (.i 78 (.bool true) (.d (.k .a))) .a ?_
  refine RZ (NT (CT (SQ (RG ?_))))
  refine RR [] .z (.i 3 (.int .i64 2) (.i 2 (.string ⟨#[]⟩) (.d (.k .z)))) .a ?_
  refine RZ (NT (RE (TR ?_)))
  refine NE [] .z .a [] (.tuple #[.string ⟨#[]⟩, .int .i64 2]) ?_
  exact ⟨rfl, rfl⟩
theorem TextName_spec (s : List UInt8) (hl : s.length ≤ 1048576) : Does Tryz.prog 86 [tokV 1 s] [gWords] (fun v hp' => v = .tuple #[.string (mkS (if nameB s then s else [])), .int .i64 (if nameB s then 0 else 2)] ∧ hp' = []) := by
 unfold tokV
 refine fn_enter Tryz.func86 rfl 80 rfl fun w0 h0 => ?_
 refine SQ (RG ?_)
 refine RP [] (.d .a) 1 .z .a 162 [.int .i64 1, .string (mkS s), .int .i64 0, .int .i64 0, .int .i64 0] fun g1 => ?_
 refine RR [] .z (.i 3 (.int .i64 0) (.i 2 (.string ⟨#[]⟩) .a)) .a ?_
 refine RZ (NT (SQ (RG ?_)))
 refine RR [1] .z (.i 5 (.bool false) (.i 4 (.string (mkS s)) .a)) .a ?_
 refine RZ (NT (SQ (SQ (RG ?_))))
 refine RR [1] .z (.i 9 (.int .i64 1) .a) .a ?_
 refine RZ (NT (BK (SQ (RG ?_))))
 refine RR [] .z (.i 10 (.bool false) .a) .a ?_
 refine RZ (NT (CF (SQ (RG ?_))))
 refine RR [] .z (.i 19 (.bool true) (.d (.k .a))) .a ?_
 refine RZ (NT (CT (RG ?_)))
 refine RR [] (.d .a) (.i 21 (.string (mkS s)) (.d (.d (.k .a)))) .a ?_
 refine RCG (dst := some 22) .a (name_spec s hl) (GV (GI []) 0 view_ro) ?_
 rintro v _ ⟨rfl, rfl⟩
 cases hp : nameB s with
 | true =>
  refine RR [1] .z (.i 5 (.bool true) (.d (.d (.d (.k (.k (.k .z))))))) .a ?_
  refine RZ (BN (NT (SQ (SQ (RG ?_)))))
  refine RR [] .z (.i 78 (.bool false) (.d (.k .a))) .a ?_
  refine RZ (NT (CF (SK (NT (SQ (RG ?_))))))
  refine RR [] .z (.d (.d (.k (.i 2 (.string (mkS s)) .z)))) .a ?_
  refine RZ (NT (RE ?_))
  refine NE [] .z .a [] (.tuple #[.string (mkS s), .int .i64 0]) ?_
  exact ⟨rfl, rfl⟩
 | false =>
  refine RR [] .z (.d (.d (.k (.k (.k (.k .z)))))) .a ?_
  refine RZ (BN (NT (SQ (SQ (RG ?_)))))
  refine RR [] .z (.i 78 (.bool true) (.d (.k .a))) .a ?_
  refine RZ (NT (CT (SQ (RG ?_))))
  refine RR [] .z (.i 3 (.int .i64 2) (.i 2 (.string ⟨#[]⟩) (.d (.k .z)))) .a ?_
  refine RZ (NT (RE (TR ?_)))
  refine NE [] .z .a [] (.tuple #[.string ⟨#[]⟩, .int .i64 2]) ?_
  exact ⟨rfl, rfl⟩
end Go.Proofs.YtgcfomhlgipllaaGreatDoor
namespace Go.Proofs.YtgcfomhlgipllaaGreatDoor
open Go Go.Sx
/-! A code, plain: its parts, its bytes, which are right. -/
abbrev Tx := List UInt8
structure VarP where
 name : Tx
 slot : Int
 fr : Int
 to : Int
abbrev InP := Int × Int
structure UnitP where
 name : Tx
 params : Int
 slots : Int
 stack : Int
 result : Bool
 ins : List InP
 vars : List VarP
abbrev ShP := Tx × List Tx
structure CodeP where
 strs : List Tx
 shapes : List ShP
 units : List UnitP
 main : Int
/-! ### bytes -/
def rBo (s : List UInt8) (p : At2) : Bool × At2 := rd false p.1 p.2 (bol (s.drop p.1))
theorem goes_rBo (s : List UInt8) : Goes s (rBo s) := fun p hp => goes_rd false s p _ hp (by
 rcases bol_ok (s.drop p.1) with h | h
 ·exact .inl h
 ·exact .inr h.2.2)
theorem bol_form {s : List UInt8} {b : Bool} {u : Int} (h : bol s = (b, u, 0)) : u = 1 ∧ s.take 1 = encB b := by
 unfold bol at h
 split at h
 ·cases h
 ·rename_i c t
  split at h
  ·cases h
  ·rename_i h1
   simp only [Prod.mk.injEq, and_true] at h
   refine ⟨h.2.symm, ?_⟩
   have hc : c = 0 ∨ c = 1 := by
    have : c.toNat = 0 ∨ c.toNat = 1 := by omega
    rcases this with h | h
    ·exact .inl (UInt8.toNat_inj.1 h)
    ·exact .inr (UInt8.toNat_inj.1 h)
   rw [← h.1]
   rcases hc with rfl | rfl <;> rfl
theorem codec_rBo : Codec rBo encB (fun _ => True) where
 stick := fun s p h => by unfold rBo; rw [rd_nz _ _ _ _ h]
 goes := goes_rBo
 back := fun s a x rest _ h => by
  show rd false a 0 (bol (s.drop a)) = _
  rw [h, bol_encB, rd_ok _ _ _ rfl]
  rfl
 form := fun s a ha h => by
  have h' : (rd false a 0 (bol (s.drop a))).2.2 = 0 := h
  show s.drop a = encB (rd false a 0 (bol (s.drop a))).1 ++ s.drop (rd false a 0 (bol (s.drop a))).2.1
  obtain ⟨n, u, e, hn⟩ : ∃ n u e, bol (s.drop a) = (n, u, e) := ⟨_, _, _, rfl⟩
  rw [hn] at h' ⊢
  by_cases he : e ≠ 0
  ·rw [rd_bad _ _ _ he] at h'; exact absurd h' he
  ·have he := Classical.not_not.1 he
   subst he
   obtain ⟨f1, f2⟩ := bol_form hn
   rw [rd_ok _ _ _ rfl]
   dsimp only
   rw [f1]
   exact take_form (t := encB n) f2
 cut := fun s a x m _ h hm => by
  show (rd false a 0 (bol (s.drop a))).2.2 = 3
  have h1 : m = 0 := by have : (encB x).length = 1 := rfl; omega
  rw [h, h1, List.take_zero, show bol [] = (false, 0, 3) from rfl, rd_bad _ _ _ (by decide)]
def rTx (s : List UInt8) (p : At2) : Tx × At2 := rT s 255 p
def encTs (l : List Tx) : List UInt8 := encR encT l
def rTs (s : List UInt8) (p : At2) : List Tx × At2 := rRows s (rTx s) p
def okTx (t : Tx) : Prop := t.length ≤ 255
theorem codec_rTx : Codec rTx encT okTx := (codec_rT 255).map (fun x => x) (fun x => x) (fun _ => rfl) (fun _ => rfl) (fun _ _ => rfl) (fun _ => rfl) (fun y h => ⟨by unfold okTx at h; omega, by unfold okTx at h; omega⟩)
theorem codec_rTs : Codec rTs encTs (okR okTx) := codec_rTx.rows
def encSh (x : ShP) : List UInt8 := encT x.1 ++ encTs x.2
def rSh : List UInt8 → At2 → ShP × At2 := sq rTx rTs
theorem codec_rSh : Codec rSh encSh (fun x => okTx x.1 ∧ okR okTx x.2) := codec_rTx.sq codec_rTs
def encIn (x : InP) : List UInt8 := encI x.1 ++ encI x.2
def rIn : List UInt8 → At2 → InP × At2 := sq rI rI
theorem codec_rIn : Codec rIn encIn (fun x => i64r x.1 ∧ i64r x.2) := codec_rI.sq codec_rI
def encVr (v : VarP) : List UInt8 := encT v.name ++ encI v.slot ++ encI v.fr ++ encI v.to
def rVr (s : List UInt8) (p : At2) : VarP × At2 :=
 let a := rTx s p
 let b := rI s a.2
 let c := rI s b.2
 let d := rI s c.2
 (⟨a.1, b.1, c.1, d.1⟩, d.2)
def nVr (v : VarP) : Prop := okTx v.name ∧ i64r v.slot ∧ i64r v.fr ∧ i64r v.to
theorem codec_rVr : Codec rVr encVr nVr :=
 (codec_rTx.sq (codec_rI.sq (codec_rI.sq codec_rI))).map (fun x => (⟨x.1, x.2.1, x.2.2.1, x.2.2.2⟩ : VarP)) (fun v => (v.name, v.slot, v.fr, v.to)) (fun _ => rfl) (fun _ => rfl) (fun _ _ => rfl) (fun y => by unfold encVr; simp only [List.append_assoc]) (fun _ h => h)
def encU (u : UnitP) : List UInt8 := encT u.name ++ encI u.params ++ encI u.slots ++ encI u.stack ++ encB u.result ++ encR encIn u.ins ++ encR encVr u.vars
def rU (s : List UInt8) (p : At2) : UnitP × At2 :=
 let a := rTx s p
 let b := rI s a.2
 let c := rI s b.2
 let d := rI s c.2
 let e := rBo s d.2
 let f := rRows s (rIn s) e.2
 let g := rRows s (rVr s) f.2
 (⟨a.1, b.1, c.1, d.1, e.1, f.1, g.1⟩, g.2)
def nU (u : UnitP) : Prop := okTx u.name ∧ i64r u.params ∧ i64r u.slots ∧ i64r u.stack ∧ True ∧ okR (fun x => i64r x.1 ∧ i64r x.2) u.ins ∧ okR nVr u.vars
theorem codec_rU : Codec rU encU nU :=
 (codec_rTx.sq (codec_rI.sq (codec_rI.sq (codec_rI.sq (codec_rBo.sq (codec_rIn.rows.sq codec_rVr.rows)))))).map
  (fun x => (⟨x.1, x.2.1, x.2.2.1, x.2.2.2.1, x.2.2.2.2.1, x.2.2.2.2.2.1, x.2.2.2.2.2.2⟩ : UnitP)) (fun u => (u.name, u.params, u.slots, u.stack, u.result, u.ins, u.vars)) (fun _ => rfl) (fun _ => rfl) (fun _ _ => rfl) (fun y => by unfold encU; simp only [List.append_assoc]) (fun _ h => h)
def encCo (c : CodeP) : List UInt8 := encTs c.strs ++ encR encSh c.shapes ++ encR encU c.units ++ encI c.main
def rCo (s : List UInt8) (p : At2) : CodeP × At2 :=
 let a := rTs s p
 let b := rRows s (rSh s) a.2
 let c := rRows s (rU s) b.2
 let d := rI s c.2
 (⟨a.1, b.1, c.1, d.1⟩, d.2)
def nCo (c : CodeP) : Prop := okR okTx c.strs ∧ okR (fun x : ShP => okTx x.1 ∧ okR okTx x.2) c.shapes ∧ okR nU c.units ∧ i64r c.main
theorem codec_rCo : Codec rCo encCo nCo :=
 (codec_rTs.sq (codec_rSh.rows.sq (codec_rU.rows.sq codec_rI))).map
  (fun x => (⟨x.1, x.2.1, x.2.2.1, x.2.2.2⟩ : CodeP)) (fun c => (c.strs, c.shapes, c.units, c.main)) (fun _ => rfl) (fun _ => rfl) (fun _ _ => rfl) (fun y => by unfold encCo; simp only [List.append_assoc]) (fun _ h => h)
/-! ### which are right -/
def uptoB (a n : Int) : Bool := decide (0 ≤ a) && decide (a < n)
def oneI (b : Bool) : Int := cond b 1 0
def namesB (l : List Tx) : Bool := l.all nameB && decide l.Nodup
def fitsB (c : CodeP) (u : UnitP) (x : InP) : Bool :=
 if x.1 = 0 ∨ x.1 = 1 then true
 else if x.1 = 2 then uptoB x.2 2
 else if x.1 = 3 ∨ x.1 = 28 ∨ x.1 = 29 then uptoB x.2 c.strs.length
 else if x.1 = 4 ∨ x.1 = 5 then uptoB x.2 u.slots
 else if x.1 = 20 ∨ x.1 = 21 then uptoB x.2 u.ins.length
 else if x.1 = 22 then uptoB x.2 c.units.length
 else if x.1 = 25 then uptoB x.2 c.shapes.length
 else if x.1 = 23 then decide (x.2 = oneI u.result)
 else if x.1 = 24 ∨ x.1 = 34 then decide (1 ≤ x.2) && decide (x.2 ≤ 256)
 else decide (x.2 = 0) && decide (0 ≤ x.1) && decide (x.1 ≤ 34)
def mvs (c : CodeP) (x : InP) : Int × Int :=
 if x.1 = 0 ∨ x.1 = 20 then (0, 0)
 else if x.1 = 1 ∨ x.1 = 2 ∨ x.1 = 3 ∨ x.1 = 4 ∨ x.1 = 33 then (0, 1)
 else if x.1 = 5 ∨ x.1 = 6 ∨ x.1 = 21 then (1, 0)
 else if x.1 = 12 ∨ x.1 = 13 ∨ x.1 = 28 ∨ x.1 = 30 ∨ x.1 = 31 then (1, 1)
 else if x.1 = 22 then (match c.units[x.2.toNat]? with | some u => (u.params, oneI u.result) | none => (0, 0))
 else if x.1 = 23 ∨ x.1 = 34 then (x.2, 0)
 else if x.1 = 24 then (x.2, 1)
 else if x.1 = 25 then (match c.shapes[x.2.toNat]? with | some s => ((s.2.length : Int), 1) | none => (0, 1))
 else if x.1 = 27 then (3, 0)
 else if x.1 = 29 then (2, 0)
 else (2, 1)
theorem mvs_put (c : CodeP) (x : InP) : 0 ≤ (mvs c x).2 ∧ (mvs c x).2 ≤ 1 := by
 have h1 : ∀ b : Bool, 0 ≤ oneI b ∧ oneI b ≤ 1 := fun b => by cases b <;> exact ⟨by decide, by decide⟩
 unfold mvs
 repeat' split
 all_goals dsimp only
 all_goals first | exact ⟨by decide, by decide⟩ | exact h1 _
def insAt (u : UnitP) (i : Int) : InP := u.ins.getD i.toNat (35, 0)
def leftP (c : CodeP) (x : InP) (h : Int) : Int := h - (mvs c x).1 + (mvs c x).2
def okP (c : CodeP) (u : UnitP) (x : InP) (h : Int) : Bool :=
 decide ((mvs c x).1 ≤ h) && decide (leftP c x h ≤ u.stack) && (!decide (x.1 = 0) || decide (h = 0)) && (!decide (x.1 = 23) || decide (h = x.2))
def nxP (x : InP) (i : Int) : List Int := if x.1 = 20 then [x.2] else if x.1 = 21 then [i + 1, x.2] else if x.1 = 23 then [] else [i + 1]
def gr (c : CodeP) (u : UnitP) : Gr := ⟨u.ins.length, fun i h => okP c u (insAt u i) h, fun i => nxP (insAt u i) i, fun i h => leftP c (insAt u i) h⟩
def varB (u : UnitP) (v : VarP) : Bool := nameB v.name && uptoB v.slot u.slots && decide (0 ≤ v.fr) && decide (v.fr ≤ v.to) && decide (v.to ≤ u.ins.length)
def headU (u : UnitP) : Bool := decide (0 ≤ u.params) && decide (u.params ≤ 8) && decide (u.params ≤ u.slots) && decide (u.slots ≤ 32) && decide (0 ≤ u.stack) && decide (u.stack ≤ 256) && decide (1 ≤ u.ins.length) && decide (u.ins.length ≤ 4096)
def unitB (c : CodeP) (u : UnitP) : Bool := headU u && u.vars.all (varB u) && u.ins.all (fitsB c u)
def shapeB (s : ShP) : Bool := decide (1 ≤ s.2.length) && decide (s.2.length ≤ 8) && namesB s.2
def headC (c : CodeP) : Bool := decide (c.strs.length ≤ 1024) && decide (c.shapes.length ≤ 16) && decide (c.units.length ≤ 32) && uptoB c.main c.units.length
def mainB (c : CodeP) : Bool := match c.units[c.main.toNat]? with | some u => decide (u.params = 0) && !u.result | none => false
def formB (c : CodeP) : Bool := headC c && c.strs.all plainB && c.shapes.all shapeB && namesB (c.shapes.map (·.1)) && namesB (c.units.map (·.name)) && mainB c && c.units.all (unitB c)
noncomputable def rightC (c : CodeP) : Bool := formB c && c.units.all (fun u => fineB (gr c u))
theorem headU_iff (u : UnitP) : headU u = true ↔ 0 ≤ u.params ∧ u.params ≤ 8 ∧ u.params ≤ u.slots ∧ u.slots ≤ 32 ∧ 0 ≤ u.stack ∧ u.stack ≤ 256 ∧ 1 ≤ u.ins.length ∧ u.ins.length ≤ 4096 := by
 unfold headU; simp only [Bool.and_eq_true, decide_eq_true_eq, and_assoc]
theorem headC_iff (c : CodeP) : headC c = true ↔ c.strs.length ≤ 1024 ∧ c.shapes.length ≤ 16 ∧ c.units.length ≤ 32 ∧ 0 ≤ c.main ∧ c.main < c.units.length := by
 unfold headC uptoB; simp only [Bool.and_eq_true, decide_eq_true_eq, and_assoc]
theorem uptoB_iff (a n : Int) : uptoB a n = true ↔ 0 ≤ a ∧ a < n := by unfold uptoB; simp only [Bool.and_eq_true, decide_eq_true_eq]
theorem namesB_iff (l : List Tx) : namesB l = true ↔ (∀ t ∈ l, nameB t = true) ∧ l.Nodup := by unfold namesB; simp only [Bool.and_eq_true, List.all_eq_true, decide_eq_true_eq]
end Go.Proofs.YtgcfomhlgipllaaGreatDoor
namespace Go.Proofs.YtgcfomhlgipllaaGreatDoor
open Go Go.Sx
/-! The names of the ops. -/
def opNames : List Tx := [[109, 97, 114, 107], [105, 110, 116], [98, 111, 111, 108], [115, 116, 114], [108, 111, 97, 100], [115, 116, 111, 114, 101], [112, 111, 112], [97, 100, 100], [115, 117, 98], [109, 117, 108], [100, 105, 118], [114, 101, 109], [110, 101, 103], [110, 111, 116], [101, 113], [110, 101], [108, 116], [108, 101], [103, 116], [103, 101], [106, 117, 109, 112], [117, 110, 108, 101, 115, 115], [99, 97, 108, 108], [114, 101, 116, 117, 114, 110], [97, 114, 114, 97, 121], [110, 101, 119], [105, 110, 100, 101, 120], [115, 101, 116, 105, 110, 100, 101, 120], [102, 105, 101, 108, 100], [115, 101, 116, 102, 105, 101, 108, 100], [108, 101, 110], [115, 104, 111, 119], [102, 105, 108, 108], [105, 110, 112, 117, 116], [112, 114, 105, 110, 116]]
def opName (o : Int) : Tx := if 0 ≤ o ∧ o < 35 then opNames.getD o.toNat [] else []
theorem opNames_inj : ∀ m, m < 35 → ∀ k, k < 35 → opNames.getD m [] = opNames.getD k [] → m = k := by decide +kernel
theorem opNames_ne : ∀ k, k < 35 → opNames.getD k [] ≠ [] := by decide +kernel
theorem opName_out {o : Int} (h : ¬ (0 ≤ o ∧ o < 35)) : opName o = [] := by unfold opName; rw [if_neg h]
theorem opName_in {o : Int} (h : 0 ≤ o ∧ o < 35) : opName o = opNames.getD o.toNat [] := by unfold opName; rw [if_pos h]
theorem op_is (o : Int) (k : Nat) (hk : k < 35) : opName o = opNames.getD k [] ↔ o = (k : Int) := by
 constructor
 ·intro h
  by_cases ho : 0 ≤ o ∧ o < 35
  ·rw [opName_in ho] at h
   have := opNames_inj o.toNat (by omega) k hk h
   omega
  ·rw [opName_out ho] at h
   exact absurd h.symm (opNames_ne k hk)
 ·intro h
  rw [h, opName_in ⟨by omega, by omega⟩, Int.toNat_natCast]
theorem op_none (o : Int) : opName o = [] ↔ ¬ (0 ≤ o ∧ o < 35) := by
 constructor
 ·intro h ho
  rw [opName_in ho] at h
  exact opNames_ne _ (by omega) h
 ·exact opName_out
theorem opName_len (o : Int) : (opName o).length ≤ 8 := by
 by_cases ho : 0 ≤ o ∧ o < 35
 ·rw [opName_in ho]
  have : ∀ k, k < 35 → (opNames.getD k []).length ≤ 8 := by decide +kernel
  exact this _ (by omega)
 ·rw [opName_out ho]; exact Nat.zero_le _
theorem op_mark (o : Int) : opName o = [109, 97, 114, 107] ↔ o = 0 := op_is o 0 (by decide)
theorem op_int (o : Int) : opName o = [105, 110, 116] ↔ o = 1 := op_is o 1 (by decide)
theorem op_bool (o : Int) : opName o = [98, 111, 111, 108] ↔ o = 2 := op_is o 2 (by decide)
theorem op_str (o : Int) : opName o = [115, 116, 114] ↔ o = 3 := op_is o 3 (by decide)
theorem op_load (o : Int) : opName o = [108, 111, 97, 100] ↔ o = 4 := op_is o 4 (by decide)
theorem op_store (o : Int) : opName o = [115, 116, 111, 114, 101] ↔ o = 5 := op_is o 5 (by decide)
theorem op_pop (o : Int) : opName o = [112, 111, 112] ↔ o = 6 := op_is o 6 (by decide)
theorem op_neg (o : Int) : opName o = [110, 101, 103] ↔ o = 12 := op_is o 12 (by decide)
theorem op_not (o : Int) : opName o = [110, 111, 116] ↔ o = 13 := op_is o 13 (by decide)
theorem op_jump (o : Int) : opName o = [106, 117, 109, 112] ↔ o = 20 := op_is o 20 (by decide)
theorem op_unless (o : Int) : opName o = [117, 110, 108, 101, 115, 115] ↔ o = 21 := op_is o 21 (by decide)
theorem op_call (o : Int) : opName o = [99, 97, 108, 108] ↔ o = 22 := op_is o 22 (by decide)
theorem op_return (o : Int) : opName o = [114, 101, 116, 117, 114, 110] ↔ o = 23 := op_is o 23 (by decide)
theorem op_array (o : Int) : opName o = [97, 114, 114, 97, 121] ↔ o = 24 := op_is o 24 (by decide)
theorem op_new (o : Int) : opName o = [110, 101, 119] ↔ o = 25 := op_is o 25 (by decide)
theorem op_setindex (o : Int) : opName o = [115, 101, 116, 105, 110, 100, 101, 120] ↔ o = 27 := op_is o 27 (by decide)
theorem op_field (o : Int) : opName o = [102, 105, 101, 108, 100] ↔ o = 28 := op_is o 28 (by decide)
theorem op_setfield (o : Int) : opName o = [115, 101, 116, 102, 105, 101, 108, 100] ↔ o = 29 := op_is o 29 (by decide)
theorem op_len (o : Int) : opName o = [108, 101, 110] ↔ o = 30 := op_is o 30 (by decide)
theorem op_show (o : Int) : opName o = [115, 104, 111, 119] ↔ o = 31 := op_is o 31 (by decide)
theorem op_input (o : Int) : opName o = [105, 110, 112, 117, 116] ↔ o = 33 := op_is o 33 (by decide)
theorem op_print (o : Int) : opName o = [112, 114, 105, 110, 116] ↔ o = 34 := op_is o 34 (by decide)
end Go.Proofs.YtgcfomhlgipllaaGreatDoor
namespace Go.Proofs.YtgcfomhlgipllaaGreatDoor
open Go Go.Sx
/-! A code as it lies in memory. -/
def strsC (l : List Tx) : List Value := l.map fun t => .string (mkS t)
theorem strsC_len (l : List Tx) : (strsC l).length = l.length := List.length_map ..
theorem strs_at {l : List Tx} {q : Nat} (hq : q < l.length) : ((strsC l).drop (q * 1)).take 1 = [.string (mkS l[q])] := by
 have h : q < (strsC l).length := by rw [strsC_len]; exact hq
 rw [Nat.mul_one, List.drop_eq_getElem_cons h]
 simp [strsC]
theorem strs_one (l : List Tx) : Sx.One (strsC l) := by
 intro u hu
 obtain ⟨t, _, rfl⟩ := List.mem_map.1 hu
 rfl
theorem strs_app (l : List Tx) (t : Tx) : strsC l ++ [.string (mkS t)] = strsC (l ++ [t]) := by simp [strsC]
structure ShV where
 name : Tx
 fa : Option Addr
 fc : Nat
 fields : List Tx
def shC (x : ShV) : List Value := [.string (mkS x.name), .slice x.fa x.fields.length x.fc]
def ShV.p (x : ShV) : ShP := (x.name, x.fields)
theorem shC_len (x : ShV) : (shC x).length = 2 := rfl
theorem shs_len (l : List ShV) : (l.flatMap shC).length = l.length * 2 := fm_len shC_len l
theorem shs_at {l : List ShV} {q : Nat} (hq : q < l.length) : ((l.flatMap shC).drop (q * 2)).take 2 = shC l[q] := fm_at shC_len hq
def shRo (x : ShV) : Ch := ro x.fa (strsC x.fields)
def gSh (l : List ShV) : Ch := bag (l.map shRo)
theorem shRo_in {l : List ShV} {q : Nat} (hq : q < l.length) : ro l[q].fa (strsC l[q].fields) ∈ l.map shRo := List.mem_map.2 ⟨l[q], List.getElem_mem hq, rfl⟩
def insC (x : InP) : List Value := [.int .i64 x.1, .int .i64 x.2]
theorem insC_len (x : InP) : (insC x).length = 2 := rfl
theorem ins_len (l : List InP) : (l.flatMap insC).length = l.length * 2 := fm_len insC_len l
theorem ins_at {l : List InP} {q : Nat} (hq : q < l.length) : ((l.flatMap insC).drop (q * 2)).take 2 = insC l[q] := fm_at insC_len hq
def varC (v : VarP) : List Value := [.string (mkS v.name), .int .i64 v.slot, .int .i64 v.fr, .int .i64 v.to]
theorem varC_len (x : VarP) : (varC x).length = 4 := rfl
theorem vars_len (l : List VarP) : (l.flatMap varC).length = l.length * 4 := fm_len varC_len l
theorem vars_at {l : List VarP} {q : Nat} (hq : q < l.length) : ((l.flatMap varC).drop (q * 4)).take 4 = varC l[q] := fm_at varC_len hq
structure UnV where
 name : Tx
 params : Int
 slots : Int
 stack : Int
 result : Bool
 ia : Option Addr
 ic : Nat
 ins : List InP
 va : Option Addr
 vc : Nat
 vars : List VarP
def unC (x : UnV) : List Value := [.string (mkS x.name), .int .i64 x.params, .int .i64 x.slots, .int .i64 x.stack, .bool x.result, .slice x.ia x.ins.length x.ic, .slice x.va x.vars.length x.vc]
def UnV.p (x : UnV) : UnitP := ⟨x.name, x.params, x.slots, x.stack, x.result, x.ins, x.vars⟩
theorem unC_len (x : UnV) : (unC x).length = 7 := rfl
theorem uns_len (l : List UnV) : (l.flatMap unC).length = l.length * 7 := fm_len unC_len l
theorem uns_at {l : List UnV} {q : Nat} (hq : q < l.length) : ((l.flatMap unC).drop (q * 7)).take 7 = unC l[q] := fm_at unC_len hq
theorem uns_fld {l : List UnV} {q : Nat} (hq : q < l.length) (k m : Nat) (h : k + m ≤ 7) : ((l.flatMap unC).drop (q * 7 + k)).take m = ((unC l[q]).drop k).take m := by
 rw [← List.drop_drop, ← uns_at hq, List.drop_take, List.take_take]
 congr 1; omega
theorem shs_fld {l : List ShV} {q : Nat} (hq : q < l.length) (k m : Nat) (h : k + m ≤ 2) : ((l.flatMap shC).drop (q * 2 + k)).take m = ((shC l[q]).drop k).take m := by
 rw [← List.drop_drop, ← shs_at hq, List.drop_take, List.take_take]
 congr 1; omega
theorem ins_fld {l : List InP} {q : Nat} (hq : q < l.length) (k m : Nat) (h : k + m ≤ 2) : ((l.flatMap insC).drop (q * 2 + k)).take m = ((insC l[q]).drop k).take m := by
 rw [← List.drop_drop, ← ins_at hq, List.drop_take, List.take_take]
 congr 1; omega
def unRo (x : UnV) : Hp := [ro x.ia (x.ins.flatMap insC), ro x.va (x.vars.flatMap varC)]
def gUn (l : List UnV) : Ch := bag (l.flatMap unRo)
theorem unRo_in1 {l : List UnV} {q : Nat} (hq : q < l.length) : ro l[q].ia (l[q].ins.flatMap insC) ∈ l.flatMap unRo := List.mem_flatMap.2 ⟨l[q], List.getElem_mem hq, List.mem_cons_self ..⟩
theorem unRo_in2 {l : List UnV} {q : Nat} (hq : q < l.length) : ro l[q].va (l[q].vars.flatMap varC) ∈ l.flatMap unRo := List.mem_flatMap.2 ⟨l[q], List.getElem_mem hq, by simp [unRo]⟩
structure CoV where
 sa : Option Addr
 sc : Nat
 strs : List Tx
 ha : Option Addr
 hc : Nat
 shapes : List ShV
 ua : Option Addr
 uc : Nat
 units : List UnV
 main : Int
def coC (c : CoV) : List Value := [.slice c.sa c.strs.length c.sc, .slice c.ha c.shapes.length c.hc, .slice c.ua c.units.length c.uc, .int .i64 c.main]
def CoV.p (c : CoV) : CodeP := ⟨c.strs, c.shapes.map ShV.p, c.units.map UnV.p, c.main⟩
def okText (t : Tx) : Prop := t.length ≤ 1048576
def VarP.ok (v : VarP) : Prop := okText v.name ∧ i64r v.slot ∧ i64r v.fr ∧ i64r v.to
def InP.ok (x : InP) : Prop := i64r x.1 ∧ i64r x.2
def ShV.ok (x : ShV) : Prop := okText x.name ∧ x.fields.length ≤ 1048576 ∧ ∀ t ∈ x.fields, okText t
def UnV.ok (x : UnV) : Prop := okText x.name ∧ i64r x.params ∧ i64r x.slots ∧ i64r x.stack ∧ x.ins.length ≤ 1048576 ∧ x.vars.length ≤ 1048576 ∧ (∀ y ∈ x.ins, InP.ok y) ∧ ∀ v ∈ x.vars, v.ok
def CoV.ok (c : CoV) : Prop := c.strs.length ≤ 1048576 ∧ (∀ t ∈ c.strs, okText t) ∧ c.shapes.length ≤ 1048576 ∧ (∀ x ∈ c.shapes, x.ok) ∧ c.units.length ≤ 1048576 ∧ (∀ x ∈ c.units, x.ok) ∧ i64r c.main
theorem insAt_eq {u : UnV} {i : Nat} (h : i < u.ins.length) : insAt u.p (i : Int) = u.ins[i] := by
 unfold insAt UnV.p
 simp [List.getD, h]
end Go.Proofs.YtgcfomhlgipllaaGreatDoor
namespace Go.Sx
open Go
variable {Γ : Cx} {s : St} {Q : Exit → Act → World → Prop}
def mpO {α : Type} (kv : α → Value) (g : Nat) (l : List (α × Value)) : Oq where
 own := fun k => k = g
 rw := True
 holds := fun w => ∃ es clock, w.heap[g]? = some (.map es clock) ∧ es.toList.map (fun e => (e.key, e.val)) = l.map (fun p => (kv p.1, p.2))
 loc := fun w w' h ⟨es, clock, h1, h2⟩ => ⟨es, clock, (h g rfl).trans h1, h2⟩
 lt := fun w k ⟨es, clock, h1, h2⟩ hk => by cases hk; exact lt_of_get h1
def mp {α : Type} (kv : α → Value) (g : Nat) (l : List (α × Value)) : Ch := .op (mpO kv g l)
def kvI (n : Int) : Value := .int .i64 n
def kvS (t : List UInt8) : Value := .string (mkS t)
structure Keys (α : Type) [DecidableEq α] (P : Program) (k : TypeId) (kv : α → Value) : Prop where
 ty : ∃ d, P.underlying k = some d ∧ (d = .int .i64 ∨ d = .string) ∧ ∀ a b, Instr.sameNow d (kv a) (kv b) = some (decide (a = b))
theorem keysI {P : Program} {k : TypeId} (h : P.underlying k = some (.int .i64)) : Keys Int P k kvI :=
 ⟨⟨_, h, .inl rfl, fun a b => by
  show (if IntKind.i64 = IntKind.i64 then some (a == b) else none) = _
  rw [if_pos rfl]; by_cases e : a = b <;> simp [e]⟩⟩
theorem keysS {P : Program} {k : TypeId} (h : P.underlying k = some .string) : Keys (List UInt8) P k kvS :=
 ⟨⟨_, h, .inr rfl, fun a b => by
  show some (a.toArray == b.toArray) = _
  congr 1
  by_cases e : a = b <;> simp [e]⟩⟩
def mlook {α : Type} [DecidableEq α] (a : α) : List (α × Value) → Option Value
 | [] => none
 | p :: l => if a = p.1 then some p.2 else mlook a l
theorem findNow_eq {α : Type} [DecidableEq α] {d : TypeDesc} {kv : α → Value} (sm : ∀ a b, Instr.sameNow d (kv a) (kv b) = some (decide (a = b))) (a : α) : ∀ (l : List (α × Value)) (es : List MapEntry) (i : Nat),
  es.map (fun e => (e.key, e.val)) = l.map (fun p => (kv p.1, p.2)) → ∃ r, Instr.findNow d (kv a) es i = some r ∧ r.map (·.2) = mlook a l
 | [], [], i, _ => ⟨none, rfl, rfl⟩
 | [], e :: es, i, h => by cases h
 | p :: l, [], i, h => by cases h
 | p :: l, e :: es, i, h => by
  rw [List.map_cons, List.map_cons, List.cons.injEq, Prod.mk.injEq] at h
  obtain ⟨⟨h1, h2⟩, h3⟩ := h
  unfold Instr.findNow mlook
  rw [h1, sm]
  by_cases e : a = p.1
  ·rw [if_pos e, decide_eq_true e]
   exact ⟨_, rfl, by rw [h2]; rfl⟩
  ·rw [if_neg e, decide_eq_false e]
   exact findNow_eq sm a l es (i + 1) h3
theorem run_checkKey {α : Type} [DecidableEq α] {P : Program} {k : TypeId} {kv : α → Value} (K : Keys α P k kv) (b : Bool) (w : World) (v : Value) : (Instr.checkKey b 10000 k v).run P w = .ok () w := by
 obtain ⟨d, hu, hd, -⟩ := K.ty
 unfold Instr.checkKey
 simp only [Sem.run_bind, run_underlying hu, Result.andThen_ok]
 rcases hd with rfl | rfl <;> rfl
theorem run_findKey {α : Type} [DecidableEq α] {P : Program} {k : TypeId} {kv : α → Value} (K : Keys α P k kv) (w : World) (a : α) (l : List (α × Value)) (es : List MapEntry) (h : es.map (fun e => (e.key, e.val)) = l.map (fun p => (kv p.1, p.2))) :
  ∃ r, (Instr.findKey k (kv a) es).run P w = .ok r w ∧ r.map (·.2) = mlook a l := by
 obtain ⟨d, hu, -, sm⟩ := K.ty
 obtain ⟨r, h1, h2⟩ := findNow_eq sm a l es 0 h
 refine ⟨r, ?_, h2⟩
 unfold Instr.findKey
 simp only [Sem.run_bind, run_underlying hu, Result.andThen_ok, h1]
 rfl
theorem run_getMap {P : Program} {w : World} {g : Nat} {es : Array MapEntry} {clock : Nat} (h : w.heap[g]? = some (.map es clock)) : (getObj g).run P w = .ok (.map es clock) w := by
 simp only [getObj, Sem.run, h]
theorem modify_eq_set' {w : World} {g : Nat} {x : Obj} (h : w.heap[g]? = some x) (o : Obj) : (w.heap.modify g fun _ => o) = w.heap.setIfInBounds g o := by
 apply Array.ext_getElem?
 intro i
 rw [Array.getElem?_modify, Array.getElem?_setIfInBounds]
 by_cases e : g = i
 ·subst e
  rw [if_pos rfl, if_pos rfl, h, if_pos (lt_of_get h)]; rfl
 ·rw [if_neg e, if_neg e]
theorem run_setMap {P : Program} {w : World} {g : Nat} {es : Array MapEntry} {clock : Nat} (h : w.heap[g]? = some (.map es clock)) (o : Obj) : (setObj g o).run P w = .ok () { w with heap := w.heap.modify g fun _ => o } := by
 simp only [setObj, Sem.run, h]
 rw [modify_eq_set' h o]
def lkV (ok : Bool) (z : Value) : Option Value → Value
 | some v => if ok then .tuple #[v, .bool true] else v
 | none => if ok then .tuple #[z, .bool false] else z
def mapTy (P : Program) (t : TypeId) : Option (TypeId × Value) :=
 match P.underlying t with
 | some (.map k e) => match P.info? e with
  | some i => match i.zero with
   | some z => some (k, z)
   | none => none
  | none => none
 | _ => none
theorem run_lookup {α : Type} [DecidableEq α] {P : Program} {k : TypeId} {kv : α → Value} (K : Keys α P k kv) {w : World} {g : Nat} {l : List (α × Value)} (hh : (mp kv g l).holds w) {t : TypeId} {z : Value} (ht : mapTy P t = some (k, z)) (a : α) (ok : Bool) :
  (Instr.lookup t (.map (some g)) (kv a) ok).run P w = .ok (lkV ok z (mlook a l)) w := by
 obtain ⟨es, clock, h1, h2⟩ := hh
 unfold mapTy at ht
 split at ht
 case h_2 => cases ht
 case h_1 k' e hu =>
  split at ht
  case h_2 => cases ht
  case h_1 i hi =>
   split at ht
   case h_2 => cases ht
   case h_1 z' hz =>
    simp only [Option.some.injEq, Prod.mk.injEq] at ht
    obtain ⟨rfl, rfl⟩ := ht
    obtain ⟨r, hr, hr2⟩ := run_findKey K w a l es.toList h2
    unfold Instr.lookup
    simp only [Sem.run_bind, run_underlying hu, Result.andThen_ok, run_getMap h1, Sem.run_pure, run_checkKey K, hr]
    rw [← hr2]
    cases r with
    | some p => cases ok <;> simp [lkV]
    | none => cases ok <;> simp [lkV, zeroValue, typeInfo, hi, hz]
theorem run_mapPut {α : Type} [DecidableEq α] {P : Program} {k : TypeId} {kv : α → Value} (K : Keys α P k kv) {w : World} {g : Nat} {l : List (α × Value)} (hh : (mp kv g l).holds w) {t : TypeId} {z : Value} (ht : mapTy P t = some (k, z)) (a : α) (v : Value) (hn : mlook a l = none) :
  ∃ o, (Instr.mapUpdate t (.map (some g)) (kv a) v).run P w = .ok () { w with heap := w.heap.modify g fun _ => o } ∧ (mp kv g (l ++ [(a, v)])).holds { w with heap := w.heap.modify g fun _ => o } := by
 obtain ⟨es, clock, h1, h2⟩ := hh
 unfold mapTy at ht
 split at ht
 case h_2 => cases ht
 case h_1 k' e hu =>
  split at ht
  case h_2 => cases ht
  case h_1 i hi =>
   split at ht
   case h_2 => cases ht
   case h_1 z' hz =>
    simp only [Option.some.injEq, Prod.mk.injEq] at ht
    obtain ⟨rfl, rfl⟩ := ht
    obtain ⟨r, hr, hr2⟩ := run_findKey K w a l es.toList h2
    rw [hn] at hr2
    cases r with
    | some p => cases hr2
    | none =>
     refine ⟨.map (es.push { key := kv a, val := v, born := clock }) (clock + 1), ?_, es.push { key := kv a, val := v, born := clock }, clock + 1, ?_, ?_⟩
     ·unfold Instr.mapUpdate
      simp only [Sem.run_bind, run_underlying hu, Result.andThen_ok, run_getMap h1, Sem.run_pure, run_checkKey K, hr, run_setMap h1]
     ·show (w.heap.modify g _)[g]? = _
      rw [Array.getElem?_modify, if_pos rfl, h1]
      rfl
     ·rw [Array.toList_push, List.map_append, List.map_append, h2]
      rfl
def lkOf (ops : Array Oper) (nt : Nat) (i : Nat) (fr : Fr) : Option (TypeId × Value × Value × Bool × Option Nat) :=
 match opAt ops nt i fr with
 | some o => match o.op with
  | .lookup t x ix ok => some (t, ev fr x, ev fr ix, ok, o.dst)
  | _ => none
 | none => none
theorem step_look {α : Type} [DecidableEq α] {kv : α → Value} {ops : Array Oper} {i g : Nat} {t k : TypeId} {z kw : Value} {ok : Bool} {dst : Option Nat} (hc : lkOf ops Γ.nt i s.fr = some (t, .map (some g), kw, ok, dst)) (ht : mapTy Γ.P t = some (k, z)) (K : Keys α Γ.P k kv)
  (a : α) (ha : kw = kv a) (p : Nat) {l : List (α × Value)} (hp : s.hp[p]? = some (mp kv g l)) :
  Step Γ ops i s (fun s' => s' = ⟨putFr s.fr dst (lkV ok z (mlook a l)), s.hp⟩) := by
 subst ha
 unfold lkOf at hc
 split at hc
 case h_2 => cases hc
 case h_1 o ho =>
  split at hc
  case h_2 => cases hc
  case h_1 t' x ix ok' hop =>
   simp only [Option.some.injEq, Prod.mk.injEq] at hc
   obtain ⟨rfl, hx, hix, rfl, rfl⟩ := hc
   intro Q b' w' hS Kk hK
   refine step_sem ho (fun v hp' => v = lkV ok' z (mlook a l) ∧ hp' = s.hp) (fun w hw => ⟨_, _, _, w, ?_, .inl rfl, ⟨rfl, rfl⟩, hw, Ext.refl _ _, Bd.self _ _⟩) Q b' w' hS Kk (fun s' ⟨v, hp', ⟨h1, h2⟩, h3⟩ => hK s' (by rw [h3, h1, h2]))
   have hh := hw.holds _ (List.mem_of_getElem? hp)
   simp only [execOp, hop, hx, hix, run_lookup K hh ht a ok', Sem.run_bind, Sem.run_pure, Result.andThen_ok]
def mpuOf (ops : Array Oper) (nt : Nat) (i : Nat) (fr : Fr) : Option (TypeId × Value × Value × Value × Option Nat) :=
 match opAt ops nt i fr with
 | some o => match o.op with
  | .mapUpdate t m k x => some (t, ev fr m, ev fr k, ev fr x, o.dst)
  | _ => none
 | none => none
theorem step_mput {α : Type} [DecidableEq α] {kv : α → Value} {ops : Array Oper} {i g : Nat} {t k : TypeId} {z kw v : Value} {dst : Option Nat} (hc : mpuOf ops Γ.nt i s.fr = some (t, .map (some g), kw, v, dst)) (ht : mapTy Γ.P t = some (k, z)) (K : Keys α Γ.P k kv)
  (a : α) (ha : kw = kv a) (p : Nat) {l : List (α × Value)} (hp : s.hp[p]? = some (mp kv g l)) (hn : mlook a l = none) :
  Step Γ ops i s (fun s' => s' = ⟨putFr s.fr dst undef, s.hp.set p (mp kv g (l ++ [(a, v)]))⟩) := by
 subst ha
 unfold mpuOf at hc
 split at hc
 case h_2 => cases hc
 case h_1 o ho =>
  split at hc
  case h_2 => cases hc
  case h_1 t' m x y hop =>
   simp only [Option.some.injEq, Prod.mk.injEq] at hc
   obtain ⟨rfl, hm, hx, hy, rfl⟩ := hc
   intro Q b' w' hS Kk hK
   refine step_sem ho (fun v' hp' => v' = undef ∧ hp' = s.hp.set p (mp kv g (l ++ [(a, v)]))) (fun w hw => ?_) Q b' w' hS Kk (fun s' ⟨v', hp', ⟨h1, h2⟩, h3⟩ => hK s' (by rw [h3, h1, h2]))
   have hh := hw.holds _ (List.mem_of_getElem? hp)
   obtain ⟨ob, hr, hn2⟩ := run_mapPut K hh ht a v hn
   have hsame : ∀ q, q ≠ g → (w.heap.modify g fun _ => ob)[q]? = w.heap[q]? := fun q hq => by
    rw [Array.getElem?_modify, if_neg (fun e => hq e.symm)]
   refine ⟨.skip, undef, _, { w with heap := w.heap.modify g fun _ => ob }, ?_, .inr ⟨rfl, rfl⟩, ⟨rfl, rfl⟩, hw.set hp trivial (fun q hq => hq) hn2 (fun q hq _ => hsame q hq), ?_, ?_⟩
   ·simp only [execOp, hop, hm, hx, hy, hr, Sem.run_bind, Sem.run_pure, Result.andThen_ok]
   ·refine ⟨rfl, rfl, rfl, by show w.heap.size ≤ (w.heap.modify g _).size; simp, fun q hq hF => hsame q (fun e => hF ⟨_, List.mem_of_getElem? hp, trivial, e⟩)⟩
   ·exact Bd.put hp trivial (fun q hq => .inl hq)
def mkmOf (ops : Array Oper) (nt : Nat) (i : Nat) (fr : Fr) : Option (Option Nat) :=
 match opAt ops nt i fr with
 | some o => match o.op with
  | .makeMap t none => some o.dst
  | _ => none
 | none => none
theorem step_mkm {α : Type} (kv : α → Value) {ops : Array Oper} {i : Nat} {dst : Option Nat} (hc : mkmOf ops Γ.nt i s.fr = some dst) :
  Step Γ ops i s (fun s' => ∃ g, s' = ⟨putFr s.fr dst (.map (some g)), s.hp ++ [mp kv g []]⟩) := by
 unfold mkmOf at hc
 split at hc
 case h_2 => cases hc
 case h_1 o ho =>
  split at hc
  case h_2 => cases hc
  case h_1 t hop =>
   simp only [Option.some.injEq] at hc
   subst hc
   intro Q b' w' hS K hK
   refine step_sem ho (fun v hp' => ∃ g, v = .map (some g) ∧ hp' = s.hp ++ [mp kv g []]) (fun w hw => ?_) Q b' w' hS K (fun s' ⟨v, hp', ⟨g, h1, h2⟩, h3⟩ => hK s' ⟨g, by rw [h3, h1, h2]⟩)
   have hold : ∀ k, k < w.heap.size → (w.alloc (.map #[] 0)).heap[k]? = w.heap[k]? := fun k hk => alloc_old hk
   refine ⟨_, _, s.hp ++ [mp kv w.heap.size []], w.alloc (.map #[] 0), ?_, .inl rfl, ⟨w.heap.size, rfl, rfl⟩, hw.append hold ⟨#[], 0, World.alloc_heap_new w _, rfl⟩ (fun k hk => Nat.le_of_eq (Eq.symm hk)), ?_, ?_⟩
   ·simp only [execOp, hop, Instr.makeMap, newObj, Sem.run_bind, Sem.run_pure, Result.andThen_ok, Sem.run]
    rfl
   ·exact ⟨rfl, rfl, rfl, by show w.heap.size ≤ (w.heap.push _).size; simp, fun k hk _ => hold k hk⟩
   ·intro c hcm hcr k hk
    rcases List.mem_append.1 hcm with hcm | hcm
    ·exact .inl ⟨c, hcm, hcr, hk⟩
    ·rw [List.mem_singleton.1 hcm] at hk
     exact .inr (Nat.le_of_eq (Eq.symm hk))
end Go.Sx
namespace Go.Proofs.YtgcfomhlgipllaaGreatDoor
open Go Go.Sx
/-! Names that are different, plain; what a map has. -/
theorem mlook_none {α : Type} [DecidableEq α] (a : α) : ∀ l : List (α × Value), mlook a l = none ↔ a ∉ l.map (·.1)
 | [] => ⟨fun _ => List.not_mem_nil, fun _ => rfl⟩
 | p :: l => by
  unfold mlook
  by_cases h : a = p.1
  ·rw [if_pos h]
   exact ⟨fun e => by (cases e), fun e => absurd (List.mem_cons.2 (.inl h)) e⟩
  ·rw [if_neg h, mlook_none a l, List.map_cons, List.mem_cons]
   exact ⟨fun e => fun hn => hn.elim h e, fun e => fun hn => e (.inr hn)⟩
def mI (l : List (Int × Int)) : List (Int × Value) := l.map fun p => (p.1, .int .i64 p.2)
theorem mlook_mI (i : Int) : ∀ l : List (Int × Int), mlook i (mI l) = (lk l i).map (Value.int .i64)
 | [] => rfl
 | p :: l => by
  show (if i = p.1 then some (Value.int .i64 p.2) else mlook i (mI l)) = (if i = p.1 then some p.2 else lk l i).map (Value.int .i64)
  rw [mlook_mI i l]
  by_cases h : i = p.1
  ·rw [if_pos h, if_pos h]; rfl
  ·rw [if_neg h, if_neg h]
theorem mI_app (l : List (Int × Int)) (i v : Int) : mI l ++ [(i, .int .i64 v)] = mI (l ++ [(i, v)]) := by simp [mI]
theorem namesB_bad {l : List Tx} {i : Nat} (h : i < l.length) (hb : nameB l[i] = false ∨ l[i] ∈ l.take i) : namesB l = false := by
 cases hn : namesB l with
 | false => rfl
 | true =>
  obtain ⟨h1, h2⟩ := (namesB_iff l).1 hn
  rcases hb with hb | hb
  ·rw [h1 _ (List.getElem_mem h)] at hb; cases hb
  ·have h3 := List.take_append_drop i l
   rw [← h3] at h2
   have h4 := (List.nodup_append.1 h2).2.2
   have h5 : l[i] ∈ l.drop i := by rw [List.drop_eq_getElem_cons h]; exact List.mem_cons_self ..
   exact absurd rfl (h4 _ hb _ h5)
theorem nodup_of : ∀ l : List Tx, (∀ i (h : i < l.length), l[i] ∉ l.take i) → l.Nodup := by
 intro l
 suffices ∀ n, n ≤ l.length → (∀ i (h : i < l.length), l[i] ∉ l.take i) → (l.take n).Nodup by
  intro h
  have := this l.length (Nat.le_refl _) h
  rwa [List.take_length] at this
 intro n
 induction n with
 | zero => intro _ _; rw [List.take_zero]; exact List.nodup_nil
 | succ n ih =>
  intro hn h
  have hlt : n < l.length := by omega
  rw [← List.take_append_getElem hlt]
  refine List.nodup_append.2 ⟨ih (by omega) h, (by simp), fun a ha b hb e => ?_⟩
  rw [List.mem_singleton.1 hb] at e
  exact h n hlt (e ▸ ha)
theorem namesB_ok {l : List Tx} (h : ∀ i (h : i < l.length), nameB l[i] = true ∧ l[i] ∉ l.take i) : namesB l = true := by
 refine (namesB_iff l).2 ⟨fun t ht => ?_, nodup_of l fun i hi => (h i hi).2⟩
 obtain ⟨i, hi⟩ := List.getElem?_of_mem ht
 obtain ⟨hi1, rfl⟩ := List.getElem?_eq_some_iff.1 hi
 exact (h i hi1).1
end Go.Proofs.YtgcfomhlgipllaaGreatDoor
namespace Go.Proofs.YtgcfomhlgipllaaGreatDoor
open Go Go.Sx
theorem upto_spec (a n : Int) : Does Tryz.prog 40 [.int .i64 a, .int .i64 n] [] (fun v hp' => v = .bool (uptoB a n) ∧ hp' = []) := by
 unfold uptoB
 by_cases h : 0 ≤ a
 ·refine fn_enter Tryz.func40 rfl 12 rfl fun w0 h0 => ?_
  refine SQ (RG ?_)
  refine RR [] .z (.i 4 (.bool false) .a) .a ?_
  refine RZ (NT (SQ (RG ?_)))
  refine RR [] (.d (.d (.d .a))) (.i 7 (.bool (decide (a ≥ (0 : Int)))) .a) .a ?_
  refine SR 7 (decide (a ≥ (0 : Int))) true (decide_eq_true (by omega)) ?_
  refine RR [] .z (.i 4 (.bool (decide (a < n))) .z) .a ?_
  refine RZ (NT (RE ?_))
  refine NE [] .a .a [] (.bool (decide (a < n))) ?_
  exact ⟨by simp [h], rfl⟩
 ·refine fn_enter Tryz.func40 rfl 12 rfl fun w0 h0 => ?_
  refine SQ (RG ?_)
  refine RR [] .z (.i 4 (.bool false) .a) .a ?_
  refine RZ (NT (SQ (RG ?_)))
  refine RR [] (.d (.d (.d .a))) (.i 7 (.bool (decide (a ≥ (0 : Int)))) .a) .a ?_
  refine SR 7 (decide (a ≥ (0 : Int))) false (decide_eq_false (by omega)) ?_
  refine RR [] .z (.d (.d (.k .z))) .a ?_
  refine RZ (NT (RE ?_))
  refine NE [] .a .a [] (.bool false) ?_
  exact ⟨by simp [h], rfl⟩
theorem one_spec (b : Bool) : Does Tryz.prog 145 [.bool b] [] (fun v hp' => v = .int .i64 (oneI b) ∧ hp' = []) := by
 cases b with
 | true =>
  refine fn_enter Tryz.func145 rfl 4 rfl fun w0 h0 => ?_
  refine SQ (RG ?_)
  refine RR [] .z (.i 2 (.int .i64 0) .a) .a ?_
  refine RZ (NT (SQ (SQ (RG ?_))))
  refine RR [] .z (.i 3 (.bool true) (.k .z)) .a ?_
  refine RZ (NT (CT (SQ (RG ?_))))
  refine RR [] .z (.i 2 (.int .i64 1) .z) .a ?_
  refine RZ (NT (RE (TR ?_)))
  refine NE [] .a .a [] (.int .i64 1) ?_
  exact ⟨rfl, rfl⟩
 | false =>
  refine fn_enter Tryz.func145 rfl 4 rfl fun w0 h0 => ?_
  refine SQ (RG ?_)
  refine RR [] .z (.i 2 (.int .i64 0) .a) .a ?_
  refine RZ (NT (SQ (SQ (RG ?_))))
  refine RR [] .z (.i 3 (.bool false) (.k .z)) .a ?_
  refine RZ (NT (CF (SK (NT (SQ (RG ?_))))))
  refine RR [] .z (.d (.k .a)) .a ?_
  refine RZ (NT (RE ?_))
  refine NE [] .a .a [] (.int .i64 0) ?_
  exact ⟨rfl, rfl⟩
theorem coP_len (c : CoV) : c.p.strs.length = c.strs.length ∧ c.p.shapes.length = c.shapes.length ∧ c.p.units.length = c.units.length := ⟨rfl, List.length_map .., List.length_map ..⟩
set_option maxHeartbeats 8000000 in
theorem fits_spec (c : CoV) (u : UnV) (x : InP) : Does Tryz.prog 144 [.agg (coC c).toArray, .agg (unC u).toArray, .agg (insC x).toArray] [] (fun v hp' => v = .bool (fitsB c.p u.p x) ∧ hp' = []) := by
 obtain ⟨e1, e2, e3⟩ := coP_len c
 unfold coC unC insC
 refine fn_enter Tryz.func144 rfl 92 rfl fun w0 h0 => ?_
 refine SQ (RG ?_)
 refine RP [] (.d .a) 3 (.d (.k .a)) .a 26 [.slice c.sa c.strs.length c.sc, .slice c.ha c.shapes.length c.hc, .slice c.ua c.units.length c.uc, .int .i64 c.main] fun g1 => ?_
 refine RP [] (.d .a) 4 (.k (.d (.k .a))) .a 59 [.string (mkS u.name), .int .i64 u.params, .int .i64 u.slots, .int .i64 u.stack, .bool u.result, .slice u.ia u.ins.length u.ic, .slice u.va u.vars.length u.vc] fun g2 => ?_
 refine RP [] (.d .a) 5 (.k (.k .z)) .a 62 [.int .i64 x.fst, .int .i64 x.snd] fun g3 => ?_
 refine RR [] .z (.i 6 (.bool false) .a) .a ?_
 refine RZ (NT (SQ (SQ (RG ?_))))
 refine RR [2] .z (.i 8 (.int .i64 x.fst) .a) .a ?_
 refine RZ (NT (BK (SQ (SQ (RG ?_)))))
 refine RR [] .z (.i 9 (.bool (x.fst == (0 : Int))) .a) .a ?_
 refine RZ (NT ?_)
 by_cases k0 : x.1 = 0
 ·refine SC 9 (x.fst == (0 : Int)) true (by simp only [bne_iff_ne, beq_iff_eq, ne_eq]; omega) ?_
  refine CT (SK (NT (CT (SQ (RG ?_)))))
  refine RR [] .z (.i 6 (.bool true) (.d (.d (.d (.d (.k .z)))))) .a ?_
  refine RZ (NT (RE (BR (TR ?_))))
  refine NE [] .z .a [] (.bool true) ?_
  exact ⟨by simp [fitsB, k0], rfl⟩
 refine SC 9 (x.fst == (0 : Int)) false (by simp only [bne_eq_false_iff_eq, beq_eq_false_iff_ne, ne_eq]; omega) ?_
 refine CF (RG ?_)
 refine RR [] .z (.i 9 (.bool (x.fst == (1 : Int))) (.d (.d (.k .a)))) .a ?_
 refine RZ (NT ?_)
 by_cases k1 : x.1 = 1
 ·refine SC 9 (x.fst == (1 : Int)) true (by simp only [bne_iff_ne, beq_iff_eq, ne_eq]; omega) ?_
  refine CT (SQ (RG ?_))
  refine RR [] .z (.i 6 (.bool true) (.d (.d (.d (.d (.k .z)))))) .a ?_
  refine RZ (NT (RE (BR (TR ?_))))
  refine NE [] .z .a [] (.bool true) ?_
  exact ⟨by simp [fitsB, k1], rfl⟩
 refine SC 9 (x.fst == (1 : Int)) false (by simp only [bne_eq_false_iff_eq, beq_eq_false_iff_ne, ne_eq]; omega) ?_
 refine CF (SQ (RG ?_))
 refine RR [] .z (.i 12 (.bool (x.fst == (2 : Int))) (.d (.d (.k .a)))) .a ?_
 refine RZ (NT ?_)
 by_cases k2 : x.1 = 2
 ·refine SC 12 (x.fst == (2 : Int)) true (by simp only [bne_iff_ne, beq_iff_eq, ne_eq]; omega) ?_
  refine CT (SQ (RG ?_))
  refine RR [2] (.d (.d .a)) (.i 15 (.int .i64 x.snd) (.d (.d (.d (.k (.k .z)))))) .a ?_
  refine RC (dst := some 16) [] .a (upto_spec x.2 2) ?_
  rintro v _ ⟨rfl, rfl⟩
  refine RR [] .z (.i 6 (.bool (uptoB x.snd (2 : Int))) (.d (.d (.d (.k .a))))) .a ?_
  refine RZ (NT (RE (BR (TR ?_))))
  refine NE [] .z .a [] (.bool (uptoB x.snd 2)) ?_
  exact ⟨by simp [fitsB, k2, e1, e2, e3, UnV.p], rfl⟩
 refine SC 12 (x.fst == (2 : Int)) false (by simp only [bne_eq_false_iff_eq, beq_eq_false_iff_ne, ne_eq]; omega) ?_
 refine CF (SQ (SQ (RG ?_)))
 refine RR [] .z (.i 17 (.bool (x.fst == (3 : Int))) (.d (.d (.k .a)))) .a ?_
 refine RZ (NT ?_)
 by_cases k3 : x.1 = 3
 ·refine SC 17 (x.fst == (3 : Int)) true (by simp only [bne_iff_ne, beq_iff_eq, ne_eq]; omega) ?_
  refine CT (SK (NT (CT (SQ (RG ?_)))))
  refine RR [2, 0] (.d (.d (.d (.d (.d .a))))) (.i 25 (.int .i64 (↑c.strs.length : Int)) (.i 22 (.int .i64 x.snd) (.d (.d (.d (.k (.k .z))))))) .a ?_
  refine RC (dst := some 26) [] .a (upto_spec x.2 c.strs.length) ?_
  rintro v _ ⟨rfl, rfl⟩
  refine RR [] .z (.i 6 (.bool (uptoB x.snd (↑c.strs.length : Int))) (.d (.d (.d (.d (.k .a)))))) .a ?_
  refine RZ (NT (RE (BR (TR ?_))))
  refine NE [] .z .a [] (.bool (uptoB x.snd (↑c.strs.length : Int))) ?_
  exact ⟨by simp [fitsB, k3, e1, e2, e3, UnV.p], rfl⟩
 refine SC 17 (x.fst == (3 : Int)) false (by simp only [bne_eq_false_iff_eq, beq_eq_false_iff_ne, ne_eq]; omega) ?_
 refine CF (SQ (RG ?_))
 refine RR [] .z (.i 17 (.bool (x.fst == (28 : Int))) (.d (.d (.k .a)))) .a ?_
 refine RZ (NT ?_)
 by_cases k28 : x.1 = 28
 ·refine SC 17 (x.fst == (28 : Int)) true (by simp only [bne_iff_ne, beq_iff_eq, ne_eq]; omega) ?_
  refine CT (SK (NT (CT (SQ (RG ?_)))))
  refine RR [2, 0] (.d (.d (.d (.d (.d .a))))) (.i 25 (.int .i64 (↑c.strs.length : Int)) (.i 22 (.int .i64 x.snd) (.d (.d (.d (.k (.k .z))))))) .a ?_
  refine RC (dst := some 26) [] .a (upto_spec x.2 c.strs.length) ?_
  rintro v _ ⟨rfl, rfl⟩
  refine RR [] .z (.i 6 (.bool (uptoB x.snd (↑c.strs.length : Int))) (.d (.d (.d (.d (.k .a)))))) .a ?_
  refine RZ (NT (RE (BR (TR ?_))))
  refine NE [] .z .a [] (.bool (uptoB x.snd (↑c.strs.length : Int))) ?_
  exact ⟨by simp [fitsB, k28, e1, e2, e3, UnV.p], rfl⟩
 refine SC 17 (x.fst == (28 : Int)) false (by simp only [bne_eq_false_iff_eq, beq_eq_false_iff_ne, ne_eq]; omega) ?_
 refine CF (RG ?_)
 refine RR [] .z (.i 17 (.bool (x.fst == (29 : Int))) (.d (.d (.k .a)))) .a ?_
 refine RZ (NT ?_)
 by_cases k29 : x.1 = 29
 ·refine SC 17 (x.fst == (29 : Int)) true (by simp only [bne_iff_ne, beq_iff_eq, ne_eq]; omega) ?_
  refine CT (SQ (RG ?_))
  refine RR [2, 0] (.d (.d (.d (.d (.d .a))))) (.i 25 (.int .i64 (↑c.strs.length : Int)) (.i 22 (.int .i64 x.snd) (.d (.d (.d (.k (.k .z))))))) .a ?_
  refine RC (dst := some 26) [] .a (upto_spec x.2 c.strs.length) ?_
  rintro v _ ⟨rfl, rfl⟩
  refine RR [] .z (.i 6 (.bool (uptoB x.snd (↑c.strs.length : Int))) (.d (.d (.d (.d (.k .a)))))) .a ?_
  refine RZ (NT (RE (BR (TR ?_))))
  refine NE [] .z .a [] (.bool (uptoB x.snd (↑c.strs.length : Int))) ?_
  exact ⟨by simp [fitsB, k29, e1, e2, e3, UnV.p], rfl⟩
 refine SC 17 (x.fst == (29 : Int)) false (by simp only [bne_eq_false_iff_eq, beq_eq_false_iff_ne, ne_eq]; omega) ?_
 refine CF (SQ (SQ (RG ?_)))
 refine RR [] .z (.i 27 (.bool (x.fst == (4 : Int))) (.d (.d (.k .a)))) .a ?_
 refine RZ (NT ?_)
 by_cases k4 : x.1 = 4
 ·refine SC 27 (x.fst == (4 : Int)) true (by simp only [bne_iff_ne, beq_iff_eq, ne_eq]; omega) ?_
  refine CT (SK (NT (CT (SQ (RG ?_)))))
  refine RR [2, 1] (.d (.d (.d (.d .a)))) (.i 33 (.int .i64 u.slots) (.i 31 (.int .i64 x.snd) (.d (.d (.d (.k (.k .z))))))) .a ?_
  refine RC (dst := some 34) [] .a (upto_spec x.2 u.slots) ?_
  rintro v _ ⟨rfl, rfl⟩
  refine RR [] .z (.i 6 (.bool (uptoB x.snd u.slots)) (.d (.d (.d (.d (.k .a)))))) .a ?_
  refine RZ (NT (RE (BR (TR ?_))))
  refine NE [] .z .a [] (.bool (uptoB x.snd u.slots)) ?_
  exact ⟨by simp [fitsB, k4, e1, e2, e3, UnV.p], rfl⟩
 refine SC 27 (x.fst == (4 : Int)) false (by simp only [bne_eq_false_iff_eq, beq_eq_false_iff_ne, ne_eq]; omega) ?_
 refine CF (RG ?_)
 refine RR [] .z (.i 27 (.bool (x.fst == (5 : Int))) (.d (.d (.k .a)))) .a ?_
 refine RZ (NT ?_)
 by_cases k5 : x.1 = 5
 ·refine SC 27 (x.fst == (5 : Int)) true (by simp only [bne_iff_ne, beq_iff_eq, ne_eq]; omega) ?_
  refine CT (SQ (RG ?_))
  refine RR [2, 1] (.d (.d (.d (.d .a)))) (.i 33 (.int .i64 u.slots) (.i 31 (.int .i64 x.snd) (.d (.d (.d (.k (.k .z))))))) .a ?_
  refine RC (dst := some 34) [] .a (upto_spec x.2 u.slots) ?_
  rintro v _ ⟨rfl, rfl⟩
  refine RR [] .z (.i 6 (.bool (uptoB x.snd u.slots)) (.d (.d (.d (.d (.k .a)))))) .a ?_
  refine RZ (NT (RE (BR (TR ?_))))
  refine NE [] .z .a [] (.bool (uptoB x.snd u.slots)) ?_
  exact ⟨by simp [fitsB, k5, e1, e2, e3, UnV.p], rfl⟩
 refine SC 27 (x.fst == (5 : Int)) false (by simp only [bne_eq_false_iff_eq, beq_eq_false_iff_ne, ne_eq]; omega) ?_
 refine CF (SQ (SQ (RG ?_)))
 refine RR [] .z (.i 35 (.bool (x.fst == (20 : Int))) (.d (.d (.k .a)))) .a ?_
 refine RZ (NT ?_)
 by_cases k20 : x.1 = 20
 ·refine SC 35 (x.fst == (20 : Int)) true (by simp only [bne_iff_ne, beq_iff_eq, ne_eq]; omega) ?_
  refine CT (SK (NT (CT (SQ (RG ?_)))))
  refine RR [2, 1] (.d (.d (.d (.d (.d .a))))) (.i 42 (.int .i64 (↑u.ins.length : Int)) (.i 39 (.int .i64 x.snd) (.d (.d (.d (.k (.k .z))))))) .a ?_
  refine RC (dst := some 43) [] .a (upto_spec x.2 u.ins.length) ?_
  rintro v _ ⟨rfl, rfl⟩
  refine RR [] .z (.i 6 (.bool (uptoB x.snd (↑u.ins.length : Int))) (.d (.d (.d (.d (.k .a)))))) .a ?_
  refine RZ (NT (RE (BR (TR ?_))))
  refine NE [] .z .a [] (.bool (uptoB x.snd (↑u.ins.length : Int))) ?_
  exact ⟨by simp [fitsB, k20, e1, e2, e3, UnV.p], rfl⟩
 refine SC 35 (x.fst == (20 : Int)) false (by simp only [bne_eq_false_iff_eq, beq_eq_false_iff_ne, ne_eq]; omega) ?_
 refine CF (RG ?_)
 refine RR [] .z (.i 35 (.bool (x.fst == (21 : Int))) (.d (.d (.k .a)))) .a ?_
 refine RZ (NT ?_)
 by_cases k21 : x.1 = 21
 ·refine SC 35 (x.fst == (21 : Int)) true (by simp only [bne_iff_ne, beq_iff_eq, ne_eq]; omega) ?_
  refine CT (SQ (RG ?_))
  refine RR [2, 1] (.d (.d (.d (.d (.d .a))))) (.i 42 (.int .i64 (↑u.ins.length : Int)) (.i 39 (.int .i64 x.snd) (.d (.d (.d (.k (.k .z))))))) .a ?_
  refine RC (dst := some 43) [] .a (upto_spec x.2 u.ins.length) ?_
  rintro v _ ⟨rfl, rfl⟩
  refine RR [] .z (.i 6 (.bool (uptoB x.snd (↑u.ins.length : Int))) (.d (.d (.d (.d (.k .a)))))) .a ?_
  refine RZ (NT (RE (BR (TR ?_))))
  refine NE [] .z .a [] (.bool (uptoB x.snd (↑u.ins.length : Int))) ?_
  exact ⟨by simp [fitsB, k21, e1, e2, e3, UnV.p], rfl⟩
 refine SC 35 (x.fst == (21 : Int)) false (by simp only [bne_eq_false_iff_eq, beq_eq_false_iff_ne, ne_eq]; omega) ?_
 refine CF (SQ (RG ?_))
 refine RR [] .z (.i 44 (.bool (x.fst == (22 : Int))) (.d (.d (.k .a)))) .a ?_
 refine RZ (NT ?_)
 by_cases k22 : x.1 = 22
 ·refine SC 44 (x.fst == (22 : Int)) true (by simp only [bne_iff_ne, beq_iff_eq, ne_eq]; omega) ?_
  refine CT (SQ (RG ?_))
  refine RR [2, 0] (.d (.d (.d (.d (.d .a))))) (.i 50 (.int .i64 (↑c.units.length : Int)) (.i 47 (.int .i64 x.snd) (.d (.d (.d (.k (.k .z))))))) .a ?_
  refine RC (dst := some 51) [] .a (upto_spec x.2 c.units.length) ?_
  rintro v _ ⟨rfl, rfl⟩
  refine RR [] .z (.i 6 (.bool (uptoB x.snd (↑c.units.length : Int))) (.d (.d (.d (.d (.k .a)))))) .a ?_
  refine RZ (NT (RE (BR (TR ?_))))
  refine NE [] .z .a [] (.bool (uptoB x.snd (↑c.units.length : Int))) ?_
  exact ⟨by simp [fitsB, k22, e1, e2, e3, UnV.p], rfl⟩
 refine SC 44 (x.fst == (22 : Int)) false (by simp only [bne_eq_false_iff_eq, beq_eq_false_iff_ne, ne_eq]; omega) ?_
 refine CF (SQ (RG ?_))
 refine RR [] .z (.i 52 (.bool (x.fst == (25 : Int))) (.d (.d (.k .a)))) .a ?_
 refine RZ (NT ?_)
 by_cases k25 : x.1 = 25
 ·refine SC 52 (x.fst == (25 : Int)) true (by simp only [bne_iff_ne, beq_iff_eq, ne_eq]; omega) ?_
  refine CT (SQ (RG ?_))
  refine RR [2, 0] (.d (.d (.d (.d (.d .a))))) (.i 58 (.int .i64 (↑c.shapes.length : Int)) (.i 55 (.int .i64 x.snd) (.d (.d (.d (.k (.k .z))))))) .a ?_
  refine RC (dst := some 59) [] .a (upto_spec x.2 c.shapes.length) ?_
  rintro v _ ⟨rfl, rfl⟩
  refine RR [] .z (.i 6 (.bool (uptoB x.snd (↑c.shapes.length : Int))) (.d (.d (.d (.d (.k .a)))))) .a ?_
  refine RZ (NT (RE (BR (TR ?_))))
  refine NE [] .z .a [] (.bool (uptoB x.snd (↑c.shapes.length : Int))) ?_
  exact ⟨by simp [fitsB, k25, e1, e2, e3, UnV.p], rfl⟩
 refine SC 52 (x.fst == (25 : Int)) false (by simp only [bne_eq_false_iff_eq, beq_eq_false_iff_ne, ne_eq]; omega) ?_
 refine CF (SQ (RG ?_))
 refine RR [] .z (.i 60 (.bool (x.fst == (23 : Int))) (.d (.d (.k (.k (.k (.k .z))))))) .a ?_
 refine RZ (NT ?_)
 by_cases k23 : x.1 = 23
 ·refine SC 60 (x.fst == (23 : Int)) true (by simp only [bne_iff_ne, beq_iff_eq, ne_eq]; omega) ?_
  refine CT (SQ ?_)
  refine wpc_draw (by kernel_rfl) [.blk g2 59 [.string (mkS u.name), .int .i64 u.params, .int .i64 u.slots, .int .i64 u.stack, .bool u.result, .slice u.ia u.ins.length u.ic, .slice u.va u.vars.length u.vc], .blk g3 62 [.int .i64 x.fst, .int .i64 x.snd]] (sub_of [1, 2] (by kernel_rfl)) 7 (by kernel_rfl) ?_
  refine TK 3 [(0, []), (1, [1]), (2, []), (3, [0])] (.i 65 (.bool u.result) (.i 63 (.int .i64 x.snd) (.d (.d (.d (.k (.k .z))))))) (#[true, true, true, true, false, false, false]) ?_
  refine AC (dst := some 66) 2 4 .a (one_spec u.result) (GI []) [1, 2] ?_
  rintro v _ ⟨rfl, rfl⟩
  refine TK 0 [(5, []), (6, [])] (.i 6 (.bool (x.snd == oneI u.result)) (.d (.d (.d (.d (.k .a)))))) (#[true, true, true, true, true, true, true]) ?_
  refine wpa_done 0 (by kernel_rfl) ?_
  refine NT (RE (BR (TR ?_)))
  refine NE [] .z .a [] (.bool (x.snd == oneI u.result)) ?_
  exact ⟨by simp [fitsB, k23, UnV.p]; rfl, rfl⟩
 refine SC 60 (x.fst == (23 : Int)) false (by simp only [bne_eq_false_iff_eq, beq_eq_false_iff_ne, ne_eq]; omega) ?_
 refine CF (SQ (SQ (RG ?_)))
 refine RR [] .z (.i 68 (.bool (x.fst == (24 : Int))) (.d (.d (.k (.k (.k .z)))))) .a ?_
 refine RZ (NT ?_)
 by_cases k24 : x.1 = 24
 ·by_cases h : 1 ≤ x.2
  ·refine SC 68 (x.fst == (24 : Int)) true (by simp only [bne_iff_ne, beq_iff_eq, ne_eq]; omega) ?_
   refine CT (SK (NT (CT (SQ (RG ?_)))))
   refine RR [2] (.d (.d (.d (.d .a)))) (.i 74 (.bool (decide (x.snd ≥ (1 : Int)))) (.d (.d (.d (.k .a))))) .a ?_
   refine SR 74 (decide (x.snd ≥ (1 : Int))) true (decide_eq_true (by omega)) ?_
   refine RR [2] .z (.i 6 (.bool (decide (x.snd ≤ (256 : Int)))) (.d (.d (.d (.k .a))))) .a ?_
   refine RZ (NT (RE (BR (TR ?_))))
   refine NE [] .z .a [] (.bool (decide (x.snd ≤ 256))) ?_
   exact ⟨by simp [fitsB, k24, h], rfl⟩
  ·refine SC 68 (x.fst == (24 : Int)) true (by simp only [bne_iff_ne, beq_iff_eq, ne_eq]; omega) ?_
   refine CT (SK (NT (CT (SQ (RG ?_)))))
   refine RR [2] (.d (.d (.d (.d .a)))) (.i 74 (.bool (decide (x.snd ≥ (1 : Int)))) (.d (.d (.d (.k .a))))) .a ?_
   refine SR 74 (decide (x.snd ≥ (1 : Int))) false (decide_eq_false (by omega)) ?_
   refine RR [] .z (.d (.d (.k .a))) .a ?_
   refine RZ (NT (RE (BR (TR ?_))))
   refine NE [] .z .a [] (.bool false) ?_
   exact ⟨by simp [fitsB, k24, h], rfl⟩
 refine SC 68 (x.fst == (24 : Int)) false (by simp only [bne_eq_false_iff_eq, beq_eq_false_iff_ne, ne_eq]; omega) ?_
 refine CF (RG ?_)
 refine RR [] .z (.i 68 (.bool (x.fst == (34 : Int))) (.d (.d (.d (.k .a))))) .a ?_
 refine RZ (NT ?_)
 by_cases k34 : x.1 = 34
 ·by_cases h : 1 ≤ x.2
  ·refine SC 68 (x.fst == (34 : Int)) true (by simp only [bne_iff_ne, beq_iff_eq, ne_eq]; omega) ?_
   refine CT (SQ (RG ?_))
   refine RR [2] (.d (.d (.d (.d .a)))) (.i 74 (.bool (decide (x.snd ≥ (1 : Int)))) (.d (.d (.k .a)))) .a ?_
   refine SR 74 (decide (x.snd ≥ (1 : Int))) true (decide_eq_true (by omega)) ?_
   refine RR [2] .z (.i 6 (.bool (decide (x.snd ≤ (256 : Int)))) (.d (.d (.d (.k .a))))) .a ?_
   refine RZ (NT (RE (BR (TR ?_))))
   refine NE [] .z .a [] (.bool (decide (x.snd ≤ 256))) ?_
   exact ⟨by simp [fitsB, k34, h], rfl⟩
  ·refine SC 68 (x.fst == (34 : Int)) true (by simp only [bne_iff_ne, beq_iff_eq, ne_eq]; omega) ?_
   refine CT (SQ (RG ?_))
   refine RR [2] (.d (.d (.d (.d .a)))) (.i 74 (.bool (decide (x.snd ≥ (1 : Int)))) (.d (.d (.k .a)))) .a ?_
   refine SR 74 (decide (x.snd ≥ (1 : Int))) false (decide_eq_false (by omega)) ?_
   refine RR [] .z (.d (.d (.k .a))) .a ?_
   refine RZ (NT (RE (BR (TR ?_))))
   refine NE [] .z .a [] (.bool false) ?_
   exact ⟨by simp [fitsB, k34, h], rfl⟩
 refine SC 68 (x.fst == (34 : Int)) false (by simp only [bne_eq_false_iff_eq, beq_eq_false_iff_ne, ne_eq]; omega) ?_
 refine CF (SK (BN (NT (SQ (RG ?_)))))
 refine RR [2] (.d (.d (.d (.d .a)))) (.i 82 (.bool (x.snd == (0 : Int))) (.d (.d (.k .a)))) .a ?_
 by_cases h0 : x.2 = 0
 ·by_cases h1 : 0 ≤ x.1
  ·refine SR 82 (x.snd == (0 : Int)) true (by simp only [bne_iff_ne, beq_iff_eq, ne_eq]; omega) ?_
   refine RR [2] (.d (.d (.d (.d (.d .a))))) (.i 87 (.bool (decide (x.fst ≥ (0 : Int)))) (.d (.d (.k .a)))) .a ?_
   refine SR 87 (decide (x.fst ≥ (0 : Int))) true (decide_eq_true (by omega)) ?_
   refine RR [2] .z (.i 6 (.bool (decide (x.fst ≤ (34 : Int)))) .z) .a ?_
   refine RZ (NT (RE ?_))
   refine NE [] .z .a [] (.bool (decide (x.fst ≤ 34))) ?_
   exact ⟨by simp [fitsB, *], rfl⟩
  ·refine SR 82 (x.snd == (0 : Int)) true (by simp only [bne_iff_ne, beq_iff_eq, ne_eq]; omega) ?_
   refine RR [2] (.d (.d (.d (.d (.d .a))))) (.i 87 (.bool (decide (x.fst ≥ (0 : Int)))) (.d (.d (.k .a)))) .a ?_
   refine SR 87 (decide (x.fst ≥ (0 : Int))) false (decide_eq_false (by omega)) ?_
   refine RR [] .z (.d (.d (.k .z))) .a ?_
   refine RZ (NT (RE ?_))
   refine NE [] .z .a [] (.bool false) ?_
   exact ⟨by simp [fitsB, *], rfl⟩
 ·refine SR 82 (x.snd == (0 : Int)) false (by simp only [bne_eq_false_iff_eq, beq_eq_false_iff_ne, ne_eq]; omega) ?_
  refine RR [] .z (.d (.d (.k .z))) .a ?_
  refine RZ (NT (RE ?_))
  refine NE [] .z .a [] (.bool false) ?_
  exact ⟨by simp [fitsB, *], rfl⟩
end Go.Proofs.YtgcfomhlgipllaaGreatDoor
namespace Go.Proofs.YtgcfomhlgipllaaGreatDoor
open Go Go.Sx
theorem cname_spec (s : Tx) (hl : s.length ≤ 1048576) : Does Tryz.prog 141 [.string (mkS s)] [gWords] (fun v hp' => v = .bool (nameB s) ∧ hp' = []) := by
 have h := TextName_spec s hl
 unfold tokV at h
 refine fn_enter Tryz.func141 rfl 13 rfl fun w0 h0 => ?_
 refine SQ (RG ?_)
 refine RR [] .z (.i 2 (.bool false) .a) .a ?_
 refine RZ (NT (SQ (RG ?_)))
 refine RR [] (.d (.d .a)) (.i 7 (.agg #[.int .i64 1, .string (mkS s), .int .i64 0, .int .i64 0, .int .i64 0]) (.k .z)) .a ?_
 refine RCG (dst := some 8) .a (h) (GV (GI []) 0 view_ro) ?_
 rintro v _ ⟨rfl, rfl⟩
 cases hb : nameB s with
 | true =>
  refine RR [] .z (.i 4 (.int .i64 0) (.d (.d (.k .a)))) .a ?_
  refine RZ (NT (SQ (RG ?_)))
  refine RR [] .z (.i 2 (.bool true) .z) .a ?_
  refine RZ (NT (RE ?_))
  refine NE [] .z .a [] (.bool true) ?_
  exact ⟨rfl, rfl⟩
 | false =>
  refine RR [] .z (.i 4 (.int .i64 2) (.d (.d (.k .a)))) .a ?_
  refine RZ (NT (SQ (RG ?_)))
  refine RR [] .z (.d (.k .a)) .a ?_
  refine RZ (NT (RE ?_))
  refine NE [] .z .a [] (.bool false) ?_
  exact ⟨rfl, rfl⟩
theorem cplain_spec (s : Tx) (hl : s.length ≤ 1048576) : Does Tryz.prog 88 [.string (mkS s)] [] (fun v hp' => v = .bool (plainB s) ∧ hp' = []) := by
 have h := TextStr_spec s hl
 unfold tokV at h
 refine fn_enter Tryz.func88 rfl 13 rfl fun w0 h0 => ?_
 refine SQ (RG ?_)
 refine RR [] .z (.i 2 (.bool false) .a) .a ?_
 refine RZ (NT (SQ (RG ?_)))
 refine RR [] (.d (.d .a)) (.i 7 (.agg #[.int .i64 3, .string (mkS s), .int .i64 0, .int .i64 0, .int .i64 0]) (.k .z)) .a ?_
 refine RCA (dst := some 8) (h) ?_
 rintro v _ ⟨rfl, rfl⟩
 cases hb : plainB s with
 | true =>
  refine RR [] .z (.i 4 (.int .i64 0) (.d (.d (.k .a)))) .a ?_
  refine RZ (NT (SQ (RG ?_)))
  refine RR [] .z (.i 2 (.bool true) .z) .a ?_
  refine RZ (NT (RE ?_))
  refine NE [] .a .a [] (.bool true) ?_
  exact ⟨rfl, rfl⟩
 | false =>
  refine RR [] .z (.i 4 (.int .i64 2) (.d (.d (.k .a)))) .a ?_
  refine RZ (NT (SQ (RG ?_)))
  refine RR [] .z (.d (.k .a)) .a ?_
  refine RZ (NT (RE ?_))
  refine NE [] .a .a [] (.bool false) ?_
  exact ⟨rfl, rfl⟩
theorem self_spec (s : Tx) : Does Tryz.prog 140 [.string (mkS s)] [] (fun v hp' => v = .string (mkS s) ∧ hp' = []) := by
 refine fn_enter Tryz.func140 rfl 4 rfl fun w0 h0 => ?_
 refine SQ (RG ?_)
 refine RR [] .z (.i 2 (.string ⟨#[]⟩) .a) .a ?_
 refine RZ (NT (SQ (RG ?_)))
 refine RR [] .z (.i 2 (.string (mkS s)) .z) .a ?_
 refine RZ (NT (RE ?_))
 refine NE [] .a .a [] (.string (mkS s)) ?_
 exact ⟨rfl, rfl⟩
theorem right1c_spec (x : ShV) : Does Tryz.prog 91 [.agg (shC x).toArray] [] (fun v hp' => v = .string (mkS x.name) ∧ hp' = []) := by
 unfold shC
 refine fn_enter Tryz.func91 rfl 5 rfl fun w0 h0 => ?_
 refine SQ (RG ?_)
 refine RP [] (.d .a) 1 .z .a 111 [.string (mkS x.name), .slice x.fa x.fields.length x.fc] fun g1 => ?_
 refine RR [] .z (.i 2 (.string ⟨#[]⟩) .a) .a ?_
 refine RZ (NT (SQ (RG ?_)))
 refine RR [0] .z (.i 2 (.string (mkS x.name)) .z) .a ?_
 refine RZ (NT (RE ?_))
 refine NE [] .z .a [] (.string (mkS x.name)) ?_
 exact ⟨rfl, rfl⟩
theorem right2c_spec (x : UnV) : Does Tryz.prog 93 [.agg (unC x).toArray] [] (fun v hp' => v = .string (mkS x.name) ∧ hp' = []) := by
 unfold unC
 refine fn_enter Tryz.func93 rfl 5 rfl fun w0 h0 => ?_
 refine SQ (RG ?_)
 refine RP [] (.d .a) 1 .z .a 59 [.string (mkS x.name), .int .i64 x.params, .int .i64 x.slots, .int .i64 x.stack, .bool x.result, .slice x.ia x.ins.length x.ic, .slice x.va x.vars.length x.vc] fun g1 => ?_
 refine RR [] .z (.i 2 (.string ⟨#[]⟩) .a) .a ?_
 refine RZ (NT (SQ (RG ?_)))
 refine RR [0] .z (.i 2 (.string (mkS x.name)) .z) .a ?_
 refine RZ (NT (RE ?_))
 refine NE [] .z .a [] (.string (mkS x.name)) ?_
 exact ⟨rfl, rfl⟩
theorem keys_take {α : Type} (nm : α → Tx) {l : List α} {i : Nat} (h : i < l.length) : (l.take (i + 1)).map nm = (l.take i).map nm ++ [nm l[i]] := by
 rw [← List.take_append_getElem h, List.map_append]; rfl
set_option maxHeartbeats 4000000 in
theorem apartT_spec (a : Option Addr) (c : Nat) (l : List Tx) (hl : l.length ≤ 1048576) (ht : ∀ x ∈ l, (id x).length ≤ 1048576) :
  Does Tryz.prog 139 [.slice a l.length c, .func (.func 140) #[] #[]] [ro a (strsC l), gWords] (fun v hp' => v = .bool (namesB (l.map id)) ∧ hp' = []) := by
 refine fn_enter Tryz.func139 rfl 38 rfl fun w0 h0 => ?_
 refine SQ (RG ?_)
 refine RR [] .z (.i 4 (.bool false) .a) .a ?_
 refine RZ (NT (SQ (RG ?_)))
 refine wpr_step (step_mkm kvS (dst := some 11) (by kernel_rfl)) ?_
 rintro _ ⟨g1, rfl⟩
 refine RR [] .z (.i 5 (Value.map (some g1)) (.d (.k .a))) .a ?_
 refine RZ (NT (SQ (SQ (RG ?_))))
 refine RR [] .z (.i 14 (.int .i64 0) (.i 13 (.int .i64 (↑l.length : Int)) (.i 12 (.slice a l.length c) (.k (.k (.d (.k .a))))))) .a ?_
 refine RZ (NT (BK ?_))
 refine wpc_loop (X := {x : Nat × List (Tx × Value) // x.1 ≤ l.length ∧ x.2.map (·.1) = (l.take x.1).map id ∧ ∀ j, (hj : j < l.length) → j < x.1 → nameB (id l[j]) = true ∧ id l[j] ∉ (l.take j).map id}) (fun x => St.mk [(14, .int .i64 (x.1.1 : Int)), (13, .int .i64 l.length), (12, .slice a l.length c), (5, .map (some g1)), (4, .bool false), (1, .func (.func 140) #[] #[])] [ro a (strsC l), gWords, mp kvS g1 x.1.2]) (fun x => l.length - x.1.1) ⟨(0, []), Nat.zero_le _, rfl, fun j _ h => absurd h (Nat.not_lt_zero _)⟩ (ent_fr (by kernel_rfl)) ?_
 rintro ⟨⟨i, m⟩, hi, hm, hall⟩
 dsimp only at hi hm hall ⊢
 by_cases hlt : i < l.length
 ·refine wpc_fact (fun w h => ro_addr h 0 rfl (by rw [strsC_len]; omega)) ?_
  rintro ⟨g0, o0, rfl⟩
  have hti := ht _ (List.getElem_mem hlt)
  refine SQ (RG ?_)
  refine RR [] .z (.i 15 (.bool (decide ((↑i : Int) < (↑l.length : Int)))) .a) .a ?_
  refine RZ (NT (SQ ?_))
  refine SC 15 (decide ((↑i : Int) < (↑l.length : Int))) true (decide_eq_true (by omega)) ?_
  refine CT (SK (NT (SQ (BK (SQ (RG ?_))))))
  refine RV true [] (.d (.d .a)) (.i 17 (.pointer (some ⟨g0, o0 + i * 1, none⟩)) (.i 16 (.int .i64 (↑i : Int)) (.d (.d (.k .a))))) .a [(0 : Int) ≤ (↑i : Int) ∧ (↑i : Int) < (↑l.length : Int)] ⟨by omega, trivial⟩ ?_
  refine wpr_eq (ld (t := 9) (a := ⟨g0, o0 + i * 1, none⟩) (dst := some 18) (by kernel_rfl) false 1 (by kernel_rfl) (by simp) ([.string (mkS l[i])]) rfl (fun w h => ld_ro h 0 rfl (i * 1) (strs_at hlt))) ?_
  refine RR [] .z (.i 7 (.string (mkS l[i])) (.i 6 (.int .i64 (↑i : Int)) (.d (.d (.d (.k .a)))))) .a ?_
  refine RZ (NT (SQ (RG ?_)))
  refine RR [] (.d (.d .a)) (.i 20 (.string (mkS l[i])) (.i 19 (Value.func (Fn.func 140) #[] #[]) (.d (.k .a)))) .a ?_
  refine wpr_callv (dst := some 21) (rest := [ro (some ⟨g0, o0, none⟩) (strsC l), gWords, mp kvS g1 m]) (first := (#[])) (caps := (#[])) (args := [.string (mkS l[i])]) (f := 140) (by kernel_rfl) (by kernel_rfl) (self_spec l[i]) (give [] (by kernel_rfl)) ?_
  rintro v _ ⟨rfl, rfl⟩
  refine RR [] .z (.i 8 (.string (mkS l[i])) (.d (.d (.d (.k .a))))) .a ?_
  refine RZ (NT (SQ (SQ (RG ?_))))
  refine RR [] (.d (.d .a)) (.i 24 (.string (mkS l[i])) (.i 23 (Value.map (some g1)) .a)) .a ?_
  refine wpr_eq (step_look (t := 221) (g := g1) (k := 9) (z := (.int .i64 0)) (kw := (.string (mkS l[i]))) (ok := true) (dst := some 25) (by kernel_rfl) (by kernel_rfl) (keysS (by kernel_rfl)) (id l[i]) rfl 2 (l := m) (by kernel_rfl)) ?_
  by_cases hin : id l[i] ∈ (l.take i).map id
  ·have hbad : namesB (l.map id) = false := namesB_bad (i := i) (by rw [List.length_map]; exact hlt) (.inr (by rw [List.getElem_map, ← List.map_take]; exact hin))
   rw [hbad]
   obtain ⟨w, hw⟩ : ∃ w, mlook (id l[i]) m = some w := by
    cases h : mlook (id l[i]) m with
    | some w => exact ⟨w, rfl⟩
    | none => exact absurd hin (hm ▸ (mlook_none _ _).1 h)
   rw [hw]
   refine RR [] .z (.i 10 (.bool true) (.d (.d (.d (.k .a))))) .a ?_
   refine RZ (NT (SQ (RG ?_)))
   refine RR [] .z (.i 33 (.bool true) (.d (.k .a))) .a ?_
   refine RZ (NT (CT (SQ (RG ?_))))
   refine RR [] .z (.i 4 (.bool false) (.d (.k (.k (.k (.k (.k (.k (.d (.k .a)))))))))) .a ?_
   refine RZ (NT (RE (TR (BR (TR (TR (BR (TR ?_))))))))
   refine NE [] .z .a [] (.bool false) ?_
   exact ⟨rfl, rfl⟩
  ·have hw : mlook (id l[i]) m = none := (mlook_none _ _).2 (by rw [hm]; exact hin)
   rw [hw]
   refine RR [] .z (.i 10 (.bool false) (.d (.d (.d (.k .a))))) .a ?_
   refine RZ (NT (SQ (RG ?_)))
   refine RR [] (.d (.d (.d .a))) (.i 30 (.string (mkS l[i])) (.i 29 (.bool false) (.d (.k .a)))) .a ?_
   refine RCG (dst := some 31) .a (cname_spec (id l[i]) hti) (GV (GI []) 1 view_ro) ?_
   rintro v _ ⟨rfl, rfl⟩
   cases hb : nameB (id l[i]) with
   | false =>
    have hbad : namesB (l.map id) = false := namesB_bad (i := i) (by rw [List.length_map]; exact hlt) (.inl (by rw [List.getElem_map]; exact hb))
    rw [hbad]
    refine RR [] .z (.i 33 (.bool true) (.d (.d (.d (.k .a))))) .a ?_
    refine RZ (NT (CT (SQ (RG ?_))))
    refine RR [] .z (.i 4 (.bool false) (.d (.k (.k (.k (.k (.k (.k (.d (.k .a)))))))))) .a ?_
    refine RZ (NT (RE (TR (BR (TR (TR (BR (TR ?_))))))))
    refine NE [] .z .a [] (.bool false) ?_
    exact ⟨rfl, rfl⟩
   | true =>
    refine RR [] .z (.i 33 (.bool false) (.d (.d (.d (.k .a))))) .a ?_
    refine RZ (NT (CF (SK (NT (RG ?_)))))
    refine RR [] (.d (.d (.d .a))) (.i 36 (.int .i64 (↑i : Int)) (.i 35 (.string (mkS l[i])) (.i 34 (Value.map (some g1)) (.d (.d (.d (.k .a))))))) .a ?_
    refine wpr_eq (step_mput (t := 221) (g := g1) (k := 9) (z := (.int .i64 0)) (kw := (.string (mkS l[i]))) (v := (.int .i64 (↑i : Int))) (dst := none) (by kernel_rfl) (by kernel_rfl) (keysS (by kernel_rfl)) (id l[i]) rfl 2 (l := m) (by kernel_rfl) hw) ?_
    refine RZ (BN (NT (RG ?_)))
    refine RV true [] .z (.i 14 (.int .i64 ((↑i : Int) + 1)) (.d (.d (.d (.d (.k .a)))))) .a ([inI64 ((↑i : Int) + (1 : Int))]) ⟨by unfold inI64; omega, trivial⟩ ?_
    refine RZ ?_
    exact fun a' w' hS' => ⟨⟨(i + 1, m ++ [(id l[i], .int .i64 (i : Int))]), hlt, by dsimp only; rw [List.map_append, hm, keys_take id hlt]; rfl, fun j hj h => by
              rcases Nat.lt_or_ge j i with h1 | h1
              · exact hall j hj h1
              · obtain rfl : j = i := by dsimp only at h; omega
                exact ⟨hb, hin⟩⟩, by dsimp only; omega, ent_fr (by kernel_rfl) _ _ (ent_hp [0, 0, 0] rfl _ _ hS')⟩
 ·obtain rfl : i = l.length := by omega
  have hok : namesB (l.map id) = true := namesB_ok fun j hj => by
   rw [List.length_map] at hj
   rw [List.getElem_map, ← List.map_take]
   exact hall j hj hj
  rw [hok]
  refine SQ (RG ?_)
  refine RR [] .z (.i 15 (.bool (decide ((↑l.length : Int) < (↑l.length : Int)))) .a) .a ?_
  refine RZ (NT (SQ ?_))
  refine SC 15 (decide ((↑l.length : Int) < (↑l.length : Int))) false (by simp) ?_
  refine CF (EX (TE (TE (BH (NT (SQ (RG ?_)))))))
  refine RR [] .z (.i 4 (.bool true) .z) .a ?_
  refine RZ (NT (RE ?_))
  refine NE [] .z .a [] (.bool true) ?_
  exact ⟨rfl, rfl⟩
set_option maxHeartbeats 4000000 in
theorem apartS_spec (a : Option Addr) (c : Nat) (l : List ShV) (hl : l.length ≤ 1048576) (ht : ∀ x ∈ l, (ShV.name x).length ≤ 1048576) :
  Does Tryz.prog 90 [.slice a l.length c, .func (.func 91) #[] #[]] [ro a (l.flatMap shC), gWords] (fun v hp' => v = .bool (namesB (l.map ShV.name)) ∧ hp' = []) := by
 refine fn_enter Tryz.func90 rfl 38 rfl fun w0 h0 => ?_
 refine SQ (RG ?_)
 refine RR [] .z (.i 4 (.bool false) .a) .a ?_
 refine RZ (NT (SQ (RG ?_)))
 refine wpr_step (step_mkm kvS (dst := some 11) (by kernel_rfl)) ?_
 rintro _ ⟨g1, rfl⟩
 refine RR [] .z (.i 5 (Value.map (some g1)) (.d (.k .a))) .a ?_
 refine RZ (NT (SQ (SQ (RG ?_))))
 refine RR [] .z (.i 14 (.int .i64 0) (.i 13 (.int .i64 (↑l.length : Int)) (.i 12 (.slice a l.length c) (.k (.k (.d (.k .a))))))) .a ?_
 refine RZ (NT (BK ?_))
 refine wpc_loop (X := {x : Nat × List (Tx × Value) // x.1 ≤ l.length ∧ x.2.map (·.1) = (l.take x.1).map ShV.name ∧ ∀ j, (hj : j < l.length) → j < x.1 → nameB (ShV.name l[j]) = true ∧ ShV.name l[j] ∉ (l.take j).map ShV.name}) (fun x => St.mk [(14, .int .i64 (x.1.1 : Int)), (13, .int .i64 l.length), (12, .slice a l.length c), (5, .map (some g1)), (4, .bool false), (1, .func (.func 91) #[] #[])] [ro a (l.flatMap shC), gWords, mp kvS g1 x.1.2]) (fun x => l.length - x.1.1) ⟨(0, []), Nat.zero_le _, rfl, fun j _ h => absurd h (Nat.not_lt_zero _)⟩ (ent_fr (by kernel_rfl)) ?_
 rintro ⟨⟨i, m⟩, hi, hm, hall⟩
 dsimp only at hi hm hall ⊢
 by_cases hlt : i < l.length
 ·refine wpc_fact (fun w h => ro_addr h 0 rfl (by rw [shs_len]; omega)) ?_
  rintro ⟨g0, o0, rfl⟩
  have hti := ht _ (List.getElem_mem hlt)
  refine SQ (RG ?_)
  refine RR [] .z (.i 15 (.bool (decide ((↑i : Int) < (↑l.length : Int)))) .a) .a ?_
  refine RZ (NT (SQ ?_))
  refine SC 15 (decide ((↑i : Int) < (↑l.length : Int))) true (decide_eq_true (by omega)) ?_
  refine CT (SK (NT (SQ (BK (SQ (RG ?_))))))
  refine RV true [] (.d (.d .a)) (.i 17 (.pointer (some ⟨g0, o0 + i * 2, none⟩)) (.i 16 (.int .i64 (↑i : Int)) (.d (.d (.k .a))))) .a [(0 : Int) ≤ (↑i : Int) ∧ (↑i : Int) < (↑l.length : Int)] ⟨by omega, trivial⟩ ?_
  refine wpr_eq (ld (t := 111) (a := ⟨g0, o0 + i * 2, none⟩) (dst := some 18) (by kernel_rfl) true 2 (by kernel_rfl) (by simp) (shC l[i]) rfl (fun w h => ld_ro h 0 rfl (i * 2) (shs_at hlt))) ?_
  refine RP [] (.d .a) 7 (.i 18 (.agg #[.string (mkS l[i].name), .slice l[i].fa l[i].fields.length l[i].fc]) (.d (.d (.k .a)))) .a 111 [.string ⟨#[]⟩, .slice none 0 0] fun g2 => ?_
  refine RR [3, 3] .z (.i 6 (.int .i64 (↑i : Int)) (.k (.d (.d (.k .a))))) (.k (.k (.k (.u (.i (.string (mkS l[i].name)) (.i (.slice l[i].fa l[i].fields.length l[i].fc) .z)) .a)))) ?_
  refine RZ (NT (SQ (RG ?_)))
  refine RR [3, 3] (.d (.d .a)) (.i 20 (.agg #[.string (mkS l[i].name), .slice l[i].fa l[i].fields.length l[i].fc]) (.i 19 (Value.func (Fn.func 91) #[] #[]) (.k (.d (.k .a))))) .a ?_
  refine wpr_callv (dst := some 21) (rest := [ro (some ⟨g0, o0, none⟩) (List.flatMap shC l), gWords, mp kvS g1 m, .blk g2 111 [.string (mkS l[i].name), .slice l[i].fa l[i].fields.length l[i].fc]]) (first := (#[])) (caps := (#[])) (args := [.agg #[.string (mkS l[i].name), .slice l[i].fa l[i].fields.length l[i].fc]]) (f := 91) (by kernel_rfl) (by kernel_rfl) (right1c_spec l[i]) (give [] (by kernel_rfl)) ?_
  rintro v _ ⟨rfl, rfl⟩
  refine RR [] .z (.i 8 (.string (mkS l[i].name)) (.d (.d (.d (.k .a))))) .a ?_
  refine RZ (NT (SQ (SQ (RG ?_))))
  refine RR [] (.d (.d .a)) (.i 24 (.string (mkS l[i].name)) (.i 23 (Value.map (some g1)) .a)) .a ?_
  refine wpr_eq (step_look (t := 221) (g := g1) (k := 9) (z := (.int .i64 0)) (kw := (.string (mkS l[i].name))) (ok := true) (dst := some 25) (by kernel_rfl) (by kernel_rfl) (keysS (by kernel_rfl)) (ShV.name l[i]) rfl 2 (l := m) (by kernel_rfl)) ?_
  by_cases hin : ShV.name l[i] ∈ (l.take i).map ShV.name
  ·have hbad : namesB (l.map ShV.name) = false := namesB_bad (i := i) (by rw [List.length_map]; exact hlt) (.inr (by rw [List.getElem_map, ← List.map_take]; exact hin))
   rw [hbad]
   obtain ⟨w, hw⟩ : ∃ w, mlook (ShV.name l[i]) m = some w := by
    cases h : mlook (ShV.name l[i]) m with
    | some w => exact ⟨w, rfl⟩
    | none => exact absurd hin (hm ▸ (mlook_none _ _).1 h)
   rw [hw]
   refine RR [] .z (.i 10 (.bool true) (.d (.d (.d (.k .a))))) .a ?_
   refine RZ (NT (SQ (RG ?_)))
   refine RR [] .z (.i 33 (.bool true) (.d (.k .a))) .a ?_
   refine RZ (NT (CT (SQ (RG ?_))))
   refine RR [] .z (.i 4 (.bool false) (.d (.k (.k (.k (.k (.k (.k (.d (.k .a)))))))))) .a ?_
   refine RZ (NT (RE (TR (BR (TR (TR (BR (TR ?_))))))))
   refine NE [] .z .a [] (.bool false) ?_
   exact ⟨rfl, rfl⟩
  ·have hw : mlook (ShV.name l[i]) m = none := (mlook_none _ _).2 (by rw [hm]; exact hin)
   rw [hw]
   refine RR [] .z (.i 10 (.bool false) (.d (.d (.d (.k .a))))) .a ?_
   refine RZ (NT (SQ (RG ?_)))
   refine RR [] (.d (.d (.d .a))) (.i 30 (.string (mkS l[i].name)) (.i 29 (.bool false) (.d (.k .a)))) .a ?_
   refine RCG (dst := some 31) .a (cname_spec (ShV.name l[i]) hti) (GV (GI []) 1 view_ro) ?_
   rintro v _ ⟨rfl, rfl⟩
   cases hb : nameB (ShV.name l[i]) with
   | false =>
    have hbad : namesB (l.map ShV.name) = false := namesB_bad (i := i) (by rw [List.length_map]; exact hlt) (.inl (by rw [List.getElem_map]; exact hb))
    rw [hbad]
    refine RR [] .z (.i 33 (.bool true) (.d (.d (.d (.k .a))))) .a ?_
    refine RZ (NT (CT (SQ (RG ?_))))
    refine RR [] .z (.i 4 (.bool false) (.d (.k (.k (.k (.k (.k (.k (.d (.k .a)))))))))) .a ?_
    refine RZ (NT (RE (TR (BR (TR (TR (BR (TR ?_))))))))
    refine NE [] .z .a [] (.bool false) ?_
    exact ⟨rfl, rfl⟩
   | true =>
    refine RR [] .z (.i 33 (.bool false) (.d (.d (.d (.k .a))))) .a ?_
    refine RZ (NT (CF (SK (NT (RG ?_)))))
    refine RR [] (.d (.d (.d .a))) (.i 36 (.int .i64 (↑i : Int)) (.i 35 (.string (mkS l[i].name)) (.i 34 (Value.map (some g1)) (.d (.d (.d (.k .a))))))) .a ?_
    refine wpr_eq (step_mput (t := 221) (g := g1) (k := 9) (z := (.int .i64 0)) (kw := (.string (mkS l[i].name))) (v := (.int .i64 (↑i : Int))) (dst := none) (by kernel_rfl) (by kernel_rfl) (keysS (by kernel_rfl)) (ShV.name l[i]) rfl 2 (l := m) (by kernel_rfl) hw) ?_
    refine RZ (BN (NT (RG ?_)))
    refine RV true [] .z (.i 14 (.int .i64 ((↑i : Int) + 1)) (.d (.d (.d (.d (.k .a)))))) .a ([inI64 ((↑i : Int) + (1 : Int))]) ⟨by unfold inI64; omega, trivial⟩ ?_
    refine RZ ?_
    exact fun a' w' hS' => ⟨⟨(i + 1, m ++ [(ShV.name l[i], .int .i64 (i : Int))]), hlt, by dsimp only; rw [List.map_append, hm, keys_take ShV.name hlt]; rfl, fun j hj h => by
              rcases Nat.lt_or_ge j i with h1 | h1
              · exact hall j hj h1
              · obtain rfl : j = i := by dsimp only at h; omega
                exact ⟨hb, hin⟩⟩, by dsimp only; omega, ent_fr (by kernel_rfl) _ _ (ent_hp [0, 0, 0] rfl _ _ hS')⟩
 ·obtain rfl : i = l.length := by omega
  have hok : namesB (l.map ShV.name) = true := namesB_ok fun j hj => by
   rw [List.length_map] at hj
   rw [List.getElem_map, ← List.map_take]
   exact hall j hj hj
  rw [hok]
  refine SQ (RG ?_)
  refine RR [] .z (.i 15 (.bool (decide ((↑l.length : Int) < (↑l.length : Int)))) .a) .a ?_
  refine RZ (NT (SQ ?_))
  refine SC 15 (decide ((↑l.length : Int) < (↑l.length : Int))) false (by simp) ?_
  refine CF (EX (TE (TE (BH (NT (SQ (RG ?_)))))))
  refine RR [] .z (.i 4 (.bool true) .z) .a ?_
  refine RZ (NT (RE ?_))
  refine NE [] .z .a [] (.bool true) ?_
  exact ⟨rfl, rfl⟩
set_option maxHeartbeats 4000000 in
theorem apartU_spec (a : Option Addr) (c : Nat) (l : List UnV) (hl : l.length ≤ 1048576) (ht : ∀ x ∈ l, (UnV.name x).length ≤ 1048576) :
  Does Tryz.prog 92 [.slice a l.length c, .func (.func 93) #[] #[]] [ro a (l.flatMap unC), gWords] (fun v hp' => v = .bool (namesB (l.map UnV.name)) ∧ hp' = []) := by
 refine fn_enter Tryz.func92 rfl 38 rfl fun w0 h0 => ?_
 refine SQ (RG ?_)
 refine RR [] .z (.i 4 (.bool false) .a) .a ?_
 refine RZ (NT (SQ (RG ?_)))
 refine wpr_step (step_mkm kvS (dst := some 11) (by kernel_rfl)) ?_
 rintro _ ⟨g1, rfl⟩
 refine RR [] .z (.i 5 (Value.map (some g1)) (.d (.k .a))) .a ?_
 refine RZ (NT (SQ (SQ (RG ?_))))
 refine RR [] .z (.i 14 (.int .i64 0) (.i 13 (.int .i64 (↑l.length : Int)) (.i 12 (.slice a l.length c) (.k (.k (.d (.k .a))))))) .a ?_
 refine RZ (NT (BK ?_))
 refine wpc_loop (X := {x : Nat × List (Tx × Value) // x.1 ≤ l.length ∧ x.2.map (·.1) = (l.take x.1).map UnV.name ∧ ∀ j, (hj : j < l.length) → j < x.1 → nameB (UnV.name l[j]) = true ∧ UnV.name l[j] ∉ (l.take j).map UnV.name}) (fun x => St.mk [(14, .int .i64 (x.1.1 : Int)), (13, .int .i64 l.length), (12, .slice a l.length c), (5, .map (some g1)), (4, .bool false), (1, .func (.func 93) #[] #[])] [ro a (l.flatMap unC), gWords, mp kvS g1 x.1.2]) (fun x => l.length - x.1.1) ⟨(0, []), Nat.zero_le _, rfl, fun j _ h => absurd h (Nat.not_lt_zero _)⟩ (ent_fr (by kernel_rfl)) ?_
 rintro ⟨⟨i, m⟩, hi, hm, hall⟩
 dsimp only at hi hm hall ⊢
 by_cases hlt : i < l.length
 ·refine wpc_fact (fun w h => ro_addr h 0 rfl (by rw [uns_len]; omega)) ?_
  rintro ⟨g0, o0, rfl⟩
  have hti := ht _ (List.getElem_mem hlt)
  refine SQ (RG ?_)
  refine RR [] .z (.i 15 (.bool (decide ((↑i : Int) < (↑l.length : Int)))) .a) .a ?_
  refine RZ (NT (SQ ?_))
  refine SC 15 (decide ((↑i : Int) < (↑l.length : Int))) true (decide_eq_true (by omega)) ?_
  refine CT (SK (NT (SQ (BK (SQ (RG ?_))))))
  refine RV true [] (.d (.d .a)) (.i 17 (.pointer (some ⟨g0, o0 + i * 7, none⟩)) (.i 16 (.int .i64 (↑i : Int)) (.d (.d (.k .a))))) .a [(0 : Int) ≤ (↑i : Int) ∧ (↑i : Int) < (↑l.length : Int)] ⟨by omega, trivial⟩ ?_
  refine wpr_eq (ld (t := 59) (a := ⟨g0, o0 + i * 7, none⟩) (dst := some 18) (by kernel_rfl) true 7 (by kernel_rfl) (by simp) (unC l[i]) rfl (fun w h => ld_ro h 0 rfl (i * 7) (uns_at hlt))) ?_
  refine RP [] (.d .a) 7 (.i 18 (.agg #[.string (mkS l[i].name), .int .i64 l[i].params, .int .i64 l[i].slots, .int .i64 l[i].stack, .bool l[i].result, .slice l[i].ia l[i].ins.length l[i].ic, .slice l[i].va l[i].vars.length l[i].vc]) (.d (.d (.k .a)))) .a 59 [.string ⟨#[]⟩, .int .i64 0, .int .i64 0, .int .i64 0, .bool false, .slice none 0 0, .slice none 0 0] fun g2 => ?_
  refine RR [3, 3, 3, 3, 3, 3, 3] .z (.i 6 (.int .i64 (↑i : Int)) (.k (.d (.d (.k .a))))) (.k (.k (.k (.u (.i (.string (mkS l[i].name)) (.i (.int .i64 l[i].params) (.i (.int .i64 l[i].slots) (.i (.int .i64 l[i].stack) (.i (.bool l[i].result) (.i (.slice l[i].ia l[i].ins.length l[i].ic) (.i (.slice l[i].va l[i].vars.length l[i].vc) .z))))))) .a)))) ?_
  refine RZ (NT (SQ (RG ?_)))
  refine RR [3, 3, 3, 3, 3, 3, 3] (.d (.d .a)) (.i 20 (.agg #[.string (mkS l[i].name), .int .i64 l[i].params, .int .i64 l[i].slots, .int .i64 l[i].stack, .bool l[i].result, .slice l[i].ia l[i].ins.length l[i].ic, .slice l[i].va l[i].vars.length l[i].vc]) (.i 19 (Value.func (Fn.func 93) #[] #[]) (.k (.d (.k .a))))) .a ?_
  refine wpr_callv (dst := some 21) (rest := [ro (some ⟨g0, o0, none⟩) (List.flatMap unC l), gWords, mp kvS g1 m, .blk g2 59 [.string (mkS l[i].name), .int .i64 l[i].params, .int .i64 l[i].slots, .int .i64 l[i].stack, .bool l[i].result, .slice l[i].ia l[i].ins.length l[i].ic, .slice l[i].va l[i].vars.length l[i].vc]]) (first := (#[])) (caps := (#[])) (args := [.agg #[.string (mkS l[i].name), .int .i64 l[i].params, .int .i64 l[i].slots, .int .i64 l[i].stack, .bool l[i].result, .slice l[i].ia l[i].ins.length l[i].ic, .slice l[i].va l[i].vars.length l[i].vc]]) (f := 93) (by kernel_rfl) (by kernel_rfl) (right2c_spec l[i]) (give [] (by kernel_rfl)) ?_
  rintro v _ ⟨rfl, rfl⟩
  refine RR [] .z (.i 8 (.string (mkS l[i].name)) (.d (.d (.d (.k .a))))) .a ?_
  refine RZ (NT (SQ (SQ (RG ?_))))
  refine RR [] (.d (.d .a)) (.i 24 (.string (mkS l[i].name)) (.i 23 (Value.map (some g1)) .a)) .a ?_
  refine wpr_eq (step_look (t := 221) (g := g1) (k := 9) (z := (.int .i64 0)) (kw := (.string (mkS l[i].name))) (ok := true) (dst := some 25) (by kernel_rfl) (by kernel_rfl) (keysS (by kernel_rfl)) (UnV.name l[i]) rfl 2 (l := m) (by kernel_rfl)) ?_
  by_cases hin : UnV.name l[i] ∈ (l.take i).map UnV.name
  ·have hbad : namesB (l.map UnV.name) = false := namesB_bad (i := i) (by rw [List.length_map]; exact hlt) (.inr (by rw [List.getElem_map, ← List.map_take]; exact hin))
   rw [hbad]
   obtain ⟨w, hw⟩ : ∃ w, mlook (UnV.name l[i]) m = some w := by
    cases h : mlook (UnV.name l[i]) m with
    | some w => exact ⟨w, rfl⟩
    | none => exact absurd hin (hm ▸ (mlook_none _ _).1 h)
   rw [hw]
   refine RR [] .z (.i 10 (.bool true) (.d (.d (.d (.k .a))))) .a ?_
   refine RZ (NT (SQ (RG ?_)))
   refine RR [] .z (.i 33 (.bool true) (.d (.k .a))) .a ?_
   refine RZ (NT (CT (SQ (RG ?_))))
   refine RR [] .z (.i 4 (.bool false) (.d (.k (.k (.k (.k (.k (.k (.d (.k .a)))))))))) .a ?_
   refine RZ (NT (RE (TR (BR (TR (TR (BR (TR ?_))))))))
   refine NE [] .z .a [] (.bool false) ?_
   exact ⟨rfl, rfl⟩
  ·have hw : mlook (UnV.name l[i]) m = none := (mlook_none _ _).2 (by rw [hm]; exact hin)
   rw [hw]
   refine RR [] .z (.i 10 (.bool false) (.d (.d (.d (.k .a))))) .a ?_
   refine RZ (NT (SQ (RG ?_)))
   refine RR [] (.d (.d (.d .a))) (.i 30 (.string (mkS l[i].name)) (.i 29 (.bool false) (.d (.k .a)))) .a ?_
   refine RCG (dst := some 31) .a (cname_spec (UnV.name l[i]) hti) (GV (GI []) 1 view_ro) ?_
   rintro v _ ⟨rfl, rfl⟩
   cases hb : nameB (UnV.name l[i]) with
   | false =>
    have hbad : namesB (l.map UnV.name) = false := namesB_bad (i := i) (by rw [List.length_map]; exact hlt) (.inl (by rw [List.getElem_map]; exact hb))
    rw [hbad]
    refine RR [] .z (.i 33 (.bool true) (.d (.d (.d (.k .a))))) .a ?_
    refine RZ (NT (CT (SQ (RG ?_))))
    refine RR [] .z (.i 4 (.bool false) (.d (.k (.k (.k (.k (.k (.k (.d (.k .a)))))))))) .a ?_
    refine RZ (NT (RE (TR (BR (TR (TR (BR (TR ?_))))))))
    refine NE [] .z .a [] (.bool false) ?_
    exact ⟨rfl, rfl⟩
   | true =>
    refine RR [] .z (.i 33 (.bool false) (.d (.d (.d (.k .a))))) .a ?_
    refine RZ (NT (CF (SK (NT (RG ?_)))))
    refine RR [] (.d (.d (.d .a))) (.i 36 (.int .i64 (↑i : Int)) (.i 35 (.string (mkS l[i].name)) (.i 34 (Value.map (some g1)) (.d (.d (.d (.k .a))))))) .a ?_
    refine wpr_eq (step_mput (t := 221) (g := g1) (k := 9) (z := (.int .i64 0)) (kw := (.string (mkS l[i].name))) (v := (.int .i64 (↑i : Int))) (dst := none) (by kernel_rfl) (by kernel_rfl) (keysS (by kernel_rfl)) (UnV.name l[i]) rfl 2 (l := m) (by kernel_rfl) hw) ?_
    refine RZ (BN (NT (RG ?_)))
    refine RV true [] .z (.i 14 (.int .i64 ((↑i : Int) + 1)) (.d (.d (.d (.d (.k .a)))))) .a ([inI64 ((↑i : Int) + (1 : Int))]) ⟨by unfold inI64; omega, trivial⟩ ?_
    refine RZ ?_
    exact fun a' w' hS' => ⟨⟨(i + 1, m ++ [(UnV.name l[i], .int .i64 (i : Int))]), hlt, by dsimp only; rw [List.map_append, hm, keys_take UnV.name hlt]; rfl, fun j hj h => by
              rcases Nat.lt_or_ge j i with h1 | h1
              · exact hall j hj h1
              · obtain rfl : j = i := by dsimp only at h; omega
                exact ⟨hb, hin⟩⟩, by dsimp only; omega, ent_fr (by kernel_rfl) _ _ (ent_hp [0, 0, 0] rfl _ _ hS')⟩
 ·obtain rfl : i = l.length := by omega
  have hok : namesB (l.map UnV.name) = true := namesB_ok fun j hj => by
   rw [List.length_map] at hj
   rw [List.getElem_map, ← List.map_take]
   exact hall j hj hj
  rw [hok]
  refine SQ (RG ?_)
  refine RR [] .z (.i 15 (.bool (decide ((↑l.length : Int) < (↑l.length : Int)))) .a) .a ?_
  refine RZ (NT (SQ ?_))
  refine SC 15 (decide ((↑l.length : Int) < (↑l.length : Int))) false (by simp) ?_
  refine CF (EX (TE (TE (BH (NT (SQ (RG ?_)))))))
  refine RR [] .z (.i 4 (.bool true) .z) .a ?_
  refine RZ (NT (RE ?_))
  refine NE [] .z .a [] (.bool true) ?_
  exact ⟨rfl, rfl⟩
end Go.Proofs.YtgcfomhlgipllaaGreatDoor
namespace Go.Proofs.YtgcfomhlgipllaaGreatDoor
open Go Go.Sx
theorem unit1_spec (c : CoV) (u : UnV) (x : InP) (g1 g2 : Nat) : Does Tryz.prog 143 [.agg (insC x).toArray, .pointer (some ⟨g1, 0, none⟩), .pointer (some ⟨g2, 0, none⟩)] [ro (some ⟨g1, 0, none⟩) (coC c), ro (some ⟨g2, 0, none⟩) (unC u)] (fun v hp' => v = .bool (!fitsB c.p u.p x) ∧ hp' = []) := by
 have h := fits_spec c u x
 unfold insC coC unC at h
 unfold insC
 refine fn_enter Tryz.func143 rfl 10 rfl fun w0 h0 => ?_
 refine SQ (RG ?_)
 refine RP [] (.d .a) 3 (.d (.k .a)) .a 62 [.int .i64 x.fst, .int .i64 x.snd] fun g3 => ?_
 refine RR [] .z (.i 4 (.bool false) .a) .a ?_
 refine RZ (NT (SQ (RG ?_)))
 refine wpr_eq (ld (t := 26) (a := ⟨g1, 0, none⟩) (dst := some 5) (by kernel_rfl) true 4 (by kernel_rfl) (by simp) (coC c) rfl (fun w h => ld_ro h 0 rfl 0 rfl)) ?_
 refine wpr_eq (ld (t := 59) (a := ⟨g2, 0, none⟩) (dst := some 6) (by kernel_rfl) true 7 (by kernel_rfl) (by simp) (unC u) rfl (fun w h => ld_ro h 1 rfl 0 rfl)) ?_
 refine RR [2, 2] (.d .a) (.i 7 (.agg #[.int .i64 x.fst, .int .i64 x.snd]) (.i 6 (.agg #[.string (mkS u.name), .int .i64 u.params, .int .i64 u.slots, .int .i64 u.stack, .bool u.result, .slice u.ia u.ins.length u.ic, .slice u.va u.vars.length u.vc]) (.i 5 (.agg #[.slice c.sa c.strs.length c.sc, .slice c.ha c.shapes.length c.hc, .slice c.ua c.units.length c.uc, .int .i64 c.main]) (.d (.d (.k .z)))))) .a ?_
 refine RC (dst := some 8) [] .a (h) ?_
 rintro v _ ⟨rfl, rfl⟩
 refine RR [] .z (.i 4 (.bool !fitsB c.p u.p x) .z) .a ?_
 refine RZ (NT (RE ?_))
 refine NE [] .z .a [] (.bool !fitsB c.p u.p x) ?_
 exact ⟨rfl, rfl⟩
theorem IndexFuncI_spec (c : CoV) (u : UnV) (l : List InP) (a : Option Addr) (ac : Nat) (g1 g2 : Nat) (hl : l.length ≤ 1048576) : Does Tryz.prog 179 [.slice a l.length ac, .func (.func 143) #[] #[.pointer (some ⟨g1, 0, none⟩), .pointer (some ⟨g2, 0, none⟩)]] [ro a (l.flatMap insC), ro (some ⟨g1, 0, none⟩) (coC c), ro (some ⟨g2, 0, none⟩) (unC u)] (fun v hp' => ∃ n : Int, v = .int .i64 n ∧ (0 ≤ n ↔ l.all (fitsB c.p u.p) = false) ∧ hp' = []) := by
 refine fn_enter Tryz.func179 rfl 19 rfl fun w0 h0 => ?_
 refine SQ (RG ?_)
 refine RR [] .z (.i 4 (.int .i64 0) .a) .a ?_
 refine RZ (NT (SQ (SQ (RG ?_))))
 refine RR [] .z (.i 8 (.int .i64 0) (.i 7 (.int .i64 (↑l.length : Int)) .a)) .a ?_
 refine RZ (NT (BK ?_))
 refine wpc_loop (X := {n : Nat // ∃ h : n ≤ l.length, ∀ j, (hj : j < n) → fitsB c.p u.p (l[j]'(by omega)) = true}) (fun x => St.mk [(8, .int .i64 (x.1 : Int)), (7, .int .i64 l.length), (4, .int .i64 0), (0, .slice a l.length ac), (1, .func (.func 143) #[] #[.pointer (some ⟨g1, 0, none⟩), .pointer (some ⟨g2, 0, none⟩)])] [ro a (l.flatMap insC), ro (some ⟨g1, 0, none⟩) (coC c), ro (some ⟨g2, 0, none⟩) (unC u)]) (fun x => l.length - x.1) ⟨0, Nat.zero_le _, fun j h => absurd h (Nat.not_lt_zero _)⟩ (ent_fr (by kernel_rfl)) ?_
 rintro ⟨n, hn, hall⟩
 dsimp only at hn hall ⊢
 by_cases hlt : n < l.length
 ·refine wpc_fact (fun w h => ro_addr h 0 rfl (by rw [ins_len]; omega)) ?_
  rintro ⟨g0, o0, rfl⟩
  have hf := unit1_spec c u l[n] g1 g2
  unfold insC at hf
  refine SQ (RG ?_)
  refine RR [] .z (.i 9 (.bool (decide ((↑n : Int) < (↑l.length : Int)))) .a) .a ?_
  refine RZ (NT (SQ ?_))
  refine SC 9 (decide ((↑n : Int) < (↑l.length : Int))) true (decide_eq_true (by omega)) ?_
  refine CT (SK (NT (SQ (BK (SQ (RG ?_))))))
  refine RR [] .z (.i 5 (.int .i64 (↑n : Int)) (.d (.d (.k .a)))) .a ?_
  refine RZ (NT (SQ (RG ?_)))
  refine RV true [] (.d (.d (.d (.d .a)))) (.i 14 (.pointer (some ⟨g0, o0 + n * 2, none⟩)) (.i 11 (Value.func (Fn.func 143) #[] #[.pointer (some ⟨g1, 0, none⟩), .pointer (some ⟨g2, 0, none⟩)]) .a)) .a [(0 : Int) ≤ (↑n : Int) ∧ (↑n : Int) < (↑l.length : Int)] ⟨by omega, trivial⟩ ?_
  refine wpr_eq (ld (t := 62) (a := ⟨g0, o0 + n * 2, none⟩) (dst := some 15) (by kernel_rfl) true 2 (by kernel_rfl) (by simp) (insC l[n]) rfl (fun w h => ld_ro h 0 rfl (n * 2) (ins_at hlt))) ?_
  refine RCG (dst := some 16) .a (hf) (GV (GV (GI []) 2 view_ro) 1 view_ro) ?_
  rintro v _ ⟨rfl, rfl⟩
  cases hok : fitsB c.p u.p l[n] with
  | true =>
   refine RZ (NT (CF (SK (BN (NT (RG ?_))))))
   refine RV true [] .z (.i 8 (.int .i64 ((↑n : Int) + 1)) (.d (.d (.d (.d (.d (.d (.k .a)))))))) .a ([inI64 ((↑n : Int) + (1 : Int))]) ⟨by unfold inI64; omega, trivial⟩ ?_
   refine RZ ?_
   exact fun a' w' hS' => ⟨⟨n + 1, hlt, fun j hj => by
       rcases Nat.lt_or_ge j n with h | h
       ·exact hall j h
       ·obtain rfl : j = n := by omega
        exact hok⟩, by dsimp only; omega, ent_fr (by kernel_rfl) _ _ (ent_hp [0, 0, 0] rfl _ _ hS')⟩
  | false =>
   refine RZ (NT (CT (SQ (RG ?_))))
   refine RR [] .z (.i 4 (.int .i64 (↑n : Int)) (.d (.d (.d (.d (.d (.k (.k (.d (.k .a)))))))))) .a ?_
   refine RZ (NT (RE (BR (TR (TR (BR (TR ?_)))))))
   refine NE [] .z .a [] (.int .i64 (↑n : Int)) ?_
   refine ⟨_, rfl, ⟨fun _ => ?_, fun _ => by omega⟩, rfl⟩
   cases h : l.all (fitsB c.p u.p) with
   | false => rfl
   | true =>
    have h2 := List.all_eq_true.1 h l[n] (List.getElem_mem hlt)
    rw [hok] at h2; cases h2
 ·refine SQ (RG ?_)
  refine RR [] .z (.i 9 (.bool (decide ((↑n : Int) < (↑l.length : Int)))) .a) .a ?_
  refine RZ (NT (SQ ?_))
  refine SC 9 (decide ((↑n : Int) < (↑l.length : Int))) false (decide_eq_false (by omega)) ?_
  refine CF (EX (TE (TE (BH (NT (SQ (RG ?_)))))))
  refine RR [] .z (.i 4 (.int .i64 (-1)) .z) .a ?_
  refine RZ (NT (RE ?_))
  refine NE [] .z .a [] (.int .i64 (-1)) ?_
  refine ⟨-1, rfl, ⟨fun h => absurd h (by decide), fun h => ?_⟩, rfl⟩
  have : l.all (fitsB c.p u.p) = true := List.all_eq_true.2 fun x hx => by
   obtain ⟨j, hj⟩ := List.getElem?_of_mem hx
   obtain ⟨hj1, rfl⟩ := List.getElem?_eq_some_iff.1 hj
   exact hall j (by omega)
  rw [this] at h; cases h
theorem ContainsFuncI_spec (c : CoV) (u : UnV) (l : List InP) (a : Option Addr) (ac : Nat) (g1 g2 : Nat) (hl : l.length ≤ 1048576) : Does Tryz.prog 142 [.slice a l.length ac, .func (.func 143) #[] #[.pointer (some ⟨g1, 0, none⟩), .pointer (some ⟨g2, 0, none⟩)]] [ro a (l.flatMap insC), ro (some ⟨g1, 0, none⟩) (coC c), ro (some ⟨g2, 0, none⟩) (unC u)] (fun v hp' => v = .bool (!l.all (fitsB c.p u.p)) ∧ hp' = []) := by
 refine fn_enter Tryz.func142 rfl 9 rfl fun w0 h0 => ?_
 refine SQ (RG ?_)
 refine RR [] .z (.i 4 (.bool false) .a) .a ?_
 refine RZ (NT (SQ (RG ?_)))
 refine RR [] (.d (.d .a)) (.i 6 (Value.func (Fn.func 143) #[] #[.pointer (some ⟨g1, 0, none⟩), .pointer (some ⟨g2, 0, none⟩)]) (.i 5 (.slice a l.length ac) (.k .z))) .a ?_
 refine RCG (dst := some 7) .a (IndexFuncI_spec c u l a ac g1 g2 hl) (GV (GV (GV (GI []) 2 view_ro) 1 view_ro) 0 view_ro) ?_
 rintro v _ ⟨n, rfl, hn, rfl⟩
 refine RR [] .z (.i 4 (.bool (decide (n ≥ (0 : Int)))) .z) .a ?_
 refine RZ (NT (RE ?_))
 refine NE [] .z .a [] (.bool (decide (n ≥ 0))) ?_
 refine ⟨?_, rfl⟩
 cases h : l.all (fitsB c.p u.p) with
 | true =>
  have h0 : ¬ 0 ≤ n := fun h2 => by have := hn.1 h2; rw [h] at this; cases this
  simp [h0]
 | false =>
  have h0 : 0 ≤ n := hn.2 h
  simp [h0]
theorem coC_one (c : CoV) : Sx.One (coC c) := by
 intro v hv
 simp only [coC, List.mem_cons, List.not_mem_nil, or_false] at hv
 rcases hv with rfl | rfl | rfl | rfl <;> rfl
theorem unC_one (u : UnV) : Sx.One (unC u) := by
 intro v hv
 simp only [unC, List.mem_cons, List.not_mem_nil, or_false] at hv
 rcases hv with rfl | rfl | rfl | rfl | rfl | rfl | rfl <;> rfl
set_option maxHeartbeats 8000000 in
theorem unit_spec (c : CoV) (u : UnV) (hu : u.ok) : Does Tryz.prog 94 [.agg (coC c).toArray, .agg (unC u).toArray] [ro u.ia (u.ins.flatMap insC), ro u.va (u.vars.flatMap varC), gWords] (fun v hp' => v = .bool (unitB c.p u.p) ∧ hp' = []) := by
 obtain ⟨hu0, hu1, hu2, hu3, hil, hvl, hio, hvo⟩ := hu
 have hno : headU u.p = false → unitB c.p u.p = false := fun h => by unfold unitB; rw [h]; rfl
 have hnh : ¬ (0 ≤ u.params ∧ u.params ≤ 8 ∧ u.params ≤ u.slots ∧ u.slots ≤ 32 ∧ 0 ≤ u.stack ∧ u.stack ≤ 256 ∧ 1 ≤ u.ins.length ∧ u.ins.length ≤ 4096) → unitB c.p u.p = false := fun h => hno (by
  cases h2 : headU u.p with
  | false => rfl
  | true => exact absurd ((headU_iff u.p).1 h2) h)
 unfold coC unC
 refine fn_enter Tryz.func94 rfl 92 rfl fun w0 h0 => ?_
 refine SQ (RG ?_)
 refine RP [] (.d .a) 2 (.d (.k .a)) .a 26 [.slice c.sa c.strs.length c.sc, .slice c.ha c.shapes.length c.hc, .slice c.ua c.units.length c.uc, .int .i64 c.main] fun g1 => ?_
 refine RP [] (.d .a) 3 (.k .z) .a 59 [.string (mkS u.name), .int .i64 u.params, .int .i64 u.slots, .int .i64 u.stack, .bool u.result, .slice u.ia u.ins.length u.ic, .slice u.va u.vars.length u.vc] fun g2 => ?_
 refine RR [] .z (.i 4 (.bool false) .a) .a ?_
 refine RZ (NT (SQ (RG ?_)))
 refine RR [4] .z (.i 5 (.int .i64 (↑u.ins.length : Int)) .a) .a ?_
 refine RZ (NT (SQ (SQ (RG ?_))))
 refine RR [4] (.d (.d (.d (.d .a)))) (.i 14 (.bool (decide (u.params < (0 : Int)))) .a) .a ?_
 by_cases k0 : ¬ 0 ≤ u.params
 ·rw [hnh (fun h => k0 h.1)]
  refine SR 14 (decide (u.params < (0 : Int))) true (decide_eq_true (by omega)) ?_
  refine RR [] .z (.i 48 (.bool true) (.d (.d (.k .a)))) .a ?_
  refine RZ (NT (CT (SQ (RG ?_))))
  refine RR [] .z (.i 4 (.bool false) (.d (.k (.d (.k .a))))) .a ?_
  refine RZ (NT (RE (TR ?_)))
  refine NE [] .z .a [] (.bool false) ?_
  exact ⟨rfl, rfl⟩
 rw [Decidable.not_not] at k0
 refine SR 14 (decide (u.params < (0 : Int))) false (decide_eq_false (by omega)) ?_
 refine RR [4] (.d (.d (.d (.d (.d .a))))) (.i 19 (.bool (decide (u.params > (8 : Int)))) (.d (.d (.k .a)))) .a ?_
 by_cases k1 : ¬ u.params ≤ 8
 ·rw [hnh (fun h => k1 h.2.1)]
  refine SR 19 (decide (u.params > (8 : Int))) true (decide_eq_true (by omega)) ?_
  refine RR [] .z (.i 48 (.bool true) (.d (.d (.k .a)))) .a ?_
  refine RZ (NT (CT (SQ (RG ?_))))
  refine RR [] .z (.i 4 (.bool false) (.d (.k (.d (.k .a))))) .a ?_
  refine RZ (NT (RE (TR ?_)))
  refine NE [] .z .a [] (.bool false) ?_
  exact ⟨rfl, rfl⟩
 rw [Decidable.not_not] at k1
 refine SR 19 (decide (u.params > (8 : Int))) false (decide_eq_false (by omega)) ?_
 refine RR [4, 4] (.d (.d (.d (.d (.d (.d (.d .a))))))) (.i 26 (.bool (decide (u.slots < u.params))) (.d (.d (.k .a)))) .a ?_
 by_cases k2 : ¬ u.params ≤ u.slots
 ·rw [hnh (fun h => k2 h.2.2.1)]
  refine SR 26 (decide (u.slots < u.params)) true (decide_eq_true (by omega)) ?_
  refine RR [] .z (.i 48 (.bool true) (.d (.d (.k .a)))) .a ?_
  refine RZ (NT (CT (SQ (RG ?_))))
  refine RR [] .z (.i 4 (.bool false) (.d (.k (.d (.k .a))))) .a ?_
  refine RZ (NT (RE (TR ?_)))
  refine NE [] .z .a [] (.bool false) ?_
  exact ⟨rfl, rfl⟩
 rw [Decidable.not_not] at k2
 refine SR 26 (decide (u.slots < u.params)) false (decide_eq_false (by omega)) ?_
 refine RR [4] (.d (.d (.d (.d (.d .a))))) (.i 31 (.bool (decide (u.slots > (32 : Int)))) (.d (.d (.k .a)))) .a ?_
 by_cases k3 : ¬ u.slots ≤ 32
 ·rw [hnh (fun h => k3 h.2.2.2.1)]
  refine SR 31 (decide (u.slots > (32 : Int))) true (decide_eq_true (by omega)) ?_
  refine RR [] .z (.i 48 (.bool true) (.d (.d (.k .a)))) .a ?_
  refine RZ (NT (CT (SQ (RG ?_))))
  refine RR [] .z (.i 4 (.bool false) (.d (.k (.d (.k .a))))) .a ?_
  refine RZ (NT (RE (TR ?_)))
  refine NE [] .z .a [] (.bool false) ?_
  exact ⟨rfl, rfl⟩
 rw [Decidable.not_not] at k3
 refine SR 31 (decide (u.slots > (32 : Int))) false (decide_eq_false (by omega)) ?_
 refine RR [4] (.d (.d (.d (.d (.d .a))))) (.i 36 (.bool (decide (u.stack < (0 : Int)))) (.d (.d (.k .a)))) .a ?_
 by_cases k4 : ¬ 0 ≤ u.stack
 ·rw [hnh (fun h => k4 h.2.2.2.2.1)]
  refine SR 36 (decide (u.stack < (0 : Int))) true (decide_eq_true (by omega)) ?_
  refine RR [] .z (.i 48 (.bool true) (.d (.d (.k .a)))) .a ?_
  refine RZ (NT (CT (SQ (RG ?_))))
  refine RR [] .z (.i 4 (.bool false) (.d (.k (.d (.k .a))))) .a ?_
  refine RZ (NT (RE (TR ?_)))
  refine NE [] .z .a [] (.bool false) ?_
  exact ⟨rfl, rfl⟩
 rw [Decidable.not_not] at k4
 refine SR 36 (decide (u.stack < (0 : Int))) false (decide_eq_false (by omega)) ?_
 refine RR [4] (.d (.d (.d (.d (.d .a))))) (.i 41 (.bool (decide (u.stack > (256 : Int)))) (.d (.d (.k .a)))) .a ?_
 by_cases k5 : ¬ u.stack ≤ 256
 ·rw [hnh (fun h => k5 h.2.2.2.2.2.1)]
  refine SR 41 (decide (u.stack > (256 : Int))) true (decide_eq_true (by omega)) ?_
  refine RR [] .z (.i 48 (.bool true) (.d (.d (.k .a)))) .a ?_
  refine RZ (NT (CT (SQ (RG ?_))))
  refine RR [] .z (.i 4 (.bool false) (.d (.k (.d (.k .a))))) .a ?_
  refine RZ (NT (RE (TR ?_)))
  refine NE [] .z .a [] (.bool false) ?_
  exact ⟨rfl, rfl⟩
 rw [Decidable.not_not] at k5
 refine SR 41 (decide (u.stack > (256 : Int))) false (decide_eq_false (by omega)) ?_
 refine RR [] (.d (.d (.d (.d .a)))) (.i 45 (.bool (decide ((↑u.ins.length : Int) < (1 : Int)))) (.d (.d (.k .a)))) .a ?_
 by_cases k6 : ¬ 1 ≤ u.ins.length
 ·rw [hnh (fun h => k6 h.2.2.2.2.2.2.1)]
  refine SR 45 (decide ((↑u.ins.length : Int) < (1 : Int))) true (decide_eq_true (by omega)) ?_
  refine RR [] .z (.i 48 (.bool true) (.d (.d (.k .a)))) .a ?_
  refine RZ (NT (CT (SQ (RG ?_))))
  refine RR [] .z (.i 4 (.bool false) (.d (.k (.d (.k .a))))) .a ?_
  refine RZ (NT (RE (TR ?_)))
  refine NE [] .z .a [] (.bool false) ?_
  exact ⟨rfl, rfl⟩
 rw [Decidable.not_not] at k6
 refine SR 45 (decide ((↑u.ins.length : Int) < (1 : Int))) false (decide_eq_false (by omega)) ?_
 refine RR [] .z (.i 48 (.bool (decide ((↑u.ins.length : Int) > (4096 : Int)))) (.d (.d (.k .a)))) .a ?_
 refine RZ (NT ?_)
 by_cases k7 : ¬ u.ins.length ≤ 4096
 ·rw [hnh (fun h => k7 h.2.2.2.2.2.2.2)]
  refine SC 48 (decide ((↑u.ins.length : Int) > (4096 : Int))) true (decide_eq_true (by omega)) ?_
  refine CT (SQ (RG ?_))
  refine RR [] .z (.i 4 (.bool false) (.d (.d (.k (.d (.k .a)))))) .a ?_
  refine RZ (NT (RE (TR ?_)))
  refine NE [] .z .a [] (.bool false) ?_
  exact ⟨rfl, rfl⟩
 rw [Decidable.not_not] at k7
 have hhd : headU u.p = true := (headU_iff u.p).2 ⟨k0, k1, k2, k3, k4, k5, k6, k7⟩
 refine SC 48 (decide ((↑u.ins.length : Int) > (4096 : Int))) false (decide_eq_false (by omega)) ?_
 refine CF (SK (NT (SQ (SQ (RG ?_)))))
 refine RR [4] .z (.i 52 (.int .i64 0) (.i 51 (.int .i64 (↑u.vars.length : Int)) (.i 50 (.slice u.va u.vars.length u.vc) (.d (.d (.k .a)))))) .a ?_
 refine RZ (NT (BK ?_))
 have hub : unitB c.p u.p = (u.vars.all (varB u.p) && u.ins.all (fitsB c.p u.p)) := by unfold unitB; rw [hhd]; rfl
 rw [hub]
 refine wpc_loop (X := {i : Nat // ∃ h : i ≤ u.vars.length, ∀ j, (hj : j < i) → varB u.p (u.vars[j]'(by omega)) = true}) (fun x => St.mk [(52, .int .i64 (x.1 : Int)), (51, .int .i64 u.vars.length), (50, .slice u.va u.vars.length u.vc), (5, .int .i64 u.ins.length), (4, .bool false), (3, .pointer (some ⟨g2, 0, none⟩)), (2, .pointer (some ⟨g1, 0, none⟩))]
  [ro u.ia (u.ins.flatMap insC), ro u.va (u.vars.flatMap varC), gWords, .blk g1 26 (coC c), .blk g2 59 (unC u)]) (fun x => u.vars.length - x.1) ⟨0, Nat.zero_le _, fun j h => absurd h (Nat.not_lt_zero _)⟩ (ent_fr (by kernel_rfl)) ?_
 rintro ⟨i, hi, hall⟩
 dsimp only at hi hall ⊢
 by_cases hlt : i < u.vars.length
 ·have hbad : varB u.p u.vars[i] = false → (u.vars.all (varB u.p) && u.ins.all (fitsB c.p u.p)) = false := fun h => by
   have : u.vars.all (varB u.p) = false := by
    cases h2 : u.vars.all (varB u.p) with
    | false => rfl
    | true => rw [List.all_eq_true.1 h2 _ (List.getElem_mem hlt)] at h; cases h
   rw [this]; rfl
  obtain ⟨w1, w2, w3, w4⟩ := hvo _ (List.getElem_mem hlt)
  have hnm := cname_spec u.vars[i].name w1
  refine wpc_fact (fun w h => ro_addr h 1 rfl (by rw [vars_len]; omega)) ?_
  rintro ⟨g0, o0, hva⟩
  rw [hva]
  refine SQ (RG ?_)
  refine RR [] .z (.i 53 (.bool (decide ((↑i : Int) < (↑u.vars.length : Int)))) .a) (.k (.k (.k (.u .a (.u .a .a))))) ?_
  refine RZ (NT (SQ ?_))
  refine SC 53 (decide ((↑i : Int) < (↑u.vars.length : Int))) true (decide_eq_true (by omega)) ?_
  refine CT (SK (NT (SQ (BK (SQ (RG ?_))))))
  refine RV true [] (.d .a) (.i 54 (.pointer (some ⟨g0, o0 + i * 4, none⟩)) (.d (.d (.k .a)))) (.k (.k (.k (.u .a (.u .a .a))))) [(0 : Int) ≤ (↑i : Int) ∧ (↑i : Int) < (↑u.vars.length : Int)] ⟨by omega, trivial⟩ ?_
  refine wpr_eq (ld (t := 116) (a := ⟨g0, o0 + i * 4, none⟩) (dst := some 55) (by kernel_rfl) true 4 (by kernel_rfl) (by simp) (varC u.vars[i]) rfl (fun w h => ld_ro h 1 rfl (i * 4) (vars_at hlt))) ?_
  refine RP [] (.d .a) 7 (.i 55 (.agg #[.string (mkS u.vars[i].name), .int .i64 u.vars[i].slot, .int .i64 u.vars[i].fr, .int .i64 u.vars[i].to]) (.d (.d (.k .a)))) (.k (.k (.k (.u .a (.u .a .a))))) 116 [.string ⟨#[]⟩, .int .i64 0, .int .i64 0, .int .i64 0] fun g3 => ?_
  refine RR [5, 5, 5, 5] .z (.k (.d (.k .a))) (.k (.k (.k (.u .a (.u .a (.u (.i (.string (mkS u.vars[i].name)) (.i (.int .i64 u.vars[i].slot) (.i (.int .i64 u.vars[i].fr) (.i (.int .i64 u.vars[i].to) .z)))) .a)))))) ?_
  refine RZ (NT (SQ (RG ?_)))
  refine RR [5] (.d (.d .a)) (.i 57 (.string (mkS u.vars[i].name)) .a) (.k (.k (.k (.u .a (.u .a .a))))) ?_
  refine RCG (dst := some 58) (.k (.k (.k (.u .a (.u .a .a))))) (hnm) (GV (GI []) 2 view_ro) ?_
  rintro v _ ⟨rfl, rfl⟩
  cases k8 : nameB u.vars[i].name with
  | false =>
   rw [hbad (by unfold varB; rw [k8]; rfl)]
   refine RR [] .z (.i 85 (.bool true) (.d (.d (.d (.k .a))))) (.k (.k (.k (.u .a (.u .a .a))))) ?_
   refine RZ (NT (CT (SQ (RG ?_))))
   refine RR [] .z (.i 4 (.bool false) (.d (.k (.k (.k (.k (.d (.k .a)))))))) (.k (.k (.k (.u .a (.u .a .a))))) ?_
   refine RZ (NT (RE (BR (TR (TR (BR (TR ?_)))))))
   refine NE [] .z (.k (.k (.k (.u .a (.u .a .a))))) [] (.bool false) ?_
   exact ⟨rfl, rfl⟩
  | true =>
  refine RR [5, 4] (.d (.d (.d (.d (.d (.d .a)))))) (.i 64 (.int .i64 u.slots) (.i 62 (.int .i64 u.vars[i].slot) (.i 60 (.bool false) (.d (.d (.k .a)))))) (.k (.k (.k (.u .a (.u .a .a))))) ?_
  refine RC (dst := some 65) [] (.k (.k (.k (.u .a (.u .a .a))))) (upto_spec u.vars[i].slot u.slots) ?_
  rintro v _ ⟨rfl, rfl⟩
  cases k9 : uptoB u.vars[i].slot u.slots with
  | false =>
   rw [hbad (by unfold varB UnV.p; dsimp only; rw [k9]; simp)]
   refine RR [] .z (.i 85 (.bool true) (.d (.d (.d (.d (.d (.k .a))))))) (.k (.k (.k (.u .a (.u .a .a))))) ?_
   refine RZ (NT (CT (SQ (RG ?_))))
   refine RR [] .z (.i 4 (.bool false) (.d (.k (.k (.k (.k (.d (.k .a)))))))) (.k (.k (.k (.u .a (.u .a .a))))) ?_
   refine RZ (NT (RE (BR (TR (TR (BR (TR ?_)))))))
   refine NE [] .z (.k (.k (.k (.u .a (.u .a .a))))) [] (.bool false) ?_
   exact ⟨rfl, rfl⟩
  | true =>
  refine RR [5] (.d (.d (.d (.d (.d (.d (.d (.d .a)))))))) (.i 73 (.bool (decide (u.vars[i].fr < (0 : Int)))) (.d (.d (.d (.d (.k .a)))))) (.k (.k (.k (.u .a (.u .a .a))))) ?_
  by_cases k10 : ¬ 0 ≤ u.vars[i].fr
  ·rw [hbad (by unfold varB; rw [decide_eq_false k10]; simp)]
   refine SR 73 (decide (u.vars[i].fr < (0 : Int))) true (decide_eq_true (by omega)) ?_
   refine RR [] .z (.i 85 (.bool true) (.d (.d (.d (.k .a))))) (.k (.k (.k (.u .a (.u .a .a))))) ?_
   refine RZ (NT (CT (SQ (RG ?_))))
   refine RR [] .z (.i 4 (.bool false) (.d (.k (.k (.k (.k (.d (.k .a)))))))) (.k (.k (.k (.u .a (.u .a .a))))) ?_
   refine RZ (NT (RE (BR (TR (TR (BR (TR ?_)))))))
   refine NE [] .z (.k (.k (.k (.u .a (.u .a .a))))) [] (.bool false) ?_
   exact ⟨rfl, rfl⟩
  rw [Decidable.not_not] at k10
  refine SR 73 (decide (u.vars[i].fr < (0 : Int))) false (decide_eq_false (by omega)) ?_
  refine RR [5, 5] (.d (.d (.d (.d (.d (.d (.d .a))))))) (.i 80 (.bool (decide (u.vars[i].fr > u.vars[i].to))) (.d (.d (.k .a)))) (.k (.k (.k (.u .a (.u .a .a))))) ?_
  by_cases k11 : ¬ u.vars[i].fr ≤ u.vars[i].to
  ·rw [hbad (by unfold varB; rw [decide_eq_false k11]; simp)]
   refine SR 80 (decide (u.vars[i].fr > u.vars[i].to)) true (decide_eq_true (by omega)) ?_
   refine RR [] .z (.i 85 (.bool true) (.d (.d (.d (.k .a))))) (.k (.k (.k (.u .a (.u .a .a))))) ?_
   refine RZ (NT (CT (SQ (RG ?_))))
   refine RR [] .z (.i 4 (.bool false) (.d (.k (.k (.k (.k (.d (.k .a)))))))) (.k (.k (.k (.u .a (.u .a .a))))) ?_
   refine RZ (NT (RE (BR (TR (TR (BR (TR ?_)))))))
   refine NE [] .z (.k (.k (.k (.u .a (.u .a .a))))) [] (.bool false) ?_
   exact ⟨rfl, rfl⟩
  rw [Decidable.not_not] at k11
  refine SR 80 (decide (u.vars[i].fr > u.vars[i].to)) false (decide_eq_false (by omega)) ?_
  refine RR [5] .z (.i 85 (.bool (decide (u.vars[i].to > (↑u.ins.length : Int)))) (.d (.d (.d (.k .a))))) (.k (.k (.k (.u .a (.u .a .a))))) ?_
  refine RZ (NT ?_)
  by_cases k12 : ¬ u.vars[i].to ≤ u.ins.length
  ·rw [hbad (by unfold varB UnV.p; dsimp only; rw [decide_eq_false k12]; simp)]
   refine SC 85 (decide (u.vars[i].to > (↑u.ins.length : Int))) true (decide_eq_true (by omega)) ?_
   refine CT (SQ (RG ?_))
   refine RR [] .z (.i 4 (.bool false) (.d (.d (.k (.k (.k (.k (.d (.k .a))))))))) (.k (.k (.k (.u .a (.u .a .a))))) ?_
   refine RZ (NT (RE (BR (TR (TR (BR (TR ?_)))))))
   refine NE [] .z (.k (.k (.k (.u .a (.u .a .a))))) [] (.bool false) ?_
   exact ⟨rfl, rfl⟩
  rw [Decidable.not_not] at k12
  refine SC 85 (decide (u.vars[i].to > (↑u.ins.length : Int))) false (decide_eq_false (by omega)) ?_
  refine CF (SK (BN (NT (RG ?_))))
  refine RV true [] .z (.i 52 (.int .i64 ((↑i : Int) + 1)) (.d (.d (.d (.k .a))))) (.k (.k (.k (.u .a (.u .a .a))))) ([inI64 ((↑i : Int) + (1 : Int))]) ⟨by unfold inI64; omega, trivial⟩ ?_
  refine RZ ?_
  rw [← hva]
  exact fun a' w' hS' => ⟨⟨i + 1, hlt, fun j hj => by
     rcases Nat.lt_or_ge j i with h | h
     ·exact hall j h
     ·obtain rfl : j = i := by omega
      unfold varB UnV.p; dsimp only
      rw [k8, k9, decide_eq_true k10, decide_eq_true k11, decide_eq_true k12]; rfl⟩, by dsimp only; omega, ent_fr (by kernel_rfl) _ _ (ent_hp [0, 0, 0, 0, 0] rfl _ _ hS')⟩
 ·obtain rfl : i = u.vars.length := by omega
  have hvall : u.vars.all (varB u.p) = true := List.all_eq_true.2 fun x hx => by
   obtain ⟨j, hj⟩ := List.getElem?_of_mem hx
   obtain ⟨hj1, rfl⟩ := List.getElem?_eq_some_iff.1 hj
   exact hall j (by omega)
  rw [hvall]
  refine SQ (RG ?_)
  refine RR [] .z (.i 53 (.bool (decide ((↑u.vars.length : Int) < (↑u.vars.length : Int)))) .a) (.k (.k (.k (.u .a (.u .a .a))))) ?_
  refine RZ (NT (SQ ?_))
  refine SC 53 (decide ((↑u.vars.length : Int) < (↑u.vars.length : Int))) false (by simp) ?_
  refine CF (EX (TE (TE (BH (NT (SQ (RG ?_)))))))
  refine RR [4] (.d (.d (.d .a))) (.i 89 (Value.func (Fn.func 143) #[] #[.pointer (some ⟨g1, 0, none⟩), .pointer (some ⟨g2, 0, none⟩)]) (.i 88 (.slice u.ia u.ins.length u.ic) (.d (.d (.d (.d (.d (.d (.k .z))))))))) (.k (.k (.k (.u .a (.u .a .a))))) ?_
  refine wpr_ent (ent_turn 3 (ro (some ⟨g1, 0, none⟩) (coC c)) rfl (turn_rblk (l := coC c) (coC_one c)) rfl) ?_
  refine wpr_ent (ent_turn 4 (ro (some ⟨g2, 0, none⟩) (unC u)) rfl (turn_rblk (l := unC u) (unC_one u)) rfl) ?_
  refine RCG (dst := some 90) .a (ContainsFuncI_spec c u u.ins u.ia u.ic g1 g2 hil) (GV (GV (GV (GI []) 4 view_ro) 3 view_ro) 0 view_ro) ?_
  rintro v _ ⟨rfl, rfl⟩
  refine RR [] .z (.i 4 (.bool !!u.ins.all (fitsB c.p u.p)) .z) .a ?_
  refine RZ (NT (RE ?_))
  refine NE [] .z .a [] (.bool !!u.ins.all (fitsB c.p u.p)) ?_
  exact ⟨by simp, rfl⟩
end Go.Proofs.YtgcfomhlgipllaaGreatDoor
namespace Go.Proofs.YtgcfomhlgipllaaGreatDoor
open Go Go.Sx
theorem mvs22 {c : CoV} {j : Nat} (h : j < c.units.length) : mvs c.p (22, (j : Int)) = (c.units[j].params, oneI c.units[j].result) := by
 have e : c.p.units[j]? = some c.units[j].p := by show (c.units.map UnV.p)[j]? = _; rw [List.getElem?_map, List.getElem?_eq_getElem h]; rfl
 simp [mvs, e, UnV.p]
theorem mvs25 {c : CoV} {j : Nat} (h : j < c.shapes.length) : mvs c.p (25, (j : Int)) = ((c.shapes[j].fields.length : Int), 1) := by
 have e : c.p.shapes[j]? = some c.shapes[j].p := by show (c.shapes.map ShV.p)[j]? = _; rw [List.getElem?_map, List.getElem?_eq_getElem h]; rfl
 simp [mvs, e, ShV.p]
set_option maxHeartbeats 8000000 in
theorem moves22_spec (c : CoV) (hul : c.units.length ≤ 1048576) (j : Nat) (hj : j < c.units.length) :
  Does Tryz.prog 97 [.agg (coC c).toArray, .agg (insC (22, (j : Int))).toArray] [ro c.ua (c.units.flatMap unC), ro c.ha (c.shapes.flatMap shC)] (fun v hp' => v = .tuple #[.int .i64 (mvs c.p (22, (j : Int))).1, .int .i64 (mvs c.p (22, (j : Int))).2] ∧ hp' = []) := by
 rw [mvs22 hj]
 unfold coC insC
 dsimp only
 refine fn_enter Tryz.func97 rfl 67 rfl fun w0 h0 => ?_
 refine wpc_fact (fun w h => ro_addr h 0 rfl (by rw [uns_len]; omega)) ?_
 rintro ⟨g9, o9, hua⟩
 rw [hua]
 refine SQ (RG ?_)
 refine RP [] (.d .a) 2 (.d (.k .a)) .a 26 [.slice c.sa c.strs.length c.sc, .slice c.ha c.shapes.length c.hc, .slice (some ⟨g9, o9, none⟩) c.units.length c.uc, .int .i64 c.main] fun g1 => ?_
 refine RP [] (.d .a) 3 (.k .z) .a 62 [.int .i64 22, .int .i64 (↑j : Int)] fun g2 => ?_
 refine RR [] .z (.i 5 (.int .i64 0) (.i 4 (.int .i64 0) .a)) .a ?_
 refine RZ (NT (SQ (SQ (RG ?_))))
 refine RR [3] .z (.i 7 (.int .i64 22) .a) .a ?_
 refine RZ (NT (BK (SQ (SQ (RG ?_)))))
 refine RR [] .z (.i 8 (.bool false) .a) .a ?_
 refine RZ (NT (CF (RG ?_)))
 refine RR [] .z .a .a ?_
 refine RZ (NT (CF (SQ (SQ (RG ?_)))))
 refine RR [] .z (.i 11 (.bool false) (.d (.k .a))) .a ?_
 refine RZ (NT (CF (SQ (RG ?_))))
 refine RR [] .z .a .a ?_
 refine RZ (NT (CF (SQ (RG ?_))))
 refine RR [] .z .a .a ?_
 refine RZ (NT (CF (SQ (RG ?_))))
 refine RR [] .z .a .a ?_
 refine RZ (NT (CF (RG ?_)))
 refine RR [] .z .a .a ?_
 refine RZ (NT (CF (SQ (SQ (RG ?_)))))
 refine RR [] .z (.i 17 (.bool false) (.d (.k .a))) .a ?_
 refine RZ (NT (CF (SQ (RG ?_))))
 refine RR [] .z .a .a ?_
 refine RZ (NT (CF (RG ?_)))
 refine RR [] .z .a .a ?_
 refine RZ (NT (CF (SQ (SQ (RG ?_)))))
 refine RR [] .z (.i 21 (.bool false) (.d (.k .a))) .a ?_
 refine RZ (NT (CF (SQ (RG ?_))))
 refine RR [] .z .a .a ?_
 refine RZ (NT (CF (SQ (RG ?_))))
 refine RR [] .z .a .a ?_
 refine RZ (NT (CF (SQ (RG ?_))))
 refine RR [] .z .a .a ?_
 refine RZ (NT (CF (RG ?_)))
 refine RR [] .z .a .a ?_
 refine RZ (NT (CF (SQ (RG ?_))))
 refine RR [] .z (.i 27 (.bool true) (.d (.k .a))) .a ?_
 refine RZ (NT (CT (SQ ?_)))
 refine wpc_draw (by kernel_rfl) [ro (some ⟨g9, o9, none⟩) (List.flatMap unC c.units), .blk g1 26 [.slice c.sa c.strs.length c.sc, .slice c.ha c.shapes.length c.hc, .slice (some ⟨g9, o9, none⟩) c.units.length c.uc, .int .i64 c.main], .blk g2 62 [.int .i64 22, .int .i64 (↑j : Int)]] (sub_of [0, 2, 3] (by kernel_rfl)) 17 (by kernel_rfl) ?_
 refine wpa_take true [(0, []), (1, [1]), (2, []), (3, [2]), (4, []), (5, []), (7, []), (8, [1]), (9, []), (10, [2]), (11, []), (12, [])] ([(41, .pointer (some ⟨g9, o9 + j * 7 + 4, none⟩)), (34, .pointer (some ⟨g9, o9 + j * 7 + 1, none⟩)), (5, .int .i64 0), (4, .int .i64 0)]) (#[true, true, true, true, true, true, false, true, true, true, true, true, true, false, false, false, false]) [(0 : Int) ≤ (↑j : Int) ∧ (↑j : Int) < (↑c.units.length : Int), (0 : Int) ≤ (↑j : Int) ∧ (↑j : Int) < (↑c.units.length : Int)] (n := 5) (by kernel_rfl) (by kernel_rfl) (by kernel_rfl) ⟨by omega, by omega, trivial⟩ ?_
 refine wpa_qld (i := 6) (n := 4) (by kernel_rfl) (by kernel_rfl) (by kernel_rfl) (t := 3) (a := ⟨g9, o9 + j * 7 + 1, none⟩) (dst := some 35) (by kernel_rfl) false 1 (by kernel_rfl) (by simp) [.int .i64 c.units[j].params] rfl (fun w h => ld_roL h 0 rfl (j * 7 + 1) (uns_fld hj 1 1 (by decide))) ?_
 refine wpa_qld (i := 13) (n := 3) (by kernel_rfl) (by kernel_rfl) (by kernel_rfl) (t := 4) (a := ⟨g9, o9 + j * 7 + 4, none⟩) (dst := some 42) (by kernel_rfl) false 1 (by kernel_rfl) (by simp) [.bool c.units[j].result] rfl (fun w h => ld_roL h 0 rfl (j * 7 + 4) (uns_fld hj 4 1 (by decide))) ?_
 refine AC (dst := some 43) 2 14 .a (one_spec c.units[j].result) (GI []) [0, 2, 3] ?_
 rintro v _ ⟨rfl, rfl⟩
 refine TK 0 [(15, []), (16, [])] (.i 5 (.int .i64 (oneI c.units[j].result)) (.i 4 (.int .i64 c.units[j].params) .z)) (#[true, true, true, true, true, true, true, true, true, true, true, true, true, true, true, true, true]) ?_
 refine wpa_done 0 (by kernel_rfl) ?_
 refine NT (RE (BR (TR ?_)))
 refine NE [] .z .a [] (.tuple #[.int .i64 c.units[j].params, .int .i64 (oneI c.units[j].result)]) ?_
 exact ⟨rfl, rfl⟩
set_option maxHeartbeats 8000000 in
theorem moves25_spec (c : CoV) (hsl : c.shapes.length ≤ 1048576) (hfl : ∀ s ∈ c.shapes, s.fields.length ≤ 1048576) (j : Nat) (hj : j < c.shapes.length) :
  Does Tryz.prog 97 [.agg (coC c).toArray, .agg (insC (25, (j : Int))).toArray] [ro c.ua (c.units.flatMap unC), ro c.ha (c.shapes.flatMap shC)] (fun v hp' => v = .tuple #[.int .i64 (mvs c.p (25, (j : Int))).1, .int .i64 (mvs c.p (25, (j : Int))).2] ∧ hp' = []) := by
 have hf := hfl _ (List.getElem_mem hj)
 rw [mvs25 hj]
 unfold coC insC
 dsimp only
 refine fn_enter Tryz.func97 rfl 67 rfl fun w0 h0 => ?_
 refine wpc_fact (fun w h => ro_addr h 1 rfl (by rw [shs_len]; omega)) ?_
 rintro ⟨g9, o9, hua⟩
 rw [hua]
 refine SQ (RG ?_)
 refine RP [] (.d .a) 2 (.d (.k .a)) .a 26 [.slice c.sa c.strs.length c.sc, .slice (some ⟨g9, o9, none⟩) c.shapes.length c.hc, .slice c.ua c.units.length c.uc, .int .i64 c.main] fun g1 => ?_
 refine RP [] (.d .a) 3 (.k .z) .a 62 [.int .i64 25, .int .i64 (↑j : Int)] fun g2 => ?_
 refine RR [] .z (.i 5 (.int .i64 0) (.i 4 (.int .i64 0) .a)) .a ?_
 refine RZ (NT (SQ (SQ (RG ?_))))
 refine RR [3] .z (.i 7 (.int .i64 25) .a) .a ?_
 refine RZ (NT (BK (SQ (SQ (RG ?_)))))
 refine RR [] .z (.i 8 (.bool false) .a) .a ?_
 refine RZ (NT (CF (RG ?_)))
 refine RR [] .z .a .a ?_
 refine RZ (NT (CF (SQ (SQ (RG ?_)))))
 refine RR [] .z (.i 11 (.bool false) (.d (.k .a))) .a ?_
 refine RZ (NT (CF (SQ (RG ?_))))
 refine RR [] .z .a .a ?_
 refine RZ (NT (CF (SQ (RG ?_))))
 refine RR [] .z .a .a ?_
 refine RZ (NT (CF (SQ (RG ?_))))
 refine RR [] .z .a .a ?_
 refine RZ (NT (CF (RG ?_)))
 refine RR [] .z .a .a ?_
 refine RZ (NT (CF (SQ (SQ (RG ?_)))))
 refine RR [] .z (.i 17 (.bool false) (.d (.k .a))) .a ?_
 refine RZ (NT (CF (SQ (RG ?_))))
 refine RR [] .z .a .a ?_
 refine RZ (NT (CF (RG ?_)))
 refine RR [] .z .a .a ?_
 refine RZ (NT (CF (SQ (SQ (RG ?_)))))
 refine RR [] .z (.i 21 (.bool false) (.d (.k .a))) .a ?_
 refine RZ (NT (CF (SQ (RG ?_))))
 refine RR [] .z .a .a ?_
 refine RZ (NT (CF (SQ (RG ?_))))
 refine RR [] .z .a .a ?_
 refine RZ (NT (CF (SQ (RG ?_))))
 refine RR [] .z .a .a ?_
 refine RZ (NT (CF (RG ?_)))
 refine RR [] .z .a .a ?_
 refine RZ (NT (CF (SQ (RG ?_))))
 refine RR [] .z (.i 27 (.bool false) (.d (.k .a))) .a ?_
 refine RZ (NT (CF (SQ (SQ (RG ?_)))))
 refine RR [] .z (.i 44 (.bool false) (.d (.k .a))) .a ?_
 refine RZ (NT (CF (RG ?_)))
 refine RR [] .z .a .a ?_
 refine RZ (NT (CF (SQ (RG ?_))))
 refine RR [] .z (.i 49 (.bool false) (.d (.k .a))) .a ?_
 refine RZ (NT (CF (SQ (RG ?_))))
 refine RR [] .z (.i 53 (.bool true) (.d (.k .a))) .a ?_
 refine RZ (NT (CT (SQ (RG ?_))))
 refine RV true [2, 3] (.d (.d (.d (.d (.d (.d .a)))))) (.i 60 (.pointer (some ⟨g9, o9 + j * 2 + 1, none⟩)) (.d (.d (.k (.k .z))))) .a [(0 : Int) ≤ (↑j : Int) ∧ (↑j : Int) < (↑c.shapes.length : Int)] ⟨by omega, trivial⟩ ?_
 refine wpr_eq (ld (t := 22) (a := ⟨g9, o9 + j * 2 + 1, none⟩) (dst := some 61) (by kernel_rfl) false 1 (by kernel_rfl) (by simp) [.slice c.shapes[j].fa c.shapes[j].fields.length c.shapes[j].fc] rfl (fun w h => ld_ro h 1 rfl (j * 2 + 1) (shs_fld hj 1 1 (by decide)))) ?_
 refine RR [] .z (.i 5 (.int .i64 1) (.i 4 (.int .i64 (↑c.shapes[j].fields.length : Int)) .z)) .a ?_
 refine RZ (NT (RE (BR (TR ?_))))
 refine NE [] .z .a [] (.tuple #[.int .i64 (↑c.shapes[j].fields.length : Int), .int .i64 1]) ?_
 exact ⟨rfl, rfl⟩
set_option maxHeartbeats 8000000 in
theorem moves_spec (c : CoV) (hul : c.units.length ≤ 1048576) (hsl : c.shapes.length ≤ 1048576) (hfl : ∀ s ∈ c.shapes, s.fields.length ≤ 1048576) (op a : Int) (h22 : op = 22 → 0 ≤ a ∧ a < c.units.length) (h25 : op = 25 → 0 ≤ a ∧ a < c.shapes.length) :
  Does Tryz.prog 97 [.agg (coC c).toArray, .agg (insC (op, a)).toArray] [ro c.ua (c.units.flatMap unC), ro c.ha (c.shapes.flatMap shC)] (fun v hp' => v = .tuple #[.int .i64 (mvs c.p (op, a)).1, .int .i64 (mvs c.p (op, a)).2] ∧ hp' = []) := by
 by_cases k22 : op = 22
 ·subst k22
  obtain ⟨h0, h1⟩ := h22 rfl
  obtain ⟨j, rfl⟩ := Int.eq_ofNat_of_zero_le h0
  exact moves22_spec c hul j (by omega)
 by_cases k25 : op = 25
 ·subst k25
  obtain ⟨h0, h1⟩ := h25 rfl
  obtain ⟨j, rfl⟩ := Int.eq_ofNat_of_zero_le h0
  exact moves25_spec c hsl hfl j (by omega)
 unfold coC insC
 dsimp only
 refine fn_enter Tryz.func97 rfl 67 rfl fun w0 h0 => ?_
 refine SQ (RG ?_)
 refine RP [] (.d .a) 2 (.d (.k .a)) .a 26 [.slice c.sa c.strs.length c.sc, .slice c.ha c.shapes.length c.hc, .slice c.ua c.units.length c.uc, .int .i64 c.main] fun g1 => ?_
 refine RP [] (.d .a) 3 (.k .z) .a 62 [.int .i64 op, .int .i64 a] fun g2 => ?_
 refine RR [] .z (.i 5 (.int .i64 0) (.i 4 (.int .i64 0) .a)) .a ?_
 refine RZ (NT (SQ (SQ (RG ?_))))
 refine RR [3] .z (.i 7 (.int .i64 op) .a) .a ?_
 refine RZ (NT (BK (SQ (SQ (RG ?_)))))
 refine RR [] .z (.i 8 (.bool (op == (0 : Int))) .a) .a ?_
 refine RZ (NT ?_)
 by_cases k0 : op = 0
 ·subst k0
  refine CT (SK (NT (CT (SQ (RG ?_)))))
  refine RR [] .z (.d (.d (.k (.k .z)))) .a ?_
  refine RZ (NT (RE (BR (TR ?_))))
  refine NE [] .z .a [] (.tuple #[.int .i64 0, .int .i64 0]) ?_
  exact ⟨by rw [show mvs c.p (0, a) = (0, 0) from by unfold mvs; dsimp only; rw [if_pos (by decide)]], rfl⟩
 refine SC 8 (op == (0 : Int)) false (by simp only [bne_eq_false_iff_eq, beq_eq_false_iff_ne, ne_eq]; omega) ?_
 refine CF (RG ?_)
 refine RR [] .z (.i 8 (.bool (op == (20 : Int))) (.d (.d (.k .a)))) .a ?_
 refine RZ (NT ?_)
 by_cases k20 : op = 20
 ·subst k20
  refine CT (SQ (RG ?_))
  refine RR [] .z (.d (.d (.k (.k .z)))) .a ?_
  refine RZ (NT (RE (BR (TR ?_))))
  refine NE [] .z .a [] (.tuple #[.int .i64 0, .int .i64 0]) ?_
  exact ⟨by rw [show mvs c.p (20, a) = (0, 0) from by unfold mvs; dsimp only; rw [if_pos (by decide)]], rfl⟩
 refine SC 8 (op == (20 : Int)) false (by simp only [bne_eq_false_iff_eq, beq_eq_false_iff_ne, ne_eq]; omega) ?_
 refine CF (SQ (SQ (RG ?_)))
 refine RR [] .z (.i 11 (.bool (op == (1 : Int))) (.d (.d (.k .a)))) .a ?_
 refine RZ (NT ?_)
 by_cases k1 : op = 1
 ·subst k1
  refine CT (SK (NT (CT (SQ (RG ?_)))))
  refine RR [] .z (.i 5 (.int .i64 1) (.d (.d (.d (.k .z))))) .a ?_
  refine RZ (NT (RE (BR (TR ?_))))
  refine NE [] .z .a [] (.tuple #[.int .i64 0, .int .i64 1]) ?_
  exact ⟨by rw [show mvs c.p (1, a) = (0, 1) from by unfold mvs; dsimp only; rw [if_neg (by decide), if_pos (by decide)]], rfl⟩
 refine SC 11 (op == (1 : Int)) false (by simp only [bne_eq_false_iff_eq, beq_eq_false_iff_ne, ne_eq]; omega) ?_
 refine CF (SQ (RG ?_))
 refine RR [] .z (.i 11 (.bool (op == (2 : Int))) (.d (.d (.k .a)))) .a ?_
 refine RZ (NT ?_)
 by_cases k2 : op = 2
 ·subst k2
  refine CT (SK (NT (CT (SQ (RG ?_)))))
  refine RR [] .z (.i 5 (.int .i64 1) (.d (.d (.d (.k .z))))) .a ?_
  refine RZ (NT (RE (BR (TR ?_))))
  refine NE [] .z .a [] (.tuple #[.int .i64 0, .int .i64 1]) ?_
  exact ⟨by rw [show mvs c.p (2, a) = (0, 1) from by unfold mvs; dsimp only; rw [if_neg (by decide), if_pos (by decide)]], rfl⟩
 refine SC 11 (op == (2 : Int)) false (by simp only [bne_eq_false_iff_eq, beq_eq_false_iff_ne, ne_eq]; omega) ?_
 refine CF (SQ (RG ?_))
 refine RR [] .z (.i 11 (.bool (op == (3 : Int))) (.d (.d (.k .a)))) .a ?_
 refine RZ (NT ?_)
 by_cases k3 : op = 3
 ·subst k3
  refine CT (SK (NT (CT (SQ (RG ?_)))))
  refine RR [] .z (.i 5 (.int .i64 1) (.d (.d (.d (.k .z))))) .a ?_
  refine RZ (NT (RE (BR (TR ?_))))
  refine NE [] .z .a [] (.tuple #[.int .i64 0, .int .i64 1]) ?_
  exact ⟨by rw [show mvs c.p (3, a) = (0, 1) from by unfold mvs; dsimp only; rw [if_neg (by decide), if_pos (by decide)]], rfl⟩
 refine SC 11 (op == (3 : Int)) false (by simp only [bne_eq_false_iff_eq, beq_eq_false_iff_ne, ne_eq]; omega) ?_
 refine CF (SQ (RG ?_))
 refine RR [] .z (.i 11 (.bool (op == (4 : Int))) (.d (.d (.k .a)))) .a ?_
 refine RZ (NT ?_)
 by_cases k4 : op = 4
 ·subst k4
  refine CT (SK (NT (CT (SQ (RG ?_)))))
  refine RR [] .z (.i 5 (.int .i64 1) (.d (.d (.d (.k .z))))) .a ?_
  refine RZ (NT (RE (BR (TR ?_))))
  refine NE [] .z .a [] (.tuple #[.int .i64 0, .int .i64 1]) ?_
  exact ⟨by rw [show mvs c.p (4, a) = (0, 1) from by unfold mvs; dsimp only; rw [if_neg (by decide), if_pos (by decide)]], rfl⟩
 refine SC 11 (op == (4 : Int)) false (by simp only [bne_eq_false_iff_eq, beq_eq_false_iff_ne, ne_eq]; omega) ?_
 refine CF (RG ?_)
 refine RR [] .z (.i 11 (.bool (op == (33 : Int))) (.d (.d (.k .a)))) .a ?_
 refine RZ (NT ?_)
 by_cases k33 : op = 33
 ·subst k33
  refine CT (SQ (RG ?_))
  refine RR [] .z (.i 5 (.int .i64 1) (.d (.d (.d (.k .z))))) .a ?_
  refine RZ (NT (RE (BR (TR ?_))))
  refine NE [] .z .a [] (.tuple #[.int .i64 0, .int .i64 1]) ?_
  exact ⟨by rw [show mvs c.p (33, a) = (0, 1) from by unfold mvs; dsimp only; rw [if_neg (by decide), if_pos (by decide)]], rfl⟩
 refine SC 11 (op == (33 : Int)) false (by simp only [bne_eq_false_iff_eq, beq_eq_false_iff_ne, ne_eq]; omega) ?_
 refine CF (SQ (SQ (RG ?_)))
 refine RR [] .z (.i 17 (.bool (op == (5 : Int))) (.d (.d (.k .a)))) .a ?_
 refine RZ (NT ?_)
 by_cases k5 : op = 5
 ·subst k5
  refine CT (SK (NT (CT (SQ (RG ?_)))))
  refine RR [] .z (.d (.d (.k (.i 4 (.int .i64 1) .z)))) .a ?_
  refine RZ (NT (RE (BR (TR ?_))))
  refine NE [] .z .a [] (.tuple #[.int .i64 1, .int .i64 0]) ?_
  exact ⟨by rw [show mvs c.p (5, a) = (1, 0) from by unfold mvs; dsimp only; rw [if_neg (by decide), if_neg (by decide), if_pos (by decide)]], rfl⟩
 refine SC 17 (op == (5 : Int)) false (by simp only [bne_eq_false_iff_eq, beq_eq_false_iff_ne, ne_eq]; omega) ?_
 refine CF (SQ (RG ?_))
 refine RR [] .z (.i 17 (.bool (op == (6 : Int))) (.d (.d (.k .a)))) .a ?_
 refine RZ (NT ?_)
 by_cases k6 : op = 6
 ·subst k6
  refine CT (SK (NT (CT (SQ (RG ?_)))))
  refine RR [] .z (.d (.d (.k (.i 4 (.int .i64 1) .z)))) .a ?_
  refine RZ (NT (RE (BR (TR ?_))))
  refine NE [] .z .a [] (.tuple #[.int .i64 1, .int .i64 0]) ?_
  exact ⟨by rw [show mvs c.p (6, a) = (1, 0) from by unfold mvs; dsimp only; rw [if_neg (by decide), if_neg (by decide), if_pos (by decide)]], rfl⟩
 refine SC 17 (op == (6 : Int)) false (by simp only [bne_eq_false_iff_eq, beq_eq_false_iff_ne, ne_eq]; omega) ?_
 refine CF (RG ?_)
 refine RR [] .z (.i 17 (.bool (op == (21 : Int))) (.d (.d (.k .a)))) .a ?_
 refine RZ (NT ?_)
 by_cases k21 : op = 21
 ·subst k21
  refine CT (SQ (RG ?_))
  refine RR [] .z (.d (.d (.k (.i 4 (.int .i64 1) .z)))) .a ?_
  refine RZ (NT (RE (BR (TR ?_))))
  refine NE [] .z .a [] (.tuple #[.int .i64 1, .int .i64 0]) ?_
  exact ⟨by rw [show mvs c.p (21, a) = (1, 0) from by unfold mvs; dsimp only; rw [if_neg (by decide), if_neg (by decide), if_pos (by decide)]], rfl⟩
 refine SC 17 (op == (21 : Int)) false (by simp only [bne_eq_false_iff_eq, beq_eq_false_iff_ne, ne_eq]; omega) ?_
 refine CF (SQ (SQ (RG ?_)))
 refine RR [] .z (.i 21 (.bool (op == (12 : Int))) (.d (.d (.k .a)))) .a ?_
 refine RZ (NT ?_)
 by_cases k12 : op = 12
 ·subst k12
  refine CT (SK (NT (CT (SQ (RG ?_)))))
  refine RR [] .z (.i 5 (.int .i64 1) (.i 4 (.int .i64 1) .z)) .a ?_
  refine RZ (NT (RE (BR (TR ?_))))
  refine NE [] .z .a [] (.tuple #[.int .i64 1, .int .i64 1]) ?_
  exact ⟨by rw [show mvs c.p (12, a) = (1, 1) from by unfold mvs; dsimp only; rw [if_neg (by decide), if_neg (by decide), if_neg (by decide), if_pos (by decide)]], rfl⟩
 refine SC 21 (op == (12 : Int)) false (by simp only [bne_eq_false_iff_eq, beq_eq_false_iff_ne, ne_eq]; omega) ?_
 refine CF (SQ (RG ?_))
 refine RR [] .z (.i 21 (.bool (op == (13 : Int))) (.d (.d (.k .a)))) .a ?_
 refine RZ (NT ?_)
 by_cases k13 : op = 13
 ·subst k13
  refine CT (SK (NT (CT (SQ (RG ?_)))))
  refine RR [] .z (.i 5 (.int .i64 1) (.i 4 (.int .i64 1) .z)) .a ?_
  refine RZ (NT (RE (BR (TR ?_))))
  refine NE [] .z .a [] (.tuple #[.int .i64 1, .int .i64 1]) ?_
  exact ⟨by rw [show mvs c.p (13, a) = (1, 1) from by unfold mvs; dsimp only; rw [if_neg (by decide), if_neg (by decide), if_neg (by decide), if_pos (by decide)]], rfl⟩
 refine SC 21 (op == (13 : Int)) false (by simp only [bne_eq_false_iff_eq, beq_eq_false_iff_ne, ne_eq]; omega) ?_
 refine CF (SQ (RG ?_))
 refine RR [] .z (.i 21 (.bool (op == (28 : Int))) (.d (.d (.k .a)))) .a ?_
 refine RZ (NT ?_)
 by_cases k28 : op = 28
 ·subst k28
  refine CT (SK (NT (CT (SQ (RG ?_)))))
  refine RR [] .z (.i 5 (.int .i64 1) (.i 4 (.int .i64 1) .z)) .a ?_
  refine RZ (NT (RE (BR (TR ?_))))
  refine NE [] .z .a [] (.tuple #[.int .i64 1, .int .i64 1]) ?_
  exact ⟨by rw [show mvs c.p (28, a) = (1, 1) from by unfold mvs; dsimp only; rw [if_neg (by decide), if_neg (by decide), if_neg (by decide), if_pos (by decide)]], rfl⟩
 refine SC 21 (op == (28 : Int)) false (by simp only [bne_eq_false_iff_eq, beq_eq_false_iff_ne, ne_eq]; omega) ?_
 refine CF (SQ (RG ?_))
 refine RR [] .z (.i 21 (.bool (op == (30 : Int))) (.d (.d (.k .a)))) .a ?_
 refine RZ (NT ?_)
 by_cases k30 : op = 30
 ·subst k30
  refine CT (SK (NT (CT (SQ (RG ?_)))))
  refine RR [] .z (.i 5 (.int .i64 1) (.i 4 (.int .i64 1) .z)) .a ?_
  refine RZ (NT (RE (BR (TR ?_))))
  refine NE [] .z .a [] (.tuple #[.int .i64 1, .int .i64 1]) ?_
  exact ⟨by rw [show mvs c.p (30, a) = (1, 1) from by unfold mvs; dsimp only; rw [if_neg (by decide), if_neg (by decide), if_neg (by decide), if_pos (by decide)]], rfl⟩
 refine SC 21 (op == (30 : Int)) false (by simp only [bne_eq_false_iff_eq, beq_eq_false_iff_ne, ne_eq]; omega) ?_
 refine CF (RG ?_)
 refine RR [] .z (.i 21 (.bool (op == (31 : Int))) (.d (.d (.k .a)))) .a ?_
 refine RZ (NT ?_)
 by_cases k31 : op = 31
 ·subst k31
  refine CT (SQ (RG ?_))
  refine RR [] .z (.i 5 (.int .i64 1) (.i 4 (.int .i64 1) .z)) .a ?_
  refine RZ (NT (RE (BR (TR ?_))))
  refine NE [] .z .a [] (.tuple #[.int .i64 1, .int .i64 1]) ?_
  exact ⟨by rw [show mvs c.p (31, a) = (1, 1) from by unfold mvs; dsimp only; rw [if_neg (by decide), if_neg (by decide), if_neg (by decide), if_pos (by decide)]], rfl⟩
 refine SC 21 (op == (31 : Int)) false (by simp only [bne_eq_false_iff_eq, beq_eq_false_iff_ne, ne_eq]; omega) ?_
 refine CF (SQ (RG ?_))
 refine RR [] .z (.i 27 (.bool (op == (22 : Int))) (.d (.d (.k .a)))) .a ?_
 refine RZ (NT ?_)
 refine SC 27 (op == (22 : Int)) false (by simp only [bne_eq_false_iff_eq, beq_eq_false_iff_ne, ne_eq]; omega) ?_
 refine CF (SQ (SQ (RG ?_)))
 refine RR [] .z (.i 44 (.bool (op == (23 : Int))) (.d (.d (.k .a)))) .a ?_
 refine RZ (NT ?_)
 by_cases k23 : op = 23
 ·subst k23
  refine CT (SK (NT (CT (SQ (RG ?_)))))
  refine RR [3] .z (.d (.d (.k (.i 4 (.int .i64 a) .z)))) .a ?_
  refine RZ (NT (RE (BR (TR ?_))))
  refine NE [] .z .a [] (.tuple #[.int .i64 a, .int .i64 0]) ?_
  exact ⟨by rw [show mvs c.p (23, a) = (a, 0) from by unfold mvs; dsimp only; rw [if_neg (by decide), if_neg (by decide), if_neg (by decide), if_neg (by decide), if_neg (by decide), if_pos (by decide)]], rfl⟩
 refine SC 44 (op == (23 : Int)) false (by simp only [bne_eq_false_iff_eq, beq_eq_false_iff_ne, ne_eq]; omega) ?_
 refine CF (RG ?_)
 refine RR [] .z (.i 44 (.bool (op == (34 : Int))) (.d (.d (.k .a)))) .a ?_
 refine RZ (NT ?_)
 by_cases k34 : op = 34
 ·subst k34
  refine CT (SQ (RG ?_))
  refine RR [3] .z (.d (.d (.k (.i 4 (.int .i64 a) .z)))) .a ?_
  refine RZ (NT (RE (BR (TR ?_))))
  refine NE [] .z .a [] (.tuple #[.int .i64 a, .int .i64 0]) ?_
  exact ⟨by rw [show mvs c.p (34, a) = (a, 0) from by unfold mvs; dsimp only; rw [if_neg (by decide), if_neg (by decide), if_neg (by decide), if_neg (by decide), if_neg (by decide), if_pos (by decide)]], rfl⟩
 refine SC 44 (op == (34 : Int)) false (by simp only [bne_eq_false_iff_eq, beq_eq_false_iff_ne, ne_eq]; omega) ?_
 refine CF (SQ (RG ?_))
 refine RR [] .z (.i 49 (.bool (op == (24 : Int))) (.d (.d (.k .a)))) .a ?_
 refine RZ (NT ?_)
 by_cases k24 : op = 24
 ·subst k24
  refine CT (SQ (RG ?_))
  refine RR [3] .z (.i 5 (.int .i64 1) (.i 4 (.int .i64 a) .z)) .a ?_
  refine RZ (NT (RE (BR (TR ?_))))
  refine NE [] .z .a [] (.tuple #[.int .i64 a, .int .i64 1]) ?_
  exact ⟨by rw [show mvs c.p (24, a) = (a, 1) from by unfold mvs; dsimp only; rw [if_neg (by decide), if_neg (by decide), if_neg (by decide), if_neg (by decide), if_neg (by decide), if_neg (by decide), if_pos (by decide)]], rfl⟩
 refine SC 49 (op == (24 : Int)) false (by simp only [bne_eq_false_iff_eq, beq_eq_false_iff_ne, ne_eq]; omega) ?_
 refine CF (SQ (RG ?_))
 refine RR [] .z (.i 53 (.bool (op == (25 : Int))) (.d (.d (.k .a)))) .a ?_
 refine RZ (NT ?_)
 refine SC 53 (op == (25 : Int)) false (by simp only [bne_eq_false_iff_eq, beq_eq_false_iff_ne, ne_eq]; omega) ?_
 refine CF (SQ (RG ?_))
 refine RR [] .z (.i 63 (.bool (op == (27 : Int))) (.d (.d (.k (.k (.k .z)))))) .a ?_
 refine RZ (NT ?_)
 by_cases k27 : op = 27
 ·subst k27
  refine CT (SQ (RG ?_))
  refine RR [] .z (.d (.d (.k (.i 4 (.int .i64 3) .z)))) .a ?_
  refine RZ (NT (RE (BR (TR ?_))))
  refine NE [] .z .a [] (.tuple #[.int .i64 3, .int .i64 0]) ?_
  exact ⟨by rw [show mvs c.p (27, a) = (3, 0) from by unfold mvs; dsimp only; rw [if_neg (by decide), if_neg (by decide), if_neg (by decide), if_neg (by decide), if_neg (by decide), if_neg (by decide), if_neg (by decide), if_neg (by decide), if_pos (by decide)]], rfl⟩
 refine SC 63 (op == (27 : Int)) false (by simp only [bne_eq_false_iff_eq, beq_eq_false_iff_ne, ne_eq]; omega) ?_
 refine CF (SQ (RG ?_))
 refine RR [] .z (.i 65 (.bool (op == (29 : Int))) (.d (.d (.d (.k .a))))) .a ?_
 refine RZ (NT ?_)
 by_cases k29 : op = 29
 ·subst k29
  refine CT (SQ (RG ?_))
  refine RR [] .z (.d (.k (.i 4 (.int .i64 2) .z))) .a ?_
  refine RZ (NT (RE (BR (TR ?_))))
  refine NE [] .z .a [] (.tuple #[.int .i64 2, .int .i64 0]) ?_
  exact ⟨by rw [show mvs c.p (29, a) = (2, 0) from by unfold mvs; dsimp only; rw [if_neg (by decide), if_neg (by decide), if_neg (by decide), if_neg (by decide), if_neg (by decide), if_neg (by decide), if_neg (by decide), if_neg (by decide), if_neg (by decide), if_pos (by decide)]], rfl⟩
 refine SC 65 (op == (29 : Int)) false (by simp only [bne_eq_false_iff_eq, beq_eq_false_iff_ne, ne_eq]; omega) ?_
 refine CF (SK (BN (NT (SQ (RG ?_)))))
 refine RR [] .z (.i 5 (.int .i64 1) (.i 4 (.int .i64 2) .z)) .a ?_
 refine RZ (NT (RE ?_))
 refine NE [] .z .a [] (.tuple #[.int .i64 2, .int .i64 1]) ?_
 exact ⟨by rw [show mvs c.p (op, a) = (2, 1) from by unfold mvs; dsimp only; rw [if_neg (by omega), if_neg (by omega), if_neg (by omega), if_neg (by omega), if_neg (by omega), if_neg (by omega), if_neg (by omega), if_neg (by omega), if_neg (by omega), if_neg (by omega)]], rfl⟩
end Go.Proofs.YtgcfomhlgipllaaGreatDoor
namespace Go.Proofs.YtgcfomhlgipllaaGreatDoor
open Go Go.Sx
def rchB (r g : Nat) (a : Option Addr) (n c : Nat) : Ch := .blk r 173 [.map (some g), .slice a n c]
theorem on_old (r g : Nat) (a : Option Addr) (c : Nat) (l : List (Int × Int)) (q : List Int) (i h x : Int) (ho : lk l i = some x) :
  Does Tryz.prog 95 [.pointer (some ⟨r, 0, none⟩), .int .i64 i, .int .i64 h] [rchB r g a q.length c, mp kvI g (mI l), row 3 1 a q.length c (ints q)]
   (fun v hp' => v = .bool (decide (x = h)) ∧ hp' = [rchB r g a q.length c, mp kvI g (mI l), row 3 1 a q.length c (ints q)]) := by
 have hm : mlook i (mI l) = some (.int .i64 x) := by rw [mlook_mI, ho]; rfl
 unfold rchB
 refine fn_enter Tryz.func95 rfl 43 rfl fun w0 h0 => ?_
 refine SQ (RG ?_)
 refine RR [] .z (.i 6 (.bool false) .a) .a ?_
 refine RZ (NT (SQ (RG ?_)))
 refine RR [0] (.d (.d (.d (.d (.d .a))))) (.i 14 (.int .i64 i) (.i 13 (Value.map (some g)) .a)) .a ?_
 refine wpr_eq (step_look (t := 102) (g := g) (k := 3) (z := (.int .i64 0)) (kw := (.int .i64 i)) (ok := true) (dst := some 15) (by kernel_rfl) (by kernel_rfl) (keysI (by kernel_rfl)) i rfl 1 (l := (mI l)) (by kernel_rfl)) ?_
 rw [hm]
 refine RR [] .z (.i 8 (.bool true) (.i 7 (.int .i64 x) (.d (.d (.d (.k .a)))))) .a ?_
 refine RZ (NT (SQ (SQ (RG ?_))))
 refine RR [] .z (.i 19 (.bool false) .a) .a ?_
 refine RZ (NT (CF (SK (NT (SQ (RG ?_))))))
 refine RR [] .z (.i 6 (.bool (x == h)) .z) .a ?_
 refine RZ (NT (RE ?_))
 refine NE [0, 0, 0] .a .z [] (.bool (x == h)) ?_
 exact ⟨rfl, rfl⟩
theorem on_new (r g : Nat) (a : Option Addr) (c : Nat) (l : List (Int × Int)) (q : List Int) (i h : Int) (hn : lk l i = none) (hrl : q.length ≤ 1048576) :
  Does Tryz.prog 95 [.pointer (some ⟨r, 0, none⟩), .int .i64 i, .int .i64 h] [rchB r g a q.length c, mp kvI g (mI l), row 3 1 a q.length c (ints q)]
   (fun v hp' => ∃ a' c', v = .bool true ∧ hp' = [rchB r g a' (q ++ [i]).length c', mp kvI g (mI (l ++ [(i, h)])), row 3 1 a' (q ++ [i]).length c' (ints (q ++ [i]))]) := by
 have hm : mlook i (mI l) = none := by rw [mlook_mI, hn]; rfl
 unfold rchB
 refine fn_enter Tryz.func95 rfl 43 rfl fun w0 h0 => ?_
 refine SQ (RG ?_)
 refine RR [] .z (.i 6 (.bool false) .a) .a ?_
 refine RZ (NT (SQ (RG ?_)))
 refine RR [0] (.d (.d (.d (.d (.d .a))))) (.i 14 (.int .i64 i) (.i 13 (Value.map (some g)) .a)) .a ?_
 refine wpr_eq (step_look (t := 102) (g := g) (k := 3) (z := (.int .i64 0)) (kw := (.int .i64 i)) (ok := true) (dst := some 15) (by kernel_rfl) (by kernel_rfl) (keysI (by kernel_rfl)) i rfl 1 (l := (mI l)) (by kernel_rfl)) ?_
 rw [hm]
 refine RR [] .z (.i 8 (.bool false) (.i 7 (.int .i64 0) (.d (.d (.d (.k .a)))))) .a ?_
 refine RZ (NT (SQ (SQ (RG ?_))))
 refine RR [] .z (.i 19 (.bool true) .a) .a ?_
 refine RZ (NT (CT (SQ (RG ?_))))
 refine RR [0] (.d (.d (.d (.d (.d (.d .a)))))) (.i 25 (.int .i64 h) (.i 24 (.int .i64 i) (.i 23 (Value.map (some g)) (.d (.k .a))))) .a ?_
 refine wpr_eq (step_mput (t := 102) (g := g) (k := 3) (z := (.int .i64 0)) (kw := (.int .i64 i)) (v := (.int .i64 h)) (dst := none) (by kernel_rfl) (by kernel_rfl) (keysI (by kernel_rfl)) i rfl 1 (l := (mI l)) (by kernel_rfl) hm) ?_
 rw [mI_app]
 refine RZ (NT (RG ?_))
 refine RN [0] (.d (.d (.d (.d (.d (.d (.d .a))))))) 32 (fun g1 => (.slice (some ⟨g1, 0, none⟩) 1 1)) (.i 30 (.slice a q.length c) (.i 26 (.pointer (some ⟨r, 0, none⟩)) (.d (.d (.d (.k (.k (.k (.d (.d (.k .a))))))))))) .a 3 [.int .i64 i] fun g1 => ?_
 refine wpr_ent (ent_turn 3 (ro (some ⟨g1, 0, none⟩) (ints [i])) rfl (turn_rints [i] rfl) rfl) ?_
 refine wpr_app (a := a) (n := q.length) (cap := c) (x := (.slice (some ⟨g1, 0, none⟩) 1 1)) (t := 29) (xt := 29) (dst := some 33) (by kernel_rfl) (e := 3) (sz := 1) (bytes := 8) (by kernel_rfl) 2 (xs := (ints q)) (by kernel_rfl) (m := 1) (news := (ints [i])) (fun w h => src_ro h 3 rfl rfl (fun e => by cases e)) (by unfold maxLen; omega) (by omega) ?_
 intro a3 c3 hn3
 rw [ints_append, show q.length + 1 = (q ++ [i]).length by simp]
 refine RR [0] .z (.d (.d (.d (.d (.k .a))))) (.u (.k (.i (.slice a3 (q ++ [i]).length c3) .z)) .a) ?_
 refine RZ (NT (SQ (RG ?_)))
 refine RR [] .z (.i 6 (.bool true) .z) .a ?_
 refine RZ (NT (RE ?_))
 refine NE [0, 0, 0] (.k (.k (.k .z))) (.d (.d (.d (.k .a)))) [] (.bool true) ?_
 exact ⟨a3, c3, rfl, rfl⟩
theorem next_spec (r g : Nat) (a : Option Addr) (c : Nat) (q : List Int) (i : Int) (hql : (q ++ [i]).length ≤ 1048576) :
  Does Tryz.prog 96 [.pointer (some ⟨r, 0, none⟩)] [rchB r g a (q ++ [i]).length c, row 3 1 a (q ++ [i]).length c (ints (q ++ [i]))]
   (fun v hp' => v = .int .i64 i ∧ hp' = [rchB r g a q.length c, row 3 1 a q.length c (ints q)]) := by
 have hlen : (q ++ [i]).length = q.length + 1 := by simp
 have hat : ((ints (q ++ [i])).drop (q.length * 1)).take 1 = [.int .i64 i] := by
  rw [ints_at (by omega)]; simp
 unfold rchB
 refine fn_enter Tryz.func96 rfl 31 rfl fun w0 h0 => ?_
 refine wpc_fact (fun w h => row_addr h 1 rfl (by omega)) ?_
 rintro ⟨g0, o0, rfl⟩
 refine wpc_fact (fun w h => row_cap h 1 rfl) fun hcap => ?_
 have hcap2 := hcap.2.1
 have hcut : Turn (row 3 1 (some ⟨g0, o0, none⟩) (q ++ [i]).length c (ints (q ++ [i]))) (row 3 1 (some ⟨g0, o0, none⟩) q.length c (ints q)) := by
  have := turn_ints (T := 3) (n := (q ++ [i]).length) (cap := c) (a := some ⟨g0, o0, none⟩) (l := q ++ [i]) q.length c (by omega) (by omega) (Nat.le_refl _)
  rwa [List.take_left] at this
 refine SQ (RG ?_)
 refine RR [] .z (.i 2 (.int .i64 0) .a) .a ?_
 refine RZ (NT (SQ ?_))
 refine wpc_draw (by kernel_rfl) ([.blk r 173 [Value.map (some g), .slice (some ⟨g0, o0, none⟩) (q ++ [i]).length c], row 3 1 (some ⟨g0, o0, none⟩) (q ++ [i]).length c (ints (q ++ [i]))]) (sub_of [0, 1] (by kernel_rfl)) 13 (by kernel_rfl) ?_
 refine wpa_take true [(0, []), (1, []), (2, []), (3, [0]), (4, []), (5, []), (6, []), (7, [0]), (8, []), (9, []), (10, [])] ([(14, .pointer (some (Addr.mk g0 (o0 + Int.toNat ((↑(List.length (q ++ [i])) : Int) - 1) * 1) none))), (2, .int .i64 0), (0, .pointer (some ⟨r, 0, none⟩))]) (#[true, true, true, true, true, true, true, true, true, true, true, false, false]) ([inI64 ((↑(q ++ [i]).length : Int) - (1 : Int)), (0 : Int) ≤ (↑(q ++ [i]).length : Int) - (1 : Int) ∧ (↑(q ++ [i]).length : Int) - (1 : Int) < (↑(q ++ [i]).length : Int)]) (n := 2) (by kernel_rfl) (by kernel_rfl) (by kernel_rfl) ⟨by unfold inI64; omega, by omega, trivial⟩ ?_
 have htn : (((q ++ [i]).length : Int) - 1).toNat = q.length := by omega
 refine wpa_ent (ent_set 14 (.pointer (some (Addr.mk g0 (o0 + Int.toNat ((↑(List.length (q ++ [i])) : Int) - 1) * 1) none))) (.pointer (some ⟨g0, o0 + q.length * 1, none⟩)) (by kernel_rfl) (by rw [htn])) ?_
 refine wpa_eq (i := 11) (n := 1) (by kernel_rfl) (ld (t := 3) (a := ⟨g0, o0 + q.length * 1, none⟩) (dst := some 15) (by kernel_rfl) false 1 (by kernel_rfl) (by simp) [.int .i64 i] rfl (fun w h => ld_row h 1 rfl (q.length * 1) hat)) (sub_of [0, 1] (by kernel_rfl)) ?_
 refine TK 0 [(12, [])] (.i 3 (.int .i64 i) (.d (.d (.d (.k .a))))) (#[true, true, true, true, true, true, true, true, true, true, true, true, true]) ?_
 refine wpa_done 0 (by kernel_rfl) ?_
 refine NT (SQ ?_)
 refine wpc_draw (by kernel_rfl) ([row 3 1 (some ⟨g0, o0, none⟩) (q ++ [i]).length c (ints (q ++ [i]))]) (sub_of [1] (by kernel_rfl)) 15 (by kernel_rfl) ?_
 refine TK 8 [(0, []), (1, []), (2, []), (3, []), (5, []), (6, []), (7, [])] (.i 23 (.pointer (some ⟨r, 1, none⟩)) (.i 19 (.pointer (some ⟨r, 1, none⟩)) (.i 16 (.pointer (some ⟨r, 0, none⟩)) (.k (.k .z))))) (#[true, true, true, true, false, true, true, true, false, false, false, false, false, false, false]) ?_
 refine wpa_two (i := 4) (j := 8) (n := 7) (by kernel_rfl) ?_ ?_
 ·refine wpi_one (n := 7) true 4 [0] ([(20, .slice (some ⟨g0, o0, none⟩) (q ++ [i]).length c), (23, .pointer (some ⟨r, 1, none⟩)), (16, .pointer (some ⟨r, 0, none⟩)), (3, .int .i64 i), (2, .int .i64 0)]) ([.blk r 173 [Value.map (some g), .slice (some ⟨g0, o0, none⟩) (q ++ [i]).length c], row 3 1 (some ⟨g0, o0, none⟩) (q ++ [i]).length c (ints (q ++ [i]))]) [] (by kernel_rfl) (by kernel_rfl) trivial (sub_of [1] (by kernel_rfl)) ?_
  refine AO 6 8 [0] (.i 24 (.slice (some ⟨g0, o0, none⟩) (q ++ [i]).length c) (.k (.d (.k .a)))) .a [1] ?_
  refine wpa_take true [(9, []), (10, []), (11, []), (12, []), (13, [])] ([(29, .pointer (some ⟨r, 1, none⟩)), (27, .slice (some ⟨g0, o0, none⟩) (Int.toNat ((↑(List.length (q ++ [i])) : Int) - 1)) c), (3, .int .i64 i), (2, .int .i64 0)]) (#[true, true, true, true, true, true, true, true, true, true, true, true, true, true, false]) ([inI64 ((↑(q ++ [i]).length : Int) - (1 : Int)), (0 : Int) ≤ (↑(q ++ [i]).length : Int) - (1 : Int) ∧ (↑(q ++ [i]).length : Int) - (1 : Int) ≤ (↑c : Int)]) (n := 1) (by kernel_rfl) (by kernel_rfl) (by kernel_rfl) ⟨by unfold inI64; omega, by omega, trivial⟩ ?_
  refine AO 0 14 [0] (.d (.d (.k .a))) (.u (.k (.i (.slice (some ⟨g0, o0, none⟩) (Int.toNat ((↑(List.length (q ++ [i])) : Int) - 1)) c) .z)) .a) [1] ?_
  refine wpa_done 0 (by kernel_rfl) ?_
  refine NT (SQ (RG ?_))
  refine RR [] .z (.i 2 (.int .i64 i) .z) .a ?_
  refine RZ (NT (RE ?_))
  rw [htn]
  refine nx_ent (ent_turn 1 _ rfl hcut rfl) ?_
  refine NE [0, 0] .a .z [] (.int .i64 i) ?_
  exact ⟨rfl, rfl⟩
 ·refine wpi_one (n := 7) true 8 [0] ([(24, .slice (some ⟨g0, o0, none⟩) (q ++ [i]).length c), (19, .pointer (some ⟨r, 1, none⟩)), (16, .pointer (some ⟨r, 0, none⟩)), (3, .int .i64 i), (2, .int .i64 0)]) ([.blk r 173 [Value.map (some g), .slice (some ⟨g0, o0, none⟩) (q ++ [i]).length c], row 3 1 (some ⟨g0, o0, none⟩) (q ++ [i]).length c (ints (q ++ [i]))]) [] (by kernel_rfl) (by kernel_rfl) trivial (sub_of [1] (by kernel_rfl)) ?_
  refine wpa_take true [(9, []), (10, [])] ([(26, .int .i64 ((↑(q ++ [i]).length : Int) - 1)), (19, .pointer (some ⟨r, 1, none⟩)), (16, .pointer (some ⟨r, 0, none⟩)), (3, .int .i64 i), (2, .int .i64 0)]) (#[true, true, true, true, false, true, true, true, true, true, true, false, false, false, false]) ([inI64 ((↑(q ++ [i]).length : Int) - (1 : Int))]) (n := 5) (by kernel_rfl) (by kernel_rfl) (by kernel_rfl) ⟨by unfold inI64; omega, trivial⟩ ?_
  refine AO 4 4 [0] (.i 20 (.slice (some ⟨g0, o0, none⟩) (q ++ [i]).length c) (.k (.d (.k .a)))) .a [1] ?_
  refine wpa_take true [(11, []), (12, []), (13, [])] ([(29, .pointer (some ⟨r, 1, none⟩)), (27, .slice (some ⟨g0, o0, none⟩) (Int.toNat ((↑(List.length (q ++ [i])) : Int) - 1)) c), (3, .int .i64 i), (2, .int .i64 0)]) (#[true, true, true, true, true, true, true, true, true, true, true, true, true, true, false]) ([(0 : Int) ≤ (↑(q ++ [i]).length : Int) - (1 : Int) ∧ (↑(q ++ [i]).length : Int) - (1 : Int) ≤ (↑c : Int)]) (n := 1) (by kernel_rfl) (by kernel_rfl) (by kernel_rfl) ⟨by omega, trivial⟩ ?_
  refine AO 0 14 [0] (.d (.d (.k .a))) (.u (.k (.i (.slice (some ⟨g0, o0, none⟩) (Int.toNat ((↑(List.length (q ++ [i])) : Int) - 1)) c) .z)) .a) [1] ?_
  refine wpa_done 0 (by kernel_rfl) ?_
  refine NT (SQ (RG ?_))
  refine RR [] .z (.i 2 (.int .i64 i) .z) .a ?_
  refine RZ (NT (RE ?_))
  rw [htn]
  refine nx_ent (ent_turn 1 _ rfl hcut rfl) ?_
  refine NE [0, 0] .a .z [] (.int .i64 i) ?_
  exact ⟨rfl, rfl⟩
end Go.Proofs.YtgcfomhlgipllaaGreatDoor
