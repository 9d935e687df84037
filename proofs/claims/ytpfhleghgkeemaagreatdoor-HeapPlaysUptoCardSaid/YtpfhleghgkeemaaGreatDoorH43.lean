import Derived.Test.YtpfhleghgkeemaaGreatDoorH42
import Derived.Test.YtpfhleghgkeemaaGreatDoorH37
import Derived.Test.YtpfhleghgkeemaaGreatDoorY2
namespace Go.Proofs.YtpfhleghgkeemaaGreatDoor
open Go Go.Sx
set_option linter.unusedVariables false
set_option linter.unusedSimpArgs false

def RTx (most : Int) (a : Option Addr) (c : Nat) (l : List Ob) (d : Nat) (v : V) : Prop :=
  Does Tryz.prog 61 [.agg #[.int .i64 most, .slice a l.length c], valV v, .int .i64 d] [ro a (l.flatMap objC), gBag l] (fun r hp' => r = .string (mkS (txt (l.map Ob.o) d v)) ∧ hp' = [])
theorem rtext_low (most : Int) (a : Option Addr) (c : Nat) (l : List Ob) (d : Nat) (v : V) (hv : showV l.length v) (hk : v.k ≠ 4) : RTx most a c l d v := by
  obtain ⟨hs, hi, hr⟩ := hv
  unfold RTx
  rw [txt_k]
  have hQ := rQuoted_spec v.s
  have hD := rDigits6_spec v.n hi.1 hi.2
  unfold valV
  rcases right_kind hr with h | h | h | h | h
  · refine fn_enter Tryz.func61 rfl 75 rfl fun w0 h0 => ?_
    refine SQ (RG ?_)
    refine RP [] (.d .a) 3 (.d (.k .a)) .a 51 [.int .i64 most, .slice a l.length c] fun g1 => ?_
    refine RP [] (.d .a) 4 (.k (.d (.k .a))) .a 28 [.int .i64 v.k, .int .i64 v.n, .string (mkS v.s)] fun g2 => ?_
    refine RR [] .z (.i 6 (.string ⟨#[]⟩) .a) .a ?_
    refine RZ (NT (SQ (SQ (RG ?_))))
    refine RR [3] .z (.i 11 (.int .i64 v.k) .a) .a ?_
    refine RZ (NT (BK (SQ (RG ?_))))
    refine RR [] .z (.i 12 (.bool (v.k == (0 : Int))) .a) .a ?_
    refine RZ (NT ?_)
    refine SC 12 (v.k == (0 : Int)) true (by simp only [bne_iff_ne, beq_iff_eq, ne_eq]; omega) ?_
    refine CT (SQ (RG ?_))
    refine RR [] .z (.i 6 (.string (ByteArray.mk #[110, 111, 110, 101])) (.d (.d (.d (.d (.k .a)))))) .a ?_
    refine RZ (NT (RE (BR (TR ?_))))
    refine NE [] .z .a [] (.string (ByteArray.mk #[110, 111, 110, 101])) ?_
    rw [if_pos h]; exact ⟨rfl, rfl⟩
  · refine fn_enter Tryz.func61 rfl 75 rfl fun w0 h0 => ?_
    refine SQ (RG ?_)
    refine RP [] (.d .a) 3 (.d (.k .a)) .a 51 [.int .i64 most, .slice a l.length c] fun g1 => ?_
    refine RP [] (.d .a) 4 (.k (.d (.k .a))) .a 28 [.int .i64 v.k, .int .i64 v.n, .string (mkS v.s)] fun g2 => ?_
    refine RR [] .z (.i 6 (.string ⟨#[]⟩) .a) .a ?_
    refine RZ (NT (SQ (SQ (RG ?_))))
    refine RR [3] .z (.i 11 (.int .i64 v.k) .a) .a ?_
    refine RZ (NT (BK (SQ (RG ?_))))
    refine RR [] .z (.i 12 (.bool (v.k == (0 : Int))) .a) .a ?_
    refine RZ (NT ?_)
    refine SC 12 (v.k == (0 : Int)) false (by simp only [bne_eq_false_iff_eq, beq_eq_false_iff_ne, ne_eq]; omega) ?_
    refine CF (SQ (RG ?_))
    refine RR [] .z (.i 14 (.bool (v.k == (1 : Int))) (.d (.d (.k .a)))) .a ?_
    refine RZ (NT ?_)
    refine SC 14 (v.k == (1 : Int)) true (by simp only [bne_iff_ne, beq_iff_eq, ne_eq]; omega) ?_
    refine CT (SQ (RG ?_))
    refine RR [3] (.d (.d .a)) (.i 17 (.int .i64 v.n) (.d (.d (.d (.k .a))))) .a ?_
    refine RC (dst := some 18) [] .a (hD) ?_
    rintro r _ ⟨rfl, rfl⟩
    refine RR [] .z (.i 6 (.string (mkS (Lib.itoa v.n))) (.d (.d (.d (.k .a))))) .a ?_
    refine RZ (NT (RE (BR (TR ?_))))
    refine NE [] .z .a [] (.string (mkS (Lib.itoa v.n))) ?_
    rw [if_neg (by omega), if_pos h]; exact ⟨rfl, rfl⟩
  · by_cases hn : v.n = 1
    · refine fn_enter Tryz.func61 rfl 75 rfl fun w0 h0 => ?_
      refine SQ (RG ?_)
      refine RP [] (.d .a) 3 (.d (.k .a)) .a 51 [.int .i64 most, .slice a l.length c] fun g1 => ?_
      refine RP [] (.d .a) 4 (.k (.d (.k .a))) .a 28 [.int .i64 v.k, .int .i64 v.n, .string (mkS v.s)] fun g2 => ?_
      refine RR [] .z (.i 6 (.string ⟨#[]⟩) .a) .a ?_
      refine RZ (NT (SQ (SQ (RG ?_))))
      refine RR [3] .z (.i 11 (.int .i64 v.k) .a) .a ?_
      refine RZ (NT (BK (SQ (RG ?_))))
      refine RR [] .z (.i 12 (.bool (v.k == (0 : Int))) .a) .a ?_
      refine RZ (NT ?_)
      refine SC 12 (v.k == (0 : Int)) false (by simp only [bne_eq_false_iff_eq, beq_eq_false_iff_ne, ne_eq]; omega) ?_
      refine CF (SQ (RG ?_))
      refine RR [] .z (.i 14 (.bool (v.k == (1 : Int))) (.d (.d (.k .a)))) .a ?_
      refine RZ (NT ?_)
      refine SC 14 (v.k == (1 : Int)) false (by simp only [bne_eq_false_iff_eq, beq_eq_false_iff_ne, ne_eq]; omega) ?_
      refine CF (SQ (RG ?_))
      refine RR [] .z (.i 19 (.bool (v.k == (2 : Int))) (.d (.d (.k .a)))) .a ?_
      refine RZ (NT ?_)
      refine SC 19 (v.k == (2 : Int)) true (by simp only [bne_iff_ne, beq_iff_eq, ne_eq]; omega) ?_
      refine CT (SQ (SQ (RG ?_)))
      refine RR [3] .z (.i 23 (.bool (v.n == (1 : Int))) (.d (.d (.d (.k .a))))) .a ?_
      refine RZ (NT ?_)
      refine SC 23 (v.n == (1 : Int)) true (by simp only [bne_iff_ne, beq_iff_eq, ne_eq]; omega) ?_
      refine CT (SQ (RG ?_))
      refine RR [] .z (.i 6 (.string (ByteArray.mk #[116, 114, 117, 101])) (.d (.d (.d (.k .a))))) .a ?_
      refine RZ (NT (RE (TR (BR (TR ?_)))))
      refine NE [] .z .a [] (.string (ByteArray.mk #[116, 114, 117, 101])) ?_
      rw [if_neg (by omega), if_neg (by omega), if_pos h, if_pos hn]; exact ⟨rfl, rfl⟩
    · refine fn_enter Tryz.func61 rfl 75 rfl fun w0 h0 => ?_
      refine SQ (RG ?_)
      refine RP [] (.d .a) 3 (.d (.k .a)) .a 51 [.int .i64 most, .slice a l.length c] fun g1 => ?_
      refine RP [] (.d .a) 4 (.k (.d (.k .a))) .a 28 [.int .i64 v.k, .int .i64 v.n, .string (mkS v.s)] fun g2 => ?_
      refine RR [] .z (.i 6 (.string ⟨#[]⟩) .a) .a ?_
      refine RZ (NT (SQ (SQ (RG ?_))))
      refine RR [3] .z (.i 11 (.int .i64 v.k) .a) .a ?_
      refine RZ (NT (BK (SQ (RG ?_))))
      refine RR [] .z (.i 12 (.bool (v.k == (0 : Int))) .a) .a ?_
      refine RZ (NT ?_)
      refine SC 12 (v.k == (0 : Int)) false (by simp only [bne_eq_false_iff_eq, beq_eq_false_iff_ne, ne_eq]; omega) ?_
      refine CF (SQ (RG ?_))
      refine RR [] .z (.i 14 (.bool (v.k == (1 : Int))) (.d (.d (.k .a)))) .a ?_
      refine RZ (NT ?_)
      refine SC 14 (v.k == (1 : Int)) false (by simp only [bne_eq_false_iff_eq, beq_eq_false_iff_ne, ne_eq]; omega) ?_
      refine CF (SQ (RG ?_))
      refine RR [] .z (.i 19 (.bool (v.k == (2 : Int))) (.d (.d (.k .a)))) .a ?_
      refine RZ (NT ?_)
      refine SC 19 (v.k == (2 : Int)) true (by simp only [bne_iff_ne, beq_iff_eq, ne_eq]; omega) ?_
      refine CT (SQ (SQ (RG ?_)))
      refine RR [3] .z (.i 23 (.bool (v.n == (1 : Int))) (.d (.d (.d (.k .a))))) .a ?_
      refine RZ (NT ?_)
      refine SC 23 (v.n == (1 : Int)) false (by simp only [bne_eq_false_iff_eq, beq_eq_false_iff_ne, ne_eq]; omega) ?_
      refine CF (SK (NT (SQ (RG ?_))))
      refine RR [] .z (.i 6 (.string (ByteArray.mk #[102, 97, 108, 115, 101])) (.d (.d (.d (.k .a))))) .a ?_
      refine RZ (NT (RE (BR (TR ?_))))
      refine NE [] .z .a [] (.string (ByteArray.mk #[102, 97, 108, 115, 101])) ?_
      rw [if_neg (by omega), if_neg (by omega), if_pos h, if_neg hn]; exact ⟨rfl, rfl⟩
  · refine fn_enter Tryz.func61 rfl 75 rfl fun w0 h0 => ?_
    refine SQ (RG ?_)
    refine RP [] (.d .a) 3 (.d (.k .a)) .a 51 [.int .i64 most, .slice a l.length c] fun g1 => ?_
    refine RP [] (.d .a) 4 (.k (.d (.k .a))) .a 28 [.int .i64 v.k, .int .i64 v.n, .string (mkS v.s)] fun g2 => ?_
    refine RR [] .z (.i 6 (.string ⟨#[]⟩) .a) .a ?_
    refine RZ (NT (SQ (SQ (RG ?_))))
    refine RR [3] .z (.i 11 (.int .i64 v.k) .a) .a ?_
    refine RZ (NT (BK (SQ (RG ?_))))
    refine RR [] .z (.i 12 (.bool (v.k == (0 : Int))) .a) .a ?_
    refine RZ (NT ?_)
    refine SC 12 (v.k == (0 : Int)) false (by simp only [bne_eq_false_iff_eq, beq_eq_false_iff_ne, ne_eq]; omega) ?_
    refine CF (SQ (RG ?_))
    refine RR [] .z (.i 14 (.bool (v.k == (1 : Int))) (.d (.d (.k .a)))) .a ?_
    refine RZ (NT ?_)
    refine SC 14 (v.k == (1 : Int)) false (by simp only [bne_eq_false_iff_eq, beq_eq_false_iff_ne, ne_eq]; omega) ?_
    refine CF (SQ (RG ?_))
    refine RR [] .z (.i 19 (.bool (v.k == (2 : Int))) (.d (.d (.k .a)))) .a ?_
    refine RZ (NT ?_)
    refine SC 19 (v.k == (2 : Int)) false (by simp only [bne_eq_false_iff_eq, beq_eq_false_iff_ne, ne_eq]; omega) ?_
    refine CF (SQ (RG ?_))
    refine RR [] .z (.i 24 (.bool (v.k == (3 : Int))) (.d (.d (.d (.k .a))))) .a ?_
    refine RZ (NT ?_)
    refine SC 24 (v.k == (3 : Int)) true (by simp only [bne_iff_ne, beq_iff_eq, ne_eq]; omega) ?_
    refine CT (SQ (RG ?_))
    refine RR [3] (.d (.d .a)) (.i 27 (.string (mkS v.s)) (.d (.d (.k .a)))) .a ?_
    refine RC (dst := some 28) [] .a (hQ hs) ?_
    rintro r _ ⟨rfl, rfl⟩
    refine RR [] .z (.i 6 (.string (mkS (quoL v.s))) (.d (.d (.d (.k .a))))) .a ?_
    refine RZ (NT (RE (BR (TR ?_))))
    refine NE [] .z .a [] (.string (mkS (quoL v.s))) ?_
    rw [if_neg (by omega), if_neg (by omega), if_neg (by omega), if_pos h]; exact ⟨rfl, rfl⟩
  · exact absurd h hk
theorem rtext_zero (most : Int) (a : Option Addr) (c : Nat) (l : List Ob) (v : V) (hk : v.k = 4) : RTx most a c l 0 v := by
  unfold RTx
  rw [txt_k, if_neg (by omega), if_neg (by omega), if_neg (by omega), if_neg (by omega)]
  unfold valV
  refine fn_enter Tryz.func61 rfl 75 rfl fun w0 h0 => ?_
  refine SQ (RG ?_)
  refine RP [] (.d .a) 3 (.d (.k (.i 2 (.int .i64 0) .z))) .a 51 [.int .i64 most, .slice a l.length c] fun g1 => ?_
  refine RP [] (.d .a) 4 (.k (.d (.k .a))) .a 28 [.int .i64 v.k, .int .i64 v.n, .string (mkS v.s)] fun g2 => ?_
  refine RR [] .z (.i 6 (.string ⟨#[]⟩) .a) .a ?_
  refine RZ (NT (SQ (SQ (RG ?_))))
  refine RR [3] .z (.i 11 (.int .i64 v.k) .a) .a ?_
  refine RZ (NT (BK (SQ (RG ?_))))
  refine RR [] .z (.i 12 (.bool (v.k == (0 : Int))) .a) .a ?_
  refine RZ (NT ?_)
  refine SC 12 (v.k == (0 : Int)) false (by simp only [bne_eq_false_iff_eq, beq_eq_false_iff_ne, ne_eq]; omega) ?_
  refine CF (SQ (RG ?_))
  refine RR [] .z (.i 14 (.bool (v.k == (1 : Int))) (.d (.d (.k .a)))) .a ?_
  refine RZ (NT ?_)
  refine SC 14 (v.k == (1 : Int)) false (by simp only [bne_eq_false_iff_eq, beq_eq_false_iff_ne, ne_eq]; omega) ?_
  refine CF (SQ (RG ?_))
  refine RR [] .z (.i 19 (.bool (v.k == (2 : Int))) (.d (.d (.k .a)))) .a ?_
  refine RZ (NT ?_)
  refine SC 19 (v.k == (2 : Int)) false (by simp only [bne_eq_false_iff_eq, beq_eq_false_iff_ne, ne_eq]; omega) ?_
  refine CF (SQ (RG ?_))
  refine RR [] .z (.i 24 (.bool (v.k == (3 : Int))) (.d (.d (.d (.k .a))))) .a ?_
  refine RZ (NT ?_)
  refine SC 24 (v.k == (3 : Int)) false (by simp only [bne_eq_false_iff_eq, beq_eq_false_iff_ne, ne_eq]; omega) ?_
  refine CF (SK (BN (NT (SQ (SQ (RG ?_))))))
  refine RR [] .z (.i 30 (.bool true) (.d (.d (.k .a)))) .a ?_
  refine RZ (NT (CT (SQ (RG ?_))))
  refine RR [] .z (.i 6 (.string (ByteArray.mk #[46, 46, 46])) (.d (.d (.k .a)))) .a ?_
  refine RZ (NT (RE (TR ?_)))
  refine NE [] .z .a [] (.string (ByteArray.mk #[46, 46, 46])) ?_
  exact ⟨rfl, rfl⟩
theorem objT_nil {f : V → List UInt8} {o : O} {S : List UInt8} (h : o.1 = []) (hS : S = cellsT f o.2) : objT f o = [91] ++ S ++ [93] := by
  unfold objT; rw [if_pos h, hS]
theorem objT_tag {f : V → List UInt8} {o : O} {S : List UInt8} (h : o.1 ≠ []) (hS : S = cellsT f o.2) : objT f o = o.1 ++ [40] ++ S ++ [41] := by
  unfold objT; rw [if_neg h, hS]
theorem rtext_succ (most : Int) (a : Option Addr) (c : Nat) (l : List Ob) (d : Nat) (hd9 : d ≤ 2) (hl4 : l.length ≤ 1048576) (hV : ∀ v, showV l.length v → RTx most a c l d v) (hL : okHeap (l.map Ob.o)) (v : V) (hv : showV l.length v) (hk : v.k = 4) : RTx most a c l (d + 1) v := by
  have hr2 : refB v l.length = true := by unfold refB; rw [hv.2.2, decide_eq_true hk]; rfl
  obtain ⟨_, hs0, hn0, hnl⟩ := refB_lt hr2
  have hq : v.n.toNat < l.length := by omega
  unfold RTx at hV ⊢
  rw [txt_k, if_neg (by omega), if_neg (by omega), if_neg (by omega), if_neg (by omega)]
  show Does _ _ _ _ (fun r hp' => r = .string (mkS (objT (txt (l.map Ob.o) d) (objAt (l.map Ob.o) v))) ∧ hp' = [])
  rw [objAt_map hq]
  obtain ⟨o, ho⟩ : ∃ o, o = l[v.n.toNat] := ⟨_, rfl⟩
  obtain ⟨f, hf⟩ : ∃ f, f = txt (l.map Ob.o) d := ⟨_, rfl⟩
  obtain ⟨ho1, ho2, ho3⟩ := hL l[v.n.toNat].o (List.mem_map.2 ⟨_, List.getElem_mem hq, rfl⟩)
  rw [← ho, ← hf]
  rw [List.length_map] at ho3
  have hB : tB d ≤ 20000000 := by
    match d, hd9 with
    | 0, _ => decide
    | 1, _ => decide
    | 2, _ => decide
  have hfl : ∀ u ∈ l[v.n.toNat].cells, (f u).length ≤ tB d := fun u hu => by
    rw [hf]; exact txt_len hL d u (by rw [List.length_map]; exact ho3 u hu)
  have hsl : ∀ i, i ≤ l[v.n.toNat].cells.length → i ≤ 8 → (sepP f l[v.n.toNat].cells i).length ≤ 8 * 20000002 := fun i h1 h2 =>
    Nat.le_trans (sepP_len hfl i h1) (Nat.mul_le_mul h2 (by omega))
  have hcs : (cellsT f l[v.n.toNat].cells).length ≤ 8 * 20000002 + 5 := Nat.le_trans (cellsT_len hfl) (by omega)
  have htl : l[v.n.toNat].tag.length ≤ 1048576 := ho1
  refine does_fact (fun w h => ro_addr h 0 rfl (by rw [objs_len]; omega)) ?_
  rintro ⟨g0, o0, rfl⟩
  rw [show ((d : Nat) : Int) = ((d + 1 : Nat) : Int) - 1 by omega] at hV
  unfold valV at hV ⊢
  refine fn_enter Tryz.func61 rfl 75 rfl fun w0 h0 => ?_
  refine SQ (RG ?_)
  refine RP [] (.d .a) 3 (.d (.k .a)) .a 51 [.int .i64 most, .slice (some ⟨g0, o0, none⟩) l.length c] fun g1 => ?_
  refine RP [] (.d .a) 4 (.k (.d (.k .a))) .a 28 [.int .i64 v.k, .int .i64 v.n, .string (mkS v.s)] fun g2 => ?_
  refine RR [] .z (.i 6 (.string ⟨#[]⟩) .a) .a ?_
  refine RZ (NT (SQ (SQ (RG ?_))))
  refine RR [3] .z (.i 11 (.int .i64 v.k) .a) .a ?_
  refine RZ (NT (BK (SQ (RG ?_))))
  refine RR [] .z (.i 12 (.bool (v.k == (0 : Int))) .a) .a ?_
  refine RZ (NT ?_)
  refine SC 12 (v.k == (0 : Int)) false (by simp only [bne_eq_false_iff_eq, beq_eq_false_iff_ne, ne_eq]; omega) ?_
  refine CF (SQ (RG ?_))
  refine RR [] .z (.i 14 (.bool (v.k == (1 : Int))) (.d (.d (.k .a)))) .a ?_
  refine RZ (NT ?_)
  refine SC 14 (v.k == (1 : Int)) false (by simp only [bne_eq_false_iff_eq, beq_eq_false_iff_ne, ne_eq]; omega) ?_
  refine CF (SQ (RG ?_))
  refine RR [] .z (.i 19 (.bool (v.k == (2 : Int))) (.d (.d (.k .a)))) .a ?_
  refine RZ (NT ?_)
  refine SC 19 (v.k == (2 : Int)) false (by simp only [bne_eq_false_iff_eq, beq_eq_false_iff_ne, ne_eq]; omega) ?_
  refine CF (SQ (RG ?_))
  refine RR [] .z (.i 24 (.bool (v.k == (3 : Int))) (.d (.d (.d (.k .a))))) .a ?_
  refine RZ (NT ?_)
  refine SC 24 (v.k == (3 : Int)) false (by simp only [bne_eq_false_iff_eq, beq_eq_false_iff_ne, ne_eq]; omega) ?_
  refine CF (SK (BN (NT (SQ (SQ (RG ?_))))))
  refine RR [] .z (.i 30 (.bool false) (.d (.d (.k .a)))) .a ?_
  refine RZ (NT (CF (SK (NT (SQ (RG ?_))))))
  refine RV true [2, 3] (.d (.d (.d (.d (.d .a))))) (.i 35 (.pointer (some (Addr.mk g0 (o0 + Int.toNat (V.n v) * 2) none))) (.d (.k (.d (.k .a))))) .a [(0 : Int) ≤ v.n ∧ v.n < (↑l.length : Int)] ⟨by omega, trivial⟩ ?_
  refine wpr_eq (ld (t := 43) (a := (Addr.mk g0 (o0 + Int.toNat (V.n v) * 2) none)) (dst := some 36) (by kernel_rfl) true 2 (by kernel_rfl) (by simp) (objC l[v.n.toNat]) rfl (fun w h => ld_ro h 0 rfl (v.n.toNat * 2) (objs_at hq))) ?_
  refine RP [] (.d .a) 7 (.i 36 (.agg #[.string (mkS (Ob.tag l[Int.toNat (V.n v)])), .slice (Ob.a l[Int.toNat (V.n v)]) (List.length (Ob.cells l[Int.toNat (V.n v)])) (Ob.c l[Int.toNat (V.n v)])]) (.d (.d (.k .a)))) .a 43 [.string ⟨#[]⟩, .slice none 0 0] fun g3 => ?_
  refine RR [4, 4] .z (.k (.d (.k .a))) (.k (.k (.k (.k (.u (.i (.string (mkS (Ob.tag l[Int.toNat (V.n v)]))) (.i (.slice (Ob.a l[Int.toNat (V.n v)]) (List.length (Ob.cells l[Int.toNat (V.n v)])) (Ob.c l[Int.toNat (V.n v)])) .z)) .a))))) ?_
  refine RZ (NT (SQ (RG ?_)))
  refine RR [] .z (.i 8 (.string ⟨#[]⟩) .a) .a ?_
  refine RZ (NT (SQ (SQ (RG ?_))))
  refine RR [] .z (.i 9 (.int .i64 0) .a) .a ?_
  refine RZ (NT (BK ?_))
  refine wpc_loop (X := {i : Nat // i ≤ l[v.n.toNat].cells.length ∧ i ≤ 8}) (fun x => St.mk [(9, .int .i64 (x.1 : Int)), (8, .string (mkS (sepP f l[v.n.toNat].cells x.1))), (7, .pointer (some ⟨g3, 0, none⟩)), (6, .string ⟨#[]⟩), (3, .pointer (some ⟨g1, 0, none⟩)), (2, .int .i64 ((d + 1 : Nat) : Int))]
    [ro (some ⟨g0, o0, none⟩) (l.flatMap objC), gBag l, .blk g1 51 [.int .i64 most, .slice (some ⟨g0, o0, none⟩) l.length c], .blk g3 43 [.string (mkS l[v.n.toNat].tag), .slice l[v.n.toNat].a l[v.n.toNat].cells.length l[v.n.toNat].c]]) (fun x => l[v.n.toNat].cells.length - x.1) ⟨0, Nat.zero_le _, by decide⟩ ?_ ?_
  · exact Ent.trans (ent_hp [0, 0, 0, 1] rfl) (ent_fr (by kernel_rfl))
  rintro ⟨i, hi, hi8⟩
  dsimp only at hi hi8 ⊢
  have hsi := hsl i hi hi8
  by_cases hlt : i < l[v.n.toNat].cells.length
  · by_cases h8 : i = 8
    · subst h8
      have hS : sepP f l[v.n.toNat].cells 8 ++ [44, 32] ++ [46, 46, 46] = cellsT f o.o.2 := by
        rw [ho]; show _ = cellsT f l[v.n.toNat].cells
        unfold cellsT; rw [if_pos hlt, List.append_assoc]; rfl
      refine SQ (SQ (RG ?_))
      refine RR [3] .z (.i 41 (.bool (decide ((8 : Int) < (↑(List.length (Ob.cells l[Int.toNat (V.n v)])) : Int)))) (.i 9 (.int .i64 8) (.d (.k .a)))) .a ?_
      refine RZ (NT ?_)
      refine SC 41 (decide ((8 : Int) < (↑(List.length (Ob.cells l[Int.toNat (V.n v)])) : Int))) true (decide_eq_true (by omega)) ?_
      refine CT (SK (NT (SQ (BK (SQ (SQ (RG ?_)))))))
      refine RR [] .z (.i 45 (.bool true) (.d (.d (.k .a)))) .a ?_
      refine RZ (NT (CT (RG ?_)))
      refine RV true [] .z (.i 8 (.string (mkS (sepP f (Ob.cells l[Int.toNat (V.n v)]) 8 ++ [44, 32]))) (.d (.k (.d (.k .a))))) .a ([List.length (sepP f (Ob.cells l[Int.toNat (V.n v)]) (8 : Nat)) + ByteArray.size (ByteArray.mk #[(44 : UInt8), (32 : UInt8)]) ≤ (9223372036854775807 : Nat)]) ⟨by simp only [List.length_append, List.length_cons, List.length_nil, show ∀ l : List UInt8, (ByteArray.mk l.toArray).size = l.length from fun _ => rfl]; omega, trivial⟩ ?_
      refine RZ (NT (SQ (SQ (RG ?_))))
      refine RR [] .z (.i 49 (.bool true) .a) .a ?_
      refine RZ (NT (CT (SQ (RG ?_))))
      refine RV true [] .z (.i 8 (.string (mkS (sepP f (Ob.cells l[Int.toNat (V.n v)]) 8 ++ [44, 32] ++ [46, 46, 46]))) (.d (.d (.k .a)))) .a ([List.length (sepP f (Ob.cells l[Int.toNat (V.n v)]) (8 : Nat) ++ [(44 : UInt8), (32 : UInt8)]) + ByteArray.size (ByteArray.mk #[(46 : UInt8), (46 : UInt8), (46 : UInt8)]) ≤ (9223372036854775807 : Nat)]) ⟨by simp only [List.length_append, List.length_cons, List.length_nil, show ∀ l : List UInt8, (ByteArray.mk l.toArray).size = l.length from fun _ => rfl]; omega, trivial⟩ ?_
      refine RZ (NT (EX (TE (BF (TE (TE (BH (NT (SQ (SQ (RG ?_)))))))))))
      refine RR [3] .z (.i 65 (.bool (decide (Ob.tag l[Int.toNat (V.n v)] = []))) (.k (.d (.k (.k .z))))) .a ?_
      refine RZ (NT ?_)
      by_cases htg : l[v.n.toNat].tag = []
      · refine SC 65 (decide (Ob.tag l[Int.toNat (V.n v)] = [])) true (decide_eq_true htg) ?_
        refine CT (SQ (RG ?_))
        refine RV true [] .z (.i 6 (.string (mkS ([91] ++ (sepP f (Ob.cells l[Int.toNat (V.n v)]) 8 ++ [44, 32] ++ [46, 46, 46]) ++ [93]))) (.d (.d (.k (.k .z))))) .a ([ByteArray.size (ByteArray.mk #[(91 : UInt8)]) + List.length (sepP f (Ob.cells l[Int.toNat (V.n v)]) (8 : Nat) ++ [(44 : UInt8), (32 : UInt8)] ++ [(46 : UInt8), (46 : UInt8), (46 : UInt8)]) ≤ (9223372036854775807 : Nat), List.length ([(91 : UInt8)] ++ (sepP f (Ob.cells l[Int.toNat (V.n v)]) (8 : Nat) ++ [(44 : UInt8), (32 : UInt8)] ++ [(46 : UInt8), (46 : UInt8), (46 : UInt8)])) + ByteArray.size (ByteArray.mk #[(93 : UInt8)]) ≤ (9223372036854775807 : Nat)]) ⟨by simp only [List.length_append, List.length_cons, List.length_nil, show ∀ l : List UInt8, (ByteArray.mk l.toArray).size = l.length from fun _ => rfl]; omega, by simp only [List.length_append, List.length_cons, List.length_nil, show ∀ l : List UInt8, (ByteArray.mk l.toArray).size = l.length from fun _ => rfl]; omega, trivial⟩ ?_
        refine RZ (NT (RE (TR ?_)))
        refine NE [] .z .a [] (.string (mkS ([91] ++ (sepP f (Ob.cells l[Int.toNat (V.n v)]) 8 ++ [44, 32] ++ [46, 46, 46]) ++ [93]))) ?_
        exact ⟨by rw [objT_nil (show o.o.1 = [] by rw [ho]; exact htg) hS], rfl⟩
      · refine SC 65 (decide (Ob.tag l[Int.toNat (V.n v)] = [])) false (decide_eq_false htg) ?_
        refine CF (SK (NT (SQ (RG ?_))))
        refine RV true [3] .z (.i 6 (.string (mkS (Ob.tag l[Int.toNat (V.n v)] ++ [40] ++ (sepP f (Ob.cells l[Int.toNat (V.n v)]) 8 ++ [44, 32] ++ [46, 46, 46]) ++ [41]))) .z) .a ([List.length (Ob.tag l[Int.toNat (V.n v)]) + ByteArray.size (ByteArray.mk #[(40 : UInt8)]) ≤ (9223372036854775807 : Nat), List.length (Ob.tag l[Int.toNat (V.n v)] ++ [(40 : UInt8)]) + List.length (sepP f (Ob.cells l[Int.toNat (V.n v)]) (8 : Nat) ++ [(44 : UInt8), (32 : UInt8)] ++ [(46 : UInt8), (46 : UInt8), (46 : UInt8)]) ≤ (9223372036854775807 : Nat), List.length (Ob.tag l[Int.toNat (V.n v)] ++ [(40 : UInt8)] ++ (sepP f (Ob.cells l[Int.toNat (V.n v)]) (8 : Nat) ++ [(44 : UInt8), (32 : UInt8)] ++ [(46 : UInt8), (46 : UInt8), (46 : UInt8)])) + ByteArray.size (ByteArray.mk #[(41 : UInt8)]) ≤ (9223372036854775807 : Nat)]) ⟨by simp only [List.length_append, List.length_cons, List.length_nil, show ∀ l : List UInt8, (ByteArray.mk l.toArray).size = l.length from fun _ => rfl]; omega, by simp only [List.length_append, List.length_cons, List.length_nil, show ∀ l : List UInt8, (ByteArray.mk l.toArray).size = l.length from fun _ => rfl]; omega, by simp only [List.length_append, List.length_cons, List.length_nil, show ∀ l : List UInt8, (ByteArray.mk l.toArray).size = l.length from fun _ => rfl]; omega, trivial⟩ ?_
        refine RZ (NT (RE ?_))
        refine NE [] .z .a [] (.string (mkS (Ob.tag l[Int.toNat (V.n v)] ++ [40] ++ (sepP f (Ob.cells l[Int.toNat (V.n v)]) 8 ++ [44, 32] ++ [46, 46, 46]) ++ [41]))) ?_
        exact ⟨by rw [objT_tag (show o.o.1 ≠ [] by rw [ho]; exact htg) hS, ho]; rfl, rfl⟩
    · refine wpc_fact (fun w h => bag_addr h 1 rfl (obRo_in hq) (by rw [vals_len]; omega)) ?_
      rintro ⟨gc, oc, hac⟩
      by_cases h0 : i = 0
      · refine SQ (SQ (RG ?_))
        refine RR [3] .z (.i 41 (.bool (decide ((↑i : Int) < (↑(List.length (Ob.cells l[Int.toNat (V.n v)])) : Int)))) .a) .a ?_
        refine RZ (NT ?_)
        refine SC 41 (decide ((↑i : Int) < (↑(List.length (Ob.cells l[Int.toNat (V.n v)])) : Int))) true (decide_eq_true (by omega)) ?_
        refine CT (SK (NT (SQ (BK (SQ (SQ (RG ?_)))))))
        refine RR [] .z (.i 45 (.bool (decide ((↑i : Int) > (0 : Int)))) (.d (.d (.k .a)))) .a ?_
        refine RZ (NT ?_)
        refine SC 45 (decide ((↑i : Int) > (0 : Int))) false (decide_eq_false (by omega)) ?_
        refine CF (SK (NT (SQ (SQ (RG ?_)))))
        refine RR [] .z (.i 49 (.bool ((↑i : Int) == (8 : Int))) (.d (.d (.k .a)))) .a ?_
        refine RZ (NT ?_)
        refine SC 49 ((↑i : Int) == (8 : Int)) false (by simp only [bne_eq_false_iff_eq, beq_eq_false_iff_ne, ne_eq]; omega) ?_
        refine CF (SK (NT ?_))
        rw [hac]
        refine wpc_draw (by kernel_rfl) [gBag l, .blk g1 51 [.int .i64 most, .slice (some ⟨g0, o0, none⟩) (List.length l) c], .blk g3 43 [.string (mkS (Ob.tag l[Int.toNat (V.n v)])), .slice (some ⟨gc, oc, none⟩) (List.length (Ob.cells l[Int.toNat (V.n v)])) (Ob.c l[Int.toNat (V.n v)])]] (sub_of [1, 2, 3] (by kernel_rfl)) 12 (by kernel_rfl) ?_
        refine wpa_take true [(0, []), (1, [1, 1]), (2, []), (3, [2]), (4, []), (5, []), (7, []), (8, [])] ([(60, .int .i64 ((↑(d + 1) : Int) - 1)), (57, .pointer (some ⟨gc, oc + i * 3, none⟩)), (53, .agg #[.int .i64 most, .slice (some ⟨g0, o0, none⟩) (List.length l) c]), (52, .string (mkS (sepP f (Ob.cells l[Int.toNat (V.n v)]) i))), (9, .int .i64 (↑i : Int)), (8, .string (mkS (sepP f (Ob.cells l[Int.toNat (V.n v)]) i))), (7, .pointer (some ⟨g3, 0, none⟩)), (6, .string ⟨#[]⟩), (3, .pointer (some ⟨g1, 0, none⟩)), (2, .int .i64 (↑(d + 1) : Int))]) (#[true, true, true, true, true, true, false, true, true, false, false, false]) ([(0 : Int) ≤ (↑i : Int) ∧ (↑i : Int) < (↑(List.length (Ob.cells l[Int.toNat (V.n v)])) : Int), inI64 ((↑(d + (1 : Nat)) : Int) - (1 : Int))]) (n := 4) (by kernel_rfl) (by kernel_rfl) (by kernel_rfl) ⟨by omega, by unfold inI64; omega, trivial⟩ ?_
        refine wpa_qld (i := 6) (n := 3) (by kernel_rfl) (by kernel_rfl) (by kernel_rfl) (t := 28) (a := ⟨gc, oc + i * 3, none⟩) (dst := some 58) (by kernel_rfl) true 3 (by kernel_rfl) (by simp) (valC l[v.n.toNat].cells[i]) rfl (fun w h => ld_bagL h 0 rfl (hac ▸ obRo_in hq) (i * 3) (vals_at hlt)) ?_
        refine AC (dst := some 61) 2 9 .a (hV l[v.n.toNat].cells[i] (ho3 _ (List.getElem_mem hlt))) (GV (GV (GI []) 1 view_self) 0 view_ro) [1, 2, 3] ?_
        rintro r _ ⟨rfl, rfl⟩
        rw [← hf]
        have hfi := hfl _ (List.getElem_mem hlt)
        refine wpa_take true [(10, []), (11, [])] ([(8, .string (mkS (sepP f (Ob.cells l[Int.toNat (V.n v)]) i ++ f (Ob.cells l[Int.toNat (V.n v)])[i]))), (9, .int .i64 (↑i : Int)), (7, .pointer (some ⟨g3, 0, none⟩)), (6, .string ⟨#[]⟩), (3, .pointer (some ⟨g1, 0, none⟩)), (2, .int .i64 (↑(d + 1) : Int))]) (#[true, true, true, true, true, true, true, true, true, true, true, true]) ([List.length (sepP f (Ob.cells l[Int.toNat (V.n v)]) i) + List.length (f (Ob.cells l[Int.toNat (V.n v)])[i]) ≤ (9223372036854775807 : Nat)]) (n := 0) (by kernel_rfl) (by kernel_rfl) (by kernel_rfl) ⟨by omega, trivial⟩ ?_
        refine wpa_done 0 (by kernel_rfl) ?_
        refine BN (NT (RG ?_))
        refine RV true [] .z (.i 9 (.int .i64 ((↑i : Int) + 1)) (.k (.d (.k .a)))) .a ([inI64 ((↑i : Int) + (1 : Int))]) ⟨by unfold inI64; omega, trivial⟩ ?_
        refine RZ ?_
        rw [← hac]
        rw [show (sepP f l[v.n.toNat].cells i ++ f l[v.n.toNat].cells[i]) = sepP f l[v.n.toNat].cells (i + 1) from (by rw [sepP_succ f _ i hlt]; simp [h0])]
        exact fun a' w' hS' => ⟨⟨i + 1, hlt, by omega⟩, by dsimp only; omega, ent_fr (by kernel_rfl) _ _ (ent_hp [0, 0, 0, 0] rfl _ _ hS')⟩
      · refine SQ (SQ (RG ?_))
        refine RR [3] .z (.i 41 (.bool (decide ((↑i : Int) < (↑(List.length (Ob.cells l[Int.toNat (V.n v)])) : Int)))) .a) .a ?_
        refine RZ (NT ?_)
        refine SC 41 (decide ((↑i : Int) < (↑(List.length (Ob.cells l[Int.toNat (V.n v)])) : Int))) true (decide_eq_true (by omega)) ?_
        refine CT (SK (NT (SQ (BK (SQ (SQ (RG ?_)))))))
        refine RR [] .z (.i 45 (.bool (decide ((↑i : Int) > (0 : Int)))) (.d (.d (.k .a)))) .a ?_
        refine RZ (NT ?_)
        refine SC 45 (decide ((↑i : Int) > (0 : Int))) true (decide_eq_true (by omega)) ?_
        refine CT (RG ?_)
        refine RV true [] .z (.i 8 (.string (mkS (sepP f (Ob.cells l[Int.toNat (V.n v)]) i ++ [44, 32]))) (.d (.d (.k (.d (.k .a)))))) .a ([List.length (sepP f (Ob.cells l[Int.toNat (V.n v)]) i) + ByteArray.size (ByteArray.mk #[(44 : UInt8), (32 : UInt8)]) ≤ (9223372036854775807 : Nat)]) ⟨by simp only [List.length_append, List.length_cons, List.length_nil, show ∀ l : List UInt8, (ByteArray.mk l.toArray).size = l.length from fun _ => rfl]; omega, trivial⟩ ?_
        refine RZ (NT (SQ (SQ (RG ?_))))
        refine RR [] .z (.i 49 (.bool ((↑i : Int) == (8 : Int))) .a) .a ?_
        refine RZ (NT ?_)
        refine SC 49 ((↑i : Int) == (8 : Int)) false (by simp only [bne_eq_false_iff_eq, beq_eq_false_iff_ne, ne_eq]; omega) ?_
        refine CF (SK (NT ?_))
        rw [hac]
        refine wpc_draw (by kernel_rfl) [gBag l, .blk g1 51 [.int .i64 most, .slice (some ⟨g0, o0, none⟩) (List.length l) c], .blk g3 43 [.string (mkS (Ob.tag l[Int.toNat (V.n v)])), .slice (some ⟨gc, oc, none⟩) (List.length (Ob.cells l[Int.toNat (V.n v)])) (Ob.c l[Int.toNat (V.n v)])]] (sub_of [1, 2, 3] (by kernel_rfl)) 12 (by kernel_rfl) ?_
        refine wpa_take true [(0, []), (1, [1, 1]), (2, []), (3, [2]), (4, []), (5, []), (7, []), (8, [])] ([(60, .int .i64 ((↑(d + 1) : Int) - 1)), (57, .pointer (some ⟨gc, oc + i * 3, none⟩)), (53, .agg #[.int .i64 most, .slice (some ⟨g0, o0, none⟩) (List.length l) c]), (52, .string (mkS (sepP f (Ob.cells l[Int.toNat (V.n v)]) i ++ [44, 32]))), (8, .string (mkS (sepP f (Ob.cells l[Int.toNat (V.n v)]) i ++ [44, 32]))), (9, .int .i64 (↑i : Int)), (7, .pointer (some ⟨g3, 0, none⟩)), (6, .string ⟨#[]⟩), (3, .pointer (some ⟨g1, 0, none⟩)), (2, .int .i64 (↑(d + 1) : Int))]) (#[true, true, true, true, true, true, false, true, true, false, false, false]) ([(0 : Int) ≤ (↑i : Int) ∧ (↑i : Int) < (↑(List.length (Ob.cells l[Int.toNat (V.n v)])) : Int), inI64 ((↑(d + (1 : Nat)) : Int) - (1 : Int))]) (n := 4) (by kernel_rfl) (by kernel_rfl) (by kernel_rfl) ⟨by omega, by unfold inI64; omega, trivial⟩ ?_
        refine wpa_qld (i := 6) (n := 3) (by kernel_rfl) (by kernel_rfl) (by kernel_rfl) (t := 28) (a := ⟨gc, oc + i * 3, none⟩) (dst := some 58) (by kernel_rfl) true 3 (by kernel_rfl) (by simp) (valC l[v.n.toNat].cells[i]) rfl (fun w h => ld_bagL h 0 rfl (hac ▸ obRo_in hq) (i * 3) (vals_at hlt)) ?_
        refine AC (dst := some 61) 2 9 .a (hV l[v.n.toNat].cells[i] (ho3 _ (List.getElem_mem hlt))) (GV (GV (GI []) 1 view_self) 0 view_ro) [1, 2, 3] ?_
        rintro r _ ⟨rfl, rfl⟩
        rw [← hf]
        have hfi := hfl _ (List.getElem_mem hlt)
        refine wpa_take true [(10, []), (11, [])] ([(8, .string (mkS (sepP f (Ob.cells l[Int.toNat (V.n v)]) i ++ [44, 32] ++ f (Ob.cells l[Int.toNat (V.n v)])[i]))), (9, .int .i64 (↑i : Int)), (7, .pointer (some ⟨g3, 0, none⟩)), (6, .string ⟨#[]⟩), (3, .pointer (some ⟨g1, 0, none⟩)), (2, .int .i64 (↑(d + 1) : Int))]) (#[true, true, true, true, true, true, true, true, true, true, true, true]) ([List.length (sepP f (Ob.cells l[Int.toNat (V.n v)]) i ++ [(44 : UInt8), (32 : UInt8)]) + List.length (f (Ob.cells l[Int.toNat (V.n v)])[i]) ≤ (9223372036854775807 : Nat)]) (n := 0) (by kernel_rfl) (by kernel_rfl) (by kernel_rfl) ⟨by simp only [List.length_append, List.length_cons, List.length_nil, show ∀ l : List UInt8, (ByteArray.mk l.toArray).size = l.length from fun _ => rfl]; omega, trivial⟩ ?_
        refine wpa_done 0 (by kernel_rfl) ?_
        refine BN (NT (RG ?_))
        refine RV true [] .z (.i 9 (.int .i64 ((↑i : Int) + 1)) (.k (.d (.k .a)))) .a ([inI64 ((↑i : Int) + (1 : Int))]) ⟨by unfold inI64; omega, trivial⟩ ?_
        refine RZ ?_
        rw [← hac]
        rw [show (sepP f l[v.n.toNat].cells i ++ [44, 32] ++ f l[v.n.toNat].cells[i]) = sepP f l[v.n.toNat].cells (i + 1) from (by rw [sepP_succ f _ i hlt]; simp [h0])]
        exact fun a' w' hS' => ⟨⟨i + 1, hlt, by omega⟩, by dsimp only; omega, ent_fr (by kernel_rfl) _ _ (ent_hp [0, 0, 0, 0] rfl _ _ hS')⟩
  · obtain rfl : i = l[v.n.toNat].cells.length := by omega
    have hS : sepP f l[v.n.toNat].cells l[v.n.toNat].cells.length = cellsT f o.o.2 := by
      rw [ho]; show _ = cellsT f l[v.n.toNat].cells
      unfold cellsT; rw [if_neg (by omega)]
    refine SQ (SQ (RG ?_))
    refine RR [3] .z (.i 41 (.bool (decide ((↑(List.length (Ob.cells l[Int.toNat (V.n v)])) : Int) < (↑(List.length (Ob.cells l[Int.toNat (V.n v)])) : Int)))) .a) .a ?_
    refine RZ (NT ?_)
    refine SC 41 (decide ((↑(List.length (Ob.cells l[Int.toNat (V.n v)])) : Int) < (↑(List.length (Ob.cells l[Int.toNat (V.n v)])) : Int))) false (by simp) ?_
    refine CF (EX (TE (TE (BH (NT (SQ (SQ (RG ?_))))))))
    refine RR [3] .z (.i 65 (.bool (decide (Ob.tag l[Int.toNat (V.n v)] = []))) (.d (.d (.d (.k (.k (.k .z))))))) .a ?_
    refine RZ (NT ?_)
    by_cases htg : l[v.n.toNat].tag = []
    · refine SC 65 (decide (Ob.tag l[Int.toNat (V.n v)] = [])) true (decide_eq_true htg) ?_
      refine CT (SQ (RG ?_))
      refine RV true [] .z (.i 6 (.string (mkS ([91] ++ sepP f (Ob.cells l[Int.toNat (V.n v)]) (List.length (Ob.cells l[Int.toNat (V.n v)])) ++ [93]))) (.d (.d (.k (.k .z))))) .a ([ByteArray.size (ByteArray.mk #[(91 : UInt8)]) + List.length (sepP f (Ob.cells l[Int.toNat (V.n v)]) (List.length (Ob.cells l[Int.toNat (V.n v)]))) ≤ (9223372036854775807 : Nat), List.length ([(91 : UInt8)] ++ sepP f (Ob.cells l[Int.toNat (V.n v)]) (List.length (Ob.cells l[Int.toNat (V.n v)]))) + ByteArray.size (ByteArray.mk #[(93 : UInt8)]) ≤ (9223372036854775807 : Nat)]) ⟨by simp only [List.length_append, List.length_cons, List.length_nil, show ∀ l : List UInt8, (ByteArray.mk l.toArray).size = l.length from fun _ => rfl]; omega, by simp only [List.length_append, List.length_cons, List.length_nil, show ∀ l : List UInt8, (ByteArray.mk l.toArray).size = l.length from fun _ => rfl]; omega, trivial⟩ ?_
      refine RZ (NT (RE (TR ?_)))
      refine NE [] .z .a [] (.string (mkS ([91] ++ sepP f (Ob.cells l[Int.toNat (V.n v)]) (List.length (Ob.cells l[Int.toNat (V.n v)])) ++ [93]))) ?_
      exact ⟨by rw [objT_nil (show o.o.1 = [] by rw [ho]; exact htg) hS], rfl⟩
    · refine SC 65 (decide (Ob.tag l[Int.toNat (V.n v)] = [])) false (decide_eq_false htg) ?_
      refine CF (SK (NT (SQ (RG ?_))))
      refine RV true [3] .z (.i 6 (.string (mkS (Ob.tag l[Int.toNat (V.n v)] ++ [40] ++ sepP f (Ob.cells l[Int.toNat (V.n v)]) (List.length (Ob.cells l[Int.toNat (V.n v)])) ++ [41]))) .z) .a ([List.length (Ob.tag l[Int.toNat (V.n v)]) + ByteArray.size (ByteArray.mk #[(40 : UInt8)]) ≤ (9223372036854775807 : Nat), List.length (Ob.tag l[Int.toNat (V.n v)] ++ [(40 : UInt8)]) + List.length (sepP f (Ob.cells l[Int.toNat (V.n v)]) (List.length (Ob.cells l[Int.toNat (V.n v)]))) ≤ (9223372036854775807 : Nat), List.length (Ob.tag l[Int.toNat (V.n v)] ++ [(40 : UInt8)] ++ sepP f (Ob.cells l[Int.toNat (V.n v)]) (List.length (Ob.cells l[Int.toNat (V.n v)]))) + ByteArray.size (ByteArray.mk #[(41 : UInt8)]) ≤ (9223372036854775807 : Nat)]) ⟨by simp only [List.length_append, List.length_cons, List.length_nil, show ∀ l : List UInt8, (ByteArray.mk l.toArray).size = l.length from fun _ => rfl]; omega, by simp only [List.length_append, List.length_cons, List.length_nil, show ∀ l : List UInt8, (ByteArray.mk l.toArray).size = l.length from fun _ => rfl]; omega, by simp only [List.length_append, List.length_cons, List.length_nil, show ∀ l : List UInt8, (ByteArray.mk l.toArray).size = l.length from fun _ => rfl]; omega, trivial⟩ ?_
      refine RZ (NT (RE ?_))
      refine NE [] .z .a [] (.string (mkS (Ob.tag l[Int.toNat (V.n v)] ++ [40] ++ sepP f (Ob.cells l[Int.toNat (V.n v)]) (List.length (Ob.cells l[Int.toNat (V.n v)])) ++ [41]))) ?_
      exact ⟨by rw [objT_tag (show o.o.1 ≠ [] by rw [ho]; exact htg) hS, ho]; rfl, rfl⟩
theorem rtext_spec (most : Int) (a : Option Addr) (c : Nat) (l : List Ob) (hl4 : l.length ≤ 1048576) (hL : okHeap (l.map Ob.o)) : ∀ d, d ≤ 2 → ∀ v, showV l.length v → RTx most a c l d v
  | 0, _, v, hv => by
    by_cases hk : v.k = 4
    · exact rtext_zero most a c l v hk
    · exact rtext_low most a c l 0 v hv hk
  | d + 1, hd, v, hv => by
    by_cases hk : v.k = 4
    · exact rtext_succ most a c l d (by omega) hl4 (rtext_spec most a c l hl4 hL d (by omega)) hL v hv hk
    · exact rtext_low most a c l (d + 1) v hv hk
theorem rShow_spec (most : Int) (a : Option Addr) (c : Nat) (l : List Ob) (hl4 : l.length ≤ 1048576) (hL : okHeap (l.map Ob.o)) (v : V) (hs : v.sm) (hi : v.i64) :
    Does Tryz.prog 32 [.agg #[.int .i64 most, .slice a l.length c], valV v] [ro a (l.flatMap objC), gBag l] (fun r hp' => r = .string (mkS (showT (l.map Ob.o) v)) ∧ hp' = []) := by
  have hck := Right_spec v l.length hs
  unfold showT
  rw [List.length_map]
  cases hr : rightB v l.length with
  | false =>
    rw [hr] at hck
    unfold valV at hck ⊢
    refine fn_enter Tryz.func32 rfl 22 rfl fun w0 h0 => ?_
    refine SQ (RG ?_)
    refine RP [] (.d .a) 2 (.d (.k .a)) .a 51 [.int .i64 most, .slice a l.length c] fun g1 => ?_
    refine RP [] (.d .a) 3 (.k .z) .a 28 [.int .i64 v.k, .int .i64 v.n, .string (mkS v.s)] fun g2 => ?_
    refine RR [] .z (.i 4 (.string ⟨#[]⟩) .a) .a ?_
    refine RZ (NT (SQ (SQ (RG ?_))))
    refine RR [3, 3, 3, 2] (.d (.d (.d (.d .a)))) (.i 9 (.int .i64 (↑l.length : Int)) (.i 6 (.agg #[.int .i64 v.k, .int .i64 v.n, .string (mkS v.s)]) .a)) .a ?_
    refine RC (dst := some 10) [] .a (hck) ?_
    rintro r _ ⟨rfl, rfl⟩
    refine RR [] .z (.i 11 (.bool true) (.d (.d (.d (.k .a))))) .a ?_
    refine RZ (NT (CT (SQ (RG ?_))))
    refine RR [] .z (.d (.k .a)) .a ?_
    refine RZ (NT (RE (TR ?_)))
    refine NE [] .z .a [] (.string ⟨#[]⟩) ?_
    exact ⟨rfl, rfl⟩
  | true =>
    have ht := rtext_spec most a c l hl4 hL 2 (by decide) v ⟨hs, hi, hr⟩
    unfold RTx at ht
    obtain ⟨T, hT⟩ : ∃ T, T = txt (l.map Ob.o) 2 v := ⟨_, rfl⟩
    have hlen : T.length ≤ 200000000 := by
      rw [hT]
      have := txt_len hL 2 v ⟨hs, hi, by rw [List.length_map]; exact hr⟩
      simp only [tB] at this; omega
    have hTs : (mkS T).size = T.length := mkS_size _
    rw [← hT] at ht ⊢
    rw [hr] at hck
    unfold valV at hck ht ⊢
    refine fn_enter Tryz.func32 rfl 22 rfl fun w0 h0 => ?_
    refine SQ (RG ?_)
    refine RP [] (.d .a) 2 (.d (.k .a)) .a 51 [.int .i64 most, .slice a l.length c] fun g1 => ?_
    refine RP [] (.d .a) 3 (.k .z) .a 28 [.int .i64 v.k, .int .i64 v.n, .string (mkS v.s)] fun g2 => ?_
    refine RR [] .z (.i 4 (.string ⟨#[]⟩) .a) .a ?_
    refine RZ (NT (SQ (SQ (RG ?_))))
    refine RR [3, 3, 3, 2] (.d (.d (.d (.d .a)))) (.i 9 (.int .i64 (↑l.length : Int)) (.i 6 (.agg #[.int .i64 v.k, .int .i64 v.n, .string (mkS v.s)]) .a)) .a ?_
    refine RC (dst := some 10) [] .a (hck) ?_
    rintro r _ ⟨rfl, rfl⟩
    refine RR [] .z (.i 11 (.bool false) (.d (.d (.d (.k .a))))) .a ?_
    refine RZ (NT (CF (SK (NT (SQ (RG ?_))))))
    refine RR [2, 2, 3, 3, 3] (.d (.d .a)) (.i 13 (.agg #[.int .i64 v.k, .int .i64 v.n, .string (mkS v.s)]) (.i 12 (.agg #[.int .i64 most, .slice a l.length c]) (.d (.k .z)))) .a ?_
    refine RCG (dst := some 14) .a (ht) (GV (GV (GI []) 1 view_self) 0 view_ro) ?_
    rintro r _ ⟨rfl, rfl⟩
    have hs48 : (List.take (Int.toNat (197 - 0)) (List.drop (Int.toNat 0) T)).length ≤ 197 := List.length_take_le _ _
    by_cases h200 : 200 < T.length
    · refine RR [] .z (.i 5 (.string (mkS T)) (.d (.d (.d (.k .a))))) .a ?_
      refine RZ (NT (SQ (SQ (RG ?_))))
      refine RR [] .z (.i 17 (.bool (decide ((↑T.length : Int) > (200 : Int)))) .a) .a ?_
      refine RZ (NT ?_)
      refine SC 17 (decide ((↑T.length : Int) > (200 : Int))) true (decide_eq_true (by omega)) ?_
      refine CT (SQ (RG ?_))
      refine RV true [] .z (.i 4 (.string (mkS (List.take (Int.toNat (197 - 0)) (List.drop (Int.toNat 0) T) ++ [46, 46, 46]))) (.d (.d (.k .z)))) .a ([(0 : Int) ≤ (197 : Int) ∧ (197 : Int) ≤ (↑(List.length T) : Int), List.length (List.take (Int.toNat ((197 : Int) - (0 : Int))) (List.drop (Int.toNat (0 : Int)) T)) + ByteArray.size (ByteArray.mk #[(46 : UInt8), (46 : UInt8), (46 : UInt8)]) ≤ (9223372036854775807 : Nat)]) ⟨by omega, by simp only [List.length_append, List.length_cons, List.length_nil, show ∀ l : List UInt8, (ByteArray.mk l.toArray).size = l.length from fun _ => rfl]; omega, trivial⟩ ?_
      refine RZ (NT (RE (TR ?_)))
      refine NE [] .z .a [] (.string (mkS (List.take (Int.toNat (197 - 0)) (List.drop (Int.toNat 0) T) ++ [46, 46, 46]))) ?_
      refine ⟨?_, rfl⟩
      unfold cutT
      rw [if_pos rfl, if_pos h200]; rfl
    · refine RR [] .z (.i 5 (.string (mkS T)) (.d (.d (.d (.k .a))))) .a ?_
      refine RZ (NT (SQ (SQ (RG ?_))))
      refine RR [] .z (.i 17 (.bool (decide ((↑T.length : Int) > (200 : Int)))) .a) .a ?_
      refine RZ (NT ?_)
      refine SC 17 (decide ((↑T.length : Int) > (200 : Int))) false (decide_eq_false (by omega)) ?_
      refine CF (SK (NT (SQ (RG ?_))))
      refine RR [] .z (.i 4 (.string (mkS T)) .z) .a ?_
      refine RZ (NT (RE ?_))
      refine NE [] .z .a [] (.string (mkS T)) ?_
      refine ⟨?_, rfl⟩
      unfold cutT
      rw [if_pos rfl, if_neg h200]
end Go.Proofs.YtpfhleghgkeemaaGreatDoor
