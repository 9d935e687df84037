import Derived.Test.YtpfhleghgkeemaaGreatDoorH43
import Derived.Test.YtpfhleghgkeemaaGreatDoorY2
namespace Go.Proofs.YtpfhleghgkeemaaGreatDoor
open Go Go.Sx
set_option linter.unusedVariables false
set_option linter.unusedSimpArgs false

theorem ok_load {l : List Ob} (h : okObs l.length l = true) (hs : smO l) (hi : ∀ o ∈ l, ∀ v ∈ o.cells, v.i64) : okHeap (l.map Ob.o) := fun o ho => by
  obtain ⟨x, hx, rfl⟩ := List.mem_map.1 ho
  obtain ⟨h1, h2, h3, h4⟩ := hs x hx
  refine ⟨h1, h3, fun v hv => ⟨h4 v hv, hi x hx v hv, ?_⟩⟩
  rw [List.length_map]
  have h5 := List.all_eq_true.1 h x hx
  unfold objB at h5
  simp only [Bool.and_eq_true] at h5
  exact cell_right (List.all_eq_true.1 h5.2 v hv)
set_option maxHeartbeats 4000000 in
theorem HeapLoads_spec (most : Int) (a : Option Addr) (c : Nat) (l : List Ob) (v : V) (n : Int) (hl : l.length ≤ 1048576) (hs : smO l) (hi : ∀ o ∈ l, ∀ v ∈ o.cells, v.i64) (hu : usedO (l.map Ob.o) ≤ 1099511627776) (hv : v.sm) (hvi : v.i64) :
    Does Tryz.prog 6 [.int .i64 most, .slice a l.length c, valV v, .int .i64 n] [ro a (l.flatMap objC), gBag l, gWords, gPow] (fun v hp' => v = .bool true ∧ hp' = []) := by
  have hL := Load_spec most a c l hl hs
  have hR := rLoad_spec most a c l hl hs hu
  have hC := Check_spec v n hv
  have hX := Right_spec v n hv
  have hmo := mostI_le most
  unfold valV at hC hX ⊢
  unfold Hp3 heapB heapR heapS at hL
  unfold heapR heapS at hR
  rw [usedO_eq] at hL
  cases hok : okObs l.length l with
  | false =>
    rw [hok] at hL hR
    simp only [if_true] at hL hR
    refine fn_enter Tryz.func6 rfl 72 rfl fun w0 h0 => ?_
    refine SQ (RG ?_)
    refine RP [] (.d .a) 6 (.k (.k (.d (.k .a)))) .a 28 [.int .i64 v.k, .int .i64 v.n, .string (mkS v.s)] fun g1 => ?_
    refine RR [] .z (.i 8 (.bool false) .a) .a ?_
    refine RZ (NT (SQ (RG ?_)))
    refine RR [] (.d (.d .a)) (.i 15 (.slice a l.length c) (.i 14 (.int .i64 most) .a)) .a ?_
    refine RCG (dst := some 16) .a (hL) (GV (GV (GV (GI []) 2 view_ro) 1 view_self) 0 view_ro) ?_
    rintro r _ ⟨rfl, rfl⟩
    refine RR [] .z (.i 10 (.int .i64 2) (.i 9 (.pointer none) (.d (.d (.d (.k .a)))))) .a ?_
    refine RZ (NT (SQ (RG ?_)))
    refine RR [] (.d (.d .a)) (.i 21 (.slice a l.length c) (.i 20 (.int .i64 most) (.k (.k (.k (.k (.d (.d (.k .a))))))))) .a ?_
    refine RCG (dst := some 22) .a (hR) (GV (GV (GI []) 1 view_self) 0 view_ro) ?_
    rintro r _ ⟨rfl, rfl⟩
    refine RP [] (.d (.d (.d (.d .a)))) 11 (.i 24 (.int .i64 2) (.i 23 (.agg #[.int .i64 0, .slice none 0 0]) (.d (.d (.d (.k .a)))))) .a 51 [.int .i64 0, .slice none 0 0] fun g2 => ?_
    refine RR [5, 5] .z (.i 12 (.int .i64 2) (.k (.d (.d (.k .a))))) .a ?_
    refine RZ (NT (SQ (SQ ?_)))
    refine wpc_draw (by kernel_rfl) [.blk g1 28 [.int .i64 v.k, .int .i64 v.n, .string (mkS v.s)]] (sub_of [4] (by kernel_rfl)) 20 (by kernel_rfl) ?_
    refine TK 5 [(0, []), (1, []), (2, []), (3, []), (4, []), (5, []), (6, []), (7, []), (8, []), (9, []), (10, []), (11, [0, 0, 0]), (12, []), (15, [0, 0, 0]), (16, [])] (.i 41 (.int .i64 n) (.i 40 (.agg #[.int .i64 v.k, .int .i64 v.n, .string (mkS v.s)]) (.i 37 (.int .i64 n) (.i 36 (.agg #[.int .i64 v.k, .int .i64 v.n, .string (mkS v.s)]) (.i 35 (.bool false) (.d (.k (.k (.k (.k (.k .z))))))))))) (#[true, true, true, true, true, true, true, true, true, true, true, true, true, false, false, true, true, false, false, false]) ?_
    refine AC (dst := some 38) 4 13 .a (hC) (GI []) [4] ?_
    rintro r _ ⟨rfl, rfl⟩
    refine TK 3 [(14, [])] (.i 39 (.bool ((if rightB v n = true then (0 : Int) else (2 : Int)) == (0 : Int))) (.d (.k (.k (.d (.d (.k .a))))))) (#[true, true, true, true, true, true, true, true, true, true, true, true, true, true, true, true, true, false, false, false]) ?_
    refine AC (dst := some 42) 2 17 .a (hX) (GI []) [4] ?_
    rintro r _ ⟨rfl, rfl⟩
    refine TK 0 [(18, []), (19, [])] (.i 44 (.bool !((if rightB v n = true then (0 : Int) else (2 : Int)) == (0 : Int)) == rightB v n) (.d (.d (.d (.d (.d (.k .a))))))) (#[true, true, true, true, true, true, true, true, true, true, true, true, true, true, true, true, true, true, true, true]) ?_
    refine wpa_done 0 (by kernel_rfl) ?_
    refine NT ?_
    refine SC 44 (!((if rightB v n = true then (0 : Int) else (2 : Int)) == (0 : Int)) == rightB v n) false (by cases rightB v n <;> rfl) ?_
    refine CF (SK (NT (SQ (SQ (RG ?_)))))
    refine RR [] .z (.i 46 (.bool true) (.d (.d (.k (.d (.k .a)))))) .a ?_
    refine RZ (NT (CT (SQ (RG ?_))))
    refine RCG (dst := some 47) .a (lives_spec) (GV (GV (GI []) 3 view_gPow) 2 view_ro) ?_
    rintro r _ ⟨rfl, rfl⟩
    refine RR [] .z (.i 8 (.bool true) (.d (.d (.k (.k (.d (.k .a))))))) .a ?_
    refine RZ (NT (RE (TR ?_)))
    refine NE [] .z .a [] (.bool true) ?_
    exact ⟨rfl, rfl⟩
  | true =>
    rw [hok] at hL hR
    simp only [Bool.true_eq_false, if_false] at hL hR
    by_cases hf : (usedO (l.map Ob.o) : Int) ≤ mostI most
    · simp only [hf, if_true] at hL hR
      have hokH := ok_load hok hs hi
      refine fn_enter Tryz.func6 rfl 72 rfl fun w0 h0 => ?_
      refine SQ (RG ?_)
      refine RP [] (.d .a) 6 (.k (.k (.d (.k .a)))) .a 28 [.int .i64 v.k, .int .i64 v.n, .string (mkS v.s)] fun g1 => ?_
      refine RR [] .z (.i 8 (.bool false) .a) .a ?_
      refine RZ (NT (SQ (RG ?_)))
      refine RR [] (.d (.d .a)) (.i 15 (.slice a l.length c) (.i 14 (.int .i64 most) .a)) .a ?_
      refine RCG (dst := some 16) .a (hL) (GV (GV (GV (GI []) 2 view_ro) 1 view_self) 0 view_ro) ?_
      rintro r _ ⟨g, a1, c1, l1, hm1, rfl, rfl⟩
      rw [usedO_eq, hm1]
      refine RR [] .z (.i 10 (.int .i64 0) (.i 9 (.pointer (some ⟨g, 0, none⟩)) (.d (.d (.d (.k .a)))))) .a ?_
      refine RZ (NT (SQ (RG ?_)))
      refine RR [] (.d (.d .a)) (.i 21 (.slice a l.length c) (.i 20 (.int .i64 most) (.k (.k (.k (.k (.d (.d (.k .a))))))))) .a ?_
      refine RCG (dst := some 22) .a (hR) (GV (GV (GI []) 4 view_self) 3 view_ro) ?_
      rintro r _ ⟨a2, c2, l2, hm2, rfl, rfl⟩
      refine RP [] (.d (.d (.d (.d .a)))) 11 (.i 24 (.int .i64 0) (.i 23 (.agg #[.int .i64 (mostI most), .slice a2 l2.length c2]) (.d (.d (.d (.k .a)))))) .a 51 [.int .i64 0, .slice none 0 0] fun g2 => ?_
      refine RR [10, 10] .z (.i 12 (.int .i64 0) (.k (.d (.d (.k .a))))) (.k (.k (.k (.k (.k (.k (.k (.k (.k (.k (.u (.i (.int .i64 (mostI most)) (.i (.slice a2 l2.length c2) .z)) .a))))))))))) ?_
      refine RZ (NT (SQ (SQ ?_)))
      refine wpc_draw (by kernel_rfl) [.blk g1 28 [.int .i64 v.k, .int .i64 v.n, .string (mkS v.s)]] (sub_of [9] (by kernel_rfl)) 20 (by kernel_rfl) ?_
      refine TK 5 [(0, []), (1, []), (2, []), (3, []), (4, []), (5, []), (6, []), (7, []), (8, []), (9, []), (10, []), (11, [0, 0, 0]), (12, []), (15, [0, 0, 0]), (16, [])] (.i 41 (.int .i64 n) (.i 40 (.agg #[.int .i64 v.k, .int .i64 v.n, .string (mkS v.s)]) (.i 37 (.int .i64 n) (.i 36 (.agg #[.int .i64 v.k, .int .i64 v.n, .string (mkS v.s)]) (.i 35 (.bool false) (.d (.k (.k (.k (.k (.k .z))))))))))) (#[true, true, true, true, true, true, true, true, true, true, true, true, true, false, false, true, true, false, false, false]) ?_
      refine AC (dst := some 38) 4 13 .a (hC) (GI []) [9] ?_
      rintro r _ ⟨rfl, rfl⟩
      refine TK 3 [(14, [])] (.i 39 (.bool ((if rightB v n = true then (0 : Int) else (2 : Int)) == (0 : Int))) (.d (.k (.k (.d (.d (.k .a))))))) (#[true, true, true, true, true, true, true, true, true, true, true, true, true, true, true, true, true, false, false, false]) ?_
      refine AC (dst := some 42) 2 17 .a (hX) (GI []) [9] ?_
      rintro r _ ⟨rfl, rfl⟩
      refine TK 0 [(18, []), (19, [])] (.i 44 (.bool !((if rightB v n = true then (0 : Int) else (2 : Int)) == (0 : Int)) == rightB v n) (.d (.d (.d (.d (.d (.k .a))))))) (#[true, true, true, true, true, true, true, true, true, true, true, true, true, true, true, true, true, true, true, true]) ?_
      refine wpa_done 0 (by kernel_rfl) ?_
      refine NT ?_
      refine SC 44 (!((if rightB v n = true then (0 : Int) else (2 : Int)) == (0 : Int)) == rightB v n) false (by cases rightB v n <;> rfl) ?_
      refine CF (SK (NT (SQ (SQ (RG ?_)))))
      refine RR [] .z (.i 46 (.bool false) (.d (.d (.k (.d (.k .a)))))) .a ?_
      refine RZ (NT (CF (SK (NT (SQ ?_)))))
      have hll := len_used (l.map Ob.o)
      have hcl : ∀ o ∈ l.map Ob.o, o.2.length ≤ 1048576 := fun o ho => by have := used_cells ho; omega
      have hA := All_o g (mostI most) (usedO (l.map Ob.o)) a1 c1 l1 (l.map Ob.o) hm1 (by omega) hcl
      unfold heapR heapS at hA
      refine wpc_draw (by kernel_rfl) [.blk g1 28 [.int .i64 v.k, .int .i64 v.n, .string (mkS v.s)], .blk g2 51 [.int .i64 (mostI most), .slice a2 l2.length c2]] (sub_of [9, 10] (by kernel_rfl)) 25 (by kernel_rfl) ?_
      refine TK 22 [(0, []), (2, []), (3, [1])] (.i 51 (.slice a2 l2.length c2) (.i 48 (.pointer (some ⟨g, 0, none⟩)) (.d (.k .a)))) (#[true, false, true, true, false, false, false, false, false, false, false, false, false, false, false, false, false, false, false, false, false, false, false, false, false]) ?_
      refine AC (dst := some 49) 21 1 .a (hA) (GV (GV (GV (GI []) 4 view_gBag) 3 view_row) 2 (view_blk0 (by simp [Go.Sx.One, Value.oneCell']))) [9, 10] ?_
      rintro r _ ⟨a3, c3, l3, hm3, rfl, rfl⟩
      have hl2 : l2.length = (l.map Ob.o).length := by rw [← hm2, List.length_map]
      have hl3 : l3.length = (l.map Ob.o).length := by rw [← hm3, List.length_map]
      refine AC (dst := some 52) 20 4 .a (Same_spec a3 c3 l3 a2 c2 l2 (by omega) (by omega) (obs_cl hm3 hcl) (obs_cl hm2 hcl)) (GV (GV (GV (GV (GI []) 3 view_gBag) 2 view_row) 1 view_gBag) 0 view_row) [11, 12] ?_
      rintro r _ ⟨rfl, rfl⟩
      rw [hm3, hm2, decide_eq_true rfl]
      refine TK 17 [(5, []), (6, []), (8, [1, 1])] (.i 56 (.agg #[.int .i64 (mostI most), .slice a2 l2.length c2]) (.i 54 (.pointer (some ⟨g, 0, none⟩)) (.i 53 (.bool true) (.d (.d (.d (.d (.k .a)))))))) (#[true, true, true, true, true, true, true, false, true, false, false, false, false, false, false, false, false, false, false, false, false, false, false, false, false]) ?_
      refine AC (dst := some 55) 16 7 (.k (.k (.k (.k (.d (.k .a)))))) (Used_spec g (mostI most) (usedO (l.map Ob.o)) (.slice a1 l1.length c1)) (GI [4]) [10, 11] ?_
      rintro r _ ⟨rfl, rfl⟩
      have hus := rUsed_spec (mostI most) a2 c2 l2 (by omega) (by rw [hm2]; exact hu)
      rw [hm2] at hus
      refine AC (dst := some 57) 15 9 .a (hus) (GV (GI []) 3 view_row) [11, 12] ?_
      rintro r _ ⟨rfl, rfl⟩
      refine TK 12 [(10, []), (11, []), (12, [])] (.i 60 (.bool ((↑(usedO (List.map Ob.o l)) : Int) == (↑(usedO (List.map Ob.o l)) : Int))) (.d (.d (.d (.d (.d (.k .a))))))) (#[true, true, true, true, true, true, true, true, true, true, true, true, true, false, false, false, false, false, false, false, false, false, false, false, false]) ?_
      refine SA 60 ((↑(usedO (List.map Ob.o l)) : Int) == (↑(usedO (List.map Ob.o l)) : Int)) true (by simp) ?_
      refine TK 8 [(13, []), (14, [0, 0, 0]), (16, [1, 1]), (17, [0, 0, 0])] (.i 65 (.agg #[.int .i64 v.k, .int .i64 v.n, .string (mkS v.s)]) (.i 64 (.agg #[.int .i64 (mostI most), .slice a2 l2.length c2]) (.i 62 (.agg #[.int .i64 v.k, .int .i64 v.n, .string (mkS v.s)]) (.i 61 (.pointer (some ⟨g, 0, none⟩)) (.k (.d (.d (.d (.k .z))))))))) (#[true, true, true, true, true, true, true, true, true, true, true, true, true, true, true, false, true, true, false, false, false, false, false, false, false]) ?_
      have hS1 := Show_o g (mostI most) a1 c1 l1 (l.map Ob.o) hm1 (by omega) hokH v hv hvi
      have hS2 := rShow_spec (mostI most) a2 c2 l2 (by omega) (by rw [hm2]; exact hokH) v hv hvi
      rw [hm2] at hS2
      unfold valV at hS1 hS2
      refine AC (dst := some 63) 7 15 .a (hS1) (GV (GV (GV (GV (GI []) 10 view_gPow) 6 view_gBag) 5 view_row) 0 (view_blk0 (by simp [Go.Sx.One, Value.oneCell']))) [11, 12] ?_
      rintro r _ ⟨rfl, rfl⟩
      refine AC (dst := some 66) 6 18 .a (hS2) (GV (GV (GI []) 4 view_gBag) 3 view_row) [11, 12] ?_
      rintro r _ ⟨rfl, rfl⟩
      refine TK 3 [(19, []), (20, []), (21, [])] (.i 69 (.bool (decide (showT (List.map Ob.o l) v = showT (List.map Ob.o l) v))) (.d (.d (.d (.d (.d (.d (.d (.k .a))))))))) (#[true, true, true, true, true, true, true, true, true, true, true, true, true, true, true, true, true, true, true, true, true, true, false, false, false]) ?_
      refine SA 69 (decide (showT (List.map Ob.o l) v = showT (List.map Ob.o l) v)) true (by simp) ?_
      refine AC (dst := some 70) 2 22 .a (lives_spec) (GV (GV (GI []) 10 view_gPow) 9 view_ro) [11, 12] ?_
      rintro r _ ⟨rfl, rfl⟩
      refine TK 0 [(23, []), (24, [])] (.i 8 (.bool true) .z) (#[true, true, true, true, true, true, true, true, true, true, true, true, true, true, true, true, true, true, true, true, true, true, true, true, true]) ?_
      refine wpa_done 0 (by kernel_rfl) ?_
      refine NT (RE ?_)
      refine NE [] .z .a [] (.bool true) ?_
      exact ⟨rfl, rfl⟩
    · simp only [hf, if_false] at hL hR
      refine fn_enter Tryz.func6 rfl 72 rfl fun w0 h0 => ?_
      refine SQ (RG ?_)
      refine RP [] (.d .a) 6 (.k (.k (.d (.k .a)))) .a 28 [.int .i64 v.k, .int .i64 v.n, .string (mkS v.s)] fun g1 => ?_
      refine RR [] .z (.i 8 (.bool false) .a) .a ?_
      refine RZ (NT (SQ (RG ?_)))
      refine RR [] (.d (.d .a)) (.i 15 (.slice a l.length c) (.i 14 (.int .i64 most) .a)) .a ?_
      refine RCG (dst := some 16) .a (hL) (GV (GV (GV (GI []) 2 view_ro) 1 view_self) 0 view_ro) ?_
      rintro r _ ⟨rfl, rfl⟩
      refine RR [] .z (.i 10 (.int .i64 12) (.i 9 (.pointer none) (.d (.d (.d (.k .a)))))) .a ?_
      refine RZ (NT (SQ (RG ?_)))
      refine RR [] (.d (.d .a)) (.i 21 (.slice a l.length c) (.i 20 (.int .i64 most) (.k (.k (.k (.k (.d (.d (.k .a))))))))) .a ?_
      refine RCG (dst := some 22) .a (hR) (GV (GV (GI []) 1 view_self) 0 view_ro) ?_
      rintro r _ ⟨rfl, rfl⟩
      refine RP [] (.d (.d (.d (.d .a)))) 11 (.i 24 (.int .i64 12) (.i 23 (.agg #[.int .i64 0, .slice none 0 0]) (.d (.d (.d (.k .a)))))) .a 51 [.int .i64 0, .slice none 0 0] fun g2 => ?_
      refine RR [5, 5] .z (.i 12 (.int .i64 12) (.k (.d (.d (.k .a))))) .a ?_
      refine RZ (NT (SQ (SQ ?_)))
      refine wpc_draw (by kernel_rfl) [.blk g1 28 [.int .i64 v.k, .int .i64 v.n, .string (mkS v.s)]] (sub_of [4] (by kernel_rfl)) 20 (by kernel_rfl) ?_
      refine TK 5 [(0, []), (1, []), (2, []), (3, []), (4, []), (5, []), (6, []), (7, []), (8, []), (9, []), (10, []), (11, [0, 0, 0]), (12, []), (15, [0, 0, 0]), (16, [])] (.i 41 (.int .i64 n) (.i 40 (.agg #[.int .i64 v.k, .int .i64 v.n, .string (mkS v.s)]) (.i 37 (.int .i64 n) (.i 36 (.agg #[.int .i64 v.k, .int .i64 v.n, .string (mkS v.s)]) (.i 35 (.bool false) (.d (.k (.k (.k (.k (.k .z))))))))))) (#[true, true, true, true, true, true, true, true, true, true, true, true, true, false, false, true, true, false, false, false]) ?_
      refine AC (dst := some 38) 4 13 .a (hC) (GI []) [4] ?_
      rintro r _ ⟨rfl, rfl⟩
      refine TK 3 [(14, [])] (.i 39 (.bool ((if rightB v n = true then (0 : Int) else (2 : Int)) == (0 : Int))) (.d (.k (.k (.d (.d (.k .a))))))) (#[true, true, true, true, true, true, true, true, true, true, true, true, true, true, true, true, true, false, false, false]) ?_
      refine AC (dst := some 42) 2 17 .a (hX) (GI []) [4] ?_
      rintro r _ ⟨rfl, rfl⟩
      refine TK 0 [(18, []), (19, [])] (.i 44 (.bool !((if rightB v n = true then (0 : Int) else (2 : Int)) == (0 : Int)) == rightB v n) (.d (.d (.d (.d (.d (.k .a))))))) (#[true, true, true, true, true, true, true, true, true, true, true, true, true, true, true, true, true, true, true, true]) ?_
      refine wpa_done 0 (by kernel_rfl) ?_
      refine NT ?_
      refine SC 44 (!((if rightB v n = true then (0 : Int) else (2 : Int)) == (0 : Int)) == rightB v n) false (by cases rightB v n <;> rfl) ?_
      refine CF (SK (NT (SQ (SQ (RG ?_)))))
      refine RR [] .z (.i 46 (.bool true) (.d (.d (.k (.d (.k .a)))))) .a ?_
      refine RZ (NT (CT (SQ (RG ?_))))
      refine RCG (dst := some 47) .a (lives_spec) (GV (GV (GI []) 3 view_gPow) 2 view_ro) ?_
      rintro r _ ⟨rfl, rfl⟩
      refine RR [] .z (.i 8 (.bool true) (.d (.d (.k (.k (.d (.k .a))))))) .a ?_
      refine RZ (NT (RE (TR ?_)))
      refine NE [] .z .a [] (.bool true) ?_
      exact ⟨rfl, rfl⟩
end Go.Proofs.YtpfhleghgkeemaaGreatDoor
