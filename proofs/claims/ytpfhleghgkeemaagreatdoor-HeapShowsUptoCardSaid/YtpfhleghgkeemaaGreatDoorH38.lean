import Derived.Test.YtpfhleghgkeemaaGreatDoorH37
import Derived.Test.YtpfhleghgkeemaaGreatDoorY2
namespace Go.Proofs.YtpfhleghgkeemaaGreatDoor
open Go Go.Sx
set_option linter.unusedVariables false
set_option linter.unusedSimpArgs false

/-- Two numbers made an object: by the next number, or there is no room. -/
theorem alloc_two (L : List O) (n : Int) : (allocR 4096 L [] [numV n, numV n]).2.2 = 0 → (allocR 4096 L [] [numV n, numV n]).1 = L ++ [([], [numV n, numV n])] ∧ (allocR 4096 L [] [numV n, numV n]).2.1 = atV L.length := by
  unfold allocR
  split
  · split
    · exact fun _ => ⟨rfl, rfl⟩
    · intro h; cases h
  · intro h; cases h
set_option maxHeartbeats 4000000 in
theorem HeapShows_spec (a : Option Addr) (c : Nat) (l : List At) (v : V) (n : Int) (hl : l.length ≤ 1048576) (hs : ∀ t ∈ l, t.ok) (hv : v.sm) (hvi : v.i64) (hn : -9223372036854775808 ≤ n ∧ n ≤ 9223372036854775807) :
    Does Tryz.prog 5 [.slice a l.length c, valV v, .int .i64 n] [ro a (l.flatMap actC), gActs l, gWords, gPow] (fun v hp' => v = .bool true ∧ hp' = []) := by
  unfold valV
  by_cases h60 : 60 < l.length
  · refine fn_enter Tryz.func5 rfl 80 rfl fun w0 h0 => ?_
    refine SQ (RG ?_)
    refine RP [] (.d .a) 4 (.k (.d (.k .a))) .a 28 [.int .i64 v.k, .int .i64 v.n, .string (mkS v.s)] fun g1 => ?_
    refine RR [] .z (.i 6 (.bool false) .a) (.k (.k (.k (.k (.i (.blk g1 28 [.int .i64 v.k, .int .i64 v.n, .string (mkS v.s)]) .z))))) ?_
    refine RZ (NT (SQ (SQ (RG ?_))))
    refine RR [] .z (.i 14 (.bool (decide ((↑l.length : Int) > (60 : Int)))) .a) (.k (.k (.k (.k (.i (.blk g1 28 [.int .i64 v.k, .int .i64 v.n, .string (mkS v.s)]) .z))))) ?_
    refine RZ (NT ?_)
    refine SC 14 (decide ((↑l.length : Int) > (60 : Int))) true (decide_eq_true (by omega)) ?_
    refine CT (SQ (RG ?_))
    refine RCG (dst := some 15) (.k (.k (.k (.k (.i (.blk g1 28 [.int .i64 v.k, .int .i64 v.n, .string (mkS v.s)]) .z))))) (lives_spec) (GV (GV (GI []) 3 view_gPow) 2 view_ro) ?_
    rintro v _ ⟨rfl, rfl⟩
    refine RR [] .z (.i 6 (.bool true) (.d (.d (.d (.d (.k .a)))))) (.k (.k (.k (.k (.i (.blk g1 28 [.int .i64 v.k, .int .i64 v.n, .string (mkS v.s)]) .z))))) ?_
    refine RZ (NT (RE (TR ?_)))
    refine NE [] .z (.k (.k (.k (.k (.i (.blk g1 28 [.int .i64 v.k, .int .i64 v.n, .string (mkS v.s)]) .z))))) [] (.bool true) ?_
    exact ⟨rfl, rfl⟩
  · obtain ⟨L, hL⟩ : ∃ L, L = l.foldl doneR [] := ⟨_, rfl⟩
    have hd := done_spec a c l hl hs
    rw [← hL] at hd
    have hu : usedO L ≤ 4096 := by rw [hL]; exact fold_used _ _ (by decide)
    have hok : okHeap L := by rw [hL]; exact ok_fold _ _ okHeap_nil hs
    have hll := len_used L
    have hcl : ∀ o ∈ L, o.2.length ≤ 1048576 := fun o ho => by have := used_cells ho; omega
    unfold heapB heapR heapS at hd
    refine fn_enter Tryz.func5 rfl 80 rfl fun w0 h0 => ?_
    refine SQ (RG ?_)
    refine RP [] (.d .a) 4 (.k (.d (.k .a))) .a 28 [.int .i64 v.k, .int .i64 v.n, .string (mkS v.s)] fun g1 => ?_
    refine RR [] .z (.i 6 (.bool false) .a) (.k (.k (.k (.k (.i (.blk g1 28 [.int .i64 v.k, .int .i64 v.n, .string (mkS v.s)]) .z))))) ?_
    refine RZ (NT (SQ (SQ (RG ?_))))
    refine RR [] .z (.i 14 (.bool (decide ((↑l.length : Int) > (60 : Int)))) .a) (.k (.k (.k (.k (.i (.blk g1 28 [.int .i64 v.k, .int .i64 v.n, .string (mkS v.s)]) .z))))) ?_
    refine RZ (NT ?_)
    refine SC 14 (decide ((↑l.length : Int) > (60 : Int))) false (decide_eq_false (by omega)) ?_
    refine CF (SK (NT (SQ (RG ?_))))
    refine RR [] (.d .a) (.i 16 (.slice a l.length c) (.d (.d (.k (.k (.d (.k .a))))))) (.k (.k (.k (.k (.i (.blk g1 28 [.int .i64 v.k, .int .i64 v.n, .string (mkS v.s)]) .z))))) ?_
    refine RCG (dst := some 17) (.k (.k (.k (.k (.i (.blk g1 28 [.int .i64 v.k, .int .i64 v.n, .string (mkS v.s)]) .z))))) (hd) (GV (GV (GV (GI []) 2 view_ro) 1 view_self) 0 view_ro) ?_
    rintro r _ ⟨g, a1, c1, l1, hm1, rfl, rfl⟩
    refine RR [] .z (.i 7 (.pointer (some ⟨g, 0, none⟩)) (.d (.d (.k .a)))) (.i (.blk g 59 [.bool true, .int .i64 4096, .int .i64 (↑(usedO L) : Int), .slice a1 l1.length c1]) (.d (.k (.k (.k (.k (.k (.k (.i (.blk g1 28 [.int .i64 v.k, .int .i64 v.n, .string (mkS v.s)]) .z))))))))) ?_
    refine RZ (NT (SQ (SQ (RG ?_))))
    refine RR [] .z (.i 19 (.bool false) .a) (.i (.blk g 59 [.bool true, .int .i64 4096, .int .i64 (↑(usedO L) : Int), .slice a1 l1.length c1]) (.d (.k (.k (.k (.k (.k (.k (.i (.blk g1 28 [.int .i64 v.k, .int .i64 v.n, .string (mkS v.s)]) .z))))))))) ?_
    refine RZ (NT (CF (SK (NT (SQ (RG ?_))))))
    refine RR [7, 7, 7] (.d (.d .a)) (.i 21 (.agg #[.int .i64 v.k, .int .i64 v.n, .string (mkS v.s)]) (.i 20 (.pointer (some ⟨g, 0, none⟩)) (.d (.k .a)))) (.i (.blk g 59 [.bool true, .int .i64 4096, .int .i64 (↑(usedO L) : Int), .slice a1 l1.length c1]) (.d (.k (.k (.k (.k (.k (.k (.i (.blk g1 28 [.int .i64 v.k, .int .i64 v.n, .string (mkS v.s)]) .z))))))))) ?_
    have hA := All_o g 4096 (usedO L) a1 c1 l1 L hm1 (by omega) hcl
    unfold heapR heapS at hA
    have hS := Show_o g 4096 a1 c1 l1 L hm1 (by omega) hok v hv hvi
    unfold valV at hS
    refine RCG (dst := some 22) (.i (.blk g 59 [.bool true, .int .i64 4096, .int .i64 (↑(usedO L) : Int), .slice a1 l1.length c1]) (.d (.k (.k (.k (.k (.k (.k (.i (.blk g1 28 [.int .i64 v.k, .int .i64 v.n, .string (mkS v.s)]) .z))))))))) (hS) (GV (GV (GV (GV (GI []) 6 view_gPow) 2 view_gBag) 1 view_row) 0 (view_blk0 (by simp [Go.Sx.One, Value.oneCell']))) ?_
    rintro r _ ⟨rfl, rfl⟩
    refine RR [] .z (.i 8 (.string (mkS (showT L v))) (.d (.d (.d (.k .a))))) (.i (.blk g 59 [.bool true, .int .i64 4096, .int .i64 (↑(usedO L) : Int), .slice a1 l1.length c1]) (.d (.k (.k (.k (.k (.k (.k (.i (.blk g1 28 [.int .i64 v.k, .int .i64 v.n, .string (mkS v.s)]) .z))))))))) ?_
    refine RZ (NT (SQ (SQ ?_)))
    have hT1 := showT_len L v
    have hT2 := showT_nil L v
    obtain ⟨T, hT⟩ : ∃ T, T = showT L v := ⟨_, rfl⟩
    rw [← hT] at hT1 hT2 ⊢
    have hTs : (mkS T).size = T.length := mkS_size _
    refine wpc_draw (by kernel_rfl) [.blk g1 28 [.int .i64 v.k, .int .i64 v.n, .string (mkS v.s)]] (sub_of [7] (by kernel_rfl)) 14 (by kernel_rfl) ?_
    refine TK 10 [(0, []), (1, []), (2, []), (3, [])] (.i 26 (.bool (decide ((↑T.length : Int) > (200 : Int)))) .a) (#[true, true, true, true, false, false, false, false, false, false, false, false, false, false]) ?_
    refine SA 26 (decide ((↑T.length : Int) > (200 : Int))) false (decide_eq_false (by omega)) ?_
    refine TK 6 [(4, []), (5, []), (6, [0, 0, 0]), (7, [])] (.i 30 (.pointer (some ⟨g, 0, none⟩)) (.i 29 (.agg #[.int .i64 v.k, .int .i64 v.n, .string (mkS v.s)]) (.i 28 (.bool (decide (T = []))) (.k (.d (.d (.k (.k (.d (.k .a)))))))))) (#[true, true, true, true, true, true, true, true, false, false, false, false, false, false]) ?_
    refine AC (dst := some 31) 5 8 (.i (.blk g 59 [.bool true, .int .i64 4096, .int .i64 (↑(usedO L) : Int), .slice a1 l1.length c1]) (.d (.k (.k (.k (.k (.k (.k (.i (.blk g1 28 [.int .i64 v.k, .int .i64 v.n, .string (mkS v.s)]) .z))))))))) (hA) (GV (GV (GV (GI []) 2 view_gBag) 1 view_row) 0 (view_blk0 (by simp [Go.Sx.One, Value.oneCell']))) [7] ?_
    rintro r _ ⟨a2, c2, l2, hm2, rfl, rfl⟩
    have hl2 : l2.length = L.length := by rw [← hm2, List.length_map]
    refine TK 4 [(9, [])] (.i 32 (.int .i64 (↑l2.length : Int)) (.d (.d (.k .a)))) (#[true, true, true, true, true, true, true, true, true, true, false, false, false, false]) ?_
    have hC := Check_spec v l2.length hv
    unfold valV at hC
    refine AC (dst := some 33) 3 10 (.k (.k (.i (.blk g 59 [.bool true, .int .i64 4096, .int .i64 (↑(usedO L) : Int), .slice a1 l1.length c1]) (.d (.k (.k (.k (.k (.k (.k (.i (.blk g1 28 [.int .i64 v.k, .int .i64 v.n, .string (mkS v.s)]) .z))))))))))) (hC) (GI []) [9] ?_
    rintro r _ ⟨rfl, rfl⟩
    rw [hl2]
    refine TK 0 [(11, []), (12, []), (13, [])] (.i 36 (.bool !decide (T = []) == ((if rightB v (↑L.length : Int) = true then (0 : Int) else (2 : Int)) != (0 : Int))) (.d (.d (.d (.d (.d (.k .a))))))) (#[true, true, true, true, true, true, true, true, true, true, true, true, true, true]) ?_
    refine wpa_done 0 (by kernel_rfl) ?_
    refine NT ?_
    refine SC 36 (!decide (T = []) == ((if rightB v (↑L.length : Int) = true then (0 : Int) else (2 : Int)) != (0 : Int))) false (by
          cases hr : rightB v L.length with
          | false => simp [hT2.2 hr]
          | true =>
            have h9 : T ≠ [] := fun e => by rw [hT2.1 e] at hr; cases hr
            simp [h9]) ?_
    refine CF (SK (NT (SQ (RG ?_))))
    refine RR [] (.d (.d .a)) (.i 39 (.int .i64 n) (.i 38 (.pointer (some ⟨g, 0, none⟩)) (.d (.d (.k .a))))) (.k (.k (.i (.blk g 59 [.bool true, .int .i64 4096, .int .i64 (↑(usedO L) : Int), .slice a1 l1.length c1]) (.d (.k (.k (.k (.k (.k (.k (.i (.blk g1 28 [.int .i64 v.k, .int .i64 v.n, .string (mkS v.s)]) .z))))))))))) ?_
    refine RC (dst := some 40) [] (.k (.k (.i (.blk g 59 [.bool true, .int .i64 4096, .int .i64 (↑(usedO L) : Int), .slice a1 l1.length c1]) (.d (.k (.k (.k (.k (.k (.k (.i (.blk g1 28 [.int .i64 v.k, .int .i64 v.n, .string (mkS v.s)]) .z))))))))))) (number_spec n) ?_
    rintro r _ ⟨rfl, rfl⟩
    refine RR [] (.d .a) (.i 41 (.int .i64 n) (.k (.d (.k .a)))) (.k (.k (.i (.blk g 59 [.bool true, .int .i64 4096, .int .i64 (↑(usedO L) : Int), .slice a1 l1.length c1]) (.d (.k (.k (.k (.k (.k (.k (.i (.blk g1 28 [.int .i64 v.k, .int .i64 v.n, .string (mkS v.s)]) .z))))))))))) ?_
    refine RC (dst := some 42) [] (.k (.k (.i (.blk g 59 [.bool true, .int .i64 4096, .int .i64 (↑(usedO L) : Int), .slice a1 l1.length c1]) (.d (.k (.k (.k (.k (.k (.k (.i (.blk g1 28 [.int .i64 v.k, .int .i64 v.n, .string (mkS v.s)]) .z))))))))))) (number_spec n) ?_
    rintro r _ ⟨rfl, rfl⟩
    refine RN [] (.d .a) 43 (fun g2 => (.slice (some ⟨g2, 0, none⟩) 2 2)) (.d (.d (.d (.k .a)))) (.k (.k (.i (.blk g 59 [.bool true, .int .i64 4096, .int .i64 (↑(usedO L) : Int), .slice a1 l1.length c1]) (.d (.k (.k (.k (.k (.k (.k (.i (.blk g1 28 [.int .i64 v.k, .int .i64 v.n, .string (mkS v.s)]) .z))))))))))) 28 [.int .i64 1, .int .i64 n, .string (mkS []), .int .i64 1, .int .i64 n, .string (mkS [])] fun g2 => ?_
    refine wpr_ent (ent_turn 10 (ro (some ⟨g2, 0, none⟩) ([numV n, numV n].flatMap valC)) rfl (turn_rblk (l := [numV n, numV n].flatMap valC) (vals_one _)) rfl) ?_
    have hsm : smL [numV n, numV n] := fun u hu => by
      simp only [List.mem_cons, List.not_mem_nil, or_false] at hu
      rcases hu with rfl | rfl <;> exact Nat.zero_le _
    have hsi : ∀ u ∈ [numV n, numV n], u.i64 := fun u hu => by
      simp only [List.mem_cons, List.not_mem_nil, or_false] at hu
      rcases hu with rfl | rfl <;> exact hn
    have hal := Alloc_o g 4096 a1 c1 l1 L hm1 [] [numV n, numV n] (some ⟨g2, 0, none⟩) 2 (by decide) (by omega) (fun e => by cases e) (Nat.le_refl _) (by simp) (by decide) hsm
    have hok' := ok_alloc (most := 4096) (tag := []) hok (by decide) (by simp) hsm hsi
    have hu' := allocR_used (m := 4096) (L := L) (t := []) (c := [numV n, numV n]) (by omega)
    have hval := alloc_two L n
    obtain ⟨⟨L', a', e'⟩, hR⟩ : ∃ R, R = allocR 4096 L [] [numV n, numV n] := ⟨_, rfl⟩
    rw [← hR] at hal hok' hu' hval
    dsimp only at hal hok' hu' hval
    have hll' := len_used L'
    unfold heapB heapR heapS valV at hal
    refine RCG (dst := some 44) (.k (.k (.d (.d (.d (.k (.k (.k (.k (.i (.blk g1 28 [.int .i64 v.k, .int .i64 v.n, .string (mkS v.s)]) (.d (.k .a)))))))))))) (hal) (GO (GV (GV (GJ [2, 2, 2]) 4 view_ro) 7 view_ro) [2, 2, 2, 0, 0]) ?_
    rintro r _ ⟨a3, c3, l3, hm3, rfl, rfl⟩
    refine RP [] (.d (.d (.d (.d .a)))) 9 (.i 46 (.int .i64 e') (.i 45 (.agg #[.int .i64 a'.k, .int .i64 a'.n, .string (mkS a'.s)]) (.d (.d (.d (.k .a)))))) (.i (.blk g 59 [.bool true, .int .i64 4096, .int .i64 (↑(usedO L') : Int), .slice a3 l3.length c3]) (.d (.k (.k (.k (.k (.k (.k (.k (.k (.i (.blk g1 28 [.int .i64 v.k, .int .i64 v.n, .string (mkS v.s)]) (.d (.k .a))))))))))))) 28 [.int .i64 0, .int .i64 0, .string ⟨#[]⟩] fun g3 => ?_
    refine RR [11, 11, 11] .z (.i 10 (.int .i64 e') (.k (.d (.d (.k .a))))) (.i (.blk g 59 [.bool true, .int .i64 4096, .int .i64 (↑(usedO L') : Int), .slice a3 l3.length c3]) (.d (.k (.k (.k (.k (.k (.k (.k (.k (.i (.blk g1 28 [.int .i64 v.k, .int .i64 v.n, .string (mkS v.s)]) (.d (.k (.i (.blk g3 28 [.int .i64 a'.k, .int .i64 a'.n, .string (mkS a'.s)]) .z)))))))))))))) ?_
    refine RZ (NT (SQ (RG ?_)))
    refine RR [] (.d (.d .a)) (.i 48 (.int .i64 n) (.i 47 (.pointer (some ⟨g, 0, none⟩)) .a)) (.i (.blk g 59 [.bool true, .int .i64 4096, .int .i64 (↑(usedO L') : Int), .slice a3 l3.length c3]) (.d (.k (.k (.k (.k (.k (.k (.k (.k (.i (.blk g1 28 [.int .i64 v.k, .int .i64 v.n, .string (mkS v.s)]) (.d (.k (.i (.blk g3 28 [.int .i64 a'.k, .int .i64 a'.n, .string (mkS a'.s)]) .z)))))))))))))) ?_
    refine RC (dst := some 49) [] (.i (.blk g 59 [.bool true, .int .i64 4096, .int .i64 (↑(usedO L') : Int), .slice a3 l3.length c3]) (.d (.k (.k (.k (.k (.k (.k (.k (.k (.i (.blk g1 28 [.int .i64 v.k, .int .i64 v.n, .string (mkS v.s)]) (.d (.k (.i (.blk g3 28 [.int .i64 a'.k, .int .i64 a'.n, .string (mkS a'.s)]) .z)))))))))))))) (number_spec n) ?_
    rintro r _ ⟨rfl, rfl⟩
    have hS3 := Show_o g 4096 a3 c3 l3 L' hm3 (by omega) hok' (numV n) (Nat.zero_le _) hn
    rw [show_num L' hn] at hS3
    unfold valV numV at hS3
    dsimp only at hS3
    refine RCG (dst := some 50) (.i (.blk g 59 [.bool true, .int .i64 4096, .int .i64 (↑(usedO L') : Int), .slice a3 l3.length c3]) (.d (.k (.k (.k (.k (.k (.k (.k (.k (.i (.blk g1 28 [.int .i64 v.k, .int .i64 v.n, .string (mkS v.s)]) (.d (.k (.i (.blk g3 28 [.int .i64 a'.k, .int .i64 a'.n, .string (mkS a'.s)]) .z)))))))))))))) (hS3) (GV (GV (GV (GV (GI []) 8 view_gPow) 2 view_gBag) 1 view_row) 0 (view_blk0 (by simp [Go.Sx.One, Value.oneCell']))) ?_
    rintro r _ ⟨rfl, rfl⟩
    refine RR [] .z (.i 11 (.string (mkS (Lib.itoa n))) (.d (.d (.d (.d (.k .a)))))) (.i (.blk g 59 [.bool true, .int .i64 4096, .int .i64 (↑(usedO L') : Int), .slice a3 l3.length c3]) (.d (.k (.k (.k (.k (.k (.k (.k (.k (.i (.blk g1 28 [.int .i64 v.k, .int .i64 v.n, .string (mkS v.s)]) (.d (.k (.i (.blk g3 28 [.int .i64 a'.k, .int .i64 a'.n, .string (mkS a'.s)]) .z)))))))))))))) ?_
    refine RZ (NT (SQ (RG ?_)))
    refine RR [] (.d (.d (.d .a))) (.i 53 (.bool (e' != (0 : Int))) (.k (.d (.k .a)))) (.i (.blk g 59 [.bool true, .int .i64 4096, .int .i64 (↑(usedO L') : Int), .slice a3 l3.length c3]) (.d (.k (.k (.k (.k (.k (.k (.k (.k (.i (.blk g1 28 [.int .i64 v.k, .int .i64 v.n, .string (mkS v.s)]) (.d (.k (.i (.blk g3 28 [.int .i64 a'.k, .int .i64 a'.n, .string (mkS a'.s)]) .z)))))))))))))) ?_
    have hpos := itoa_pos n
    have hil := itoa_len hn
    have hne : Lib.itoa n ≠ [] := fun e => by rw [e] at hpos; cases hpos
    have hsg := itoa_sign n
    by_cases h0 : e' = 0
    · obtain ⟨hL', ha'⟩ := hval h0
      subst hL' ha' h0
      have hS4 := Show_o g 4096 a3 c3 l3 (L ++ [([], [numV n, numV n])]) hm3 (by omega) hok' (atV L.length) (Nat.zero_le _) ⟨by show _ ≤ (L.length : Int); omega, by show (L.length : Int) ≤ _; omega⟩
      rw [show_two L hn] at hS4
      unfold valV atV at hS4
      dsimp only at hS4
      unfold atV
      refine RR [11, 11, 11] (.d (.d .a)) (.i 55 (.agg #[.int .i64 4, .int .i64 (↑L.length : Int), .string (mkS [])]) (.i 54 (.pointer (some ⟨g, 0, none⟩)) (.i 53 (.bool false) (.d (.k (.d (.d (.k .a)))))))) (.i (.blk g 59 [.bool true, .int .i64 4096, .int .i64 (↑(usedO (L ++ [([], [numV n, numV n])])) : Int), .slice a3 l3.length c3]) (.d (.k (.k (.k (.k (.k (.k (.k (.k (.i (.blk g1 28 [.int .i64 v.k, .int .i64 v.n, .string (mkS v.s)]) (.d (.k (.i (.blk g3 28 [.int .i64 4, .int .i64 (↑L.length : Int), .string (mkS [])]) .z)))))))))))))) ?_
      refine RCG (dst := some 56) (.i (.blk g 59 [.bool true, .int .i64 4096, .int .i64 (↑(usedO (L ++ [([], [numV n, numV n])])) : Int), .slice a3 l3.length c3]) (.d (.k (.k (.k (.k (.k (.k (.k (.k (.i (.blk g1 28 [.int .i64 v.k, .int .i64 v.n, .string (mkS v.s)]) (.d (.k (.i (.blk g3 28 [.int .i64 4, .int .i64 (↑L.length : Int), .string (mkS [])]) .z)))))))))))))) (hS4) (GV (GV (GV (GV (GI []) 8 view_gPow) 2 view_gBag) 1 view_row) 0 (view_blk0 (by simp [Go.Sx.One, Value.oneCell']))) ?_
      rintro r _ ⟨rfl, rfl⟩
      refine RV true [] (.d (.d (.d (.d (.d (.d (.d (.d (.d .a))))))))) (.i 65 (.bool (decide ([(91 : UInt8)] ++ Lib.itoa n ++ [(44 : UInt8), (32 : UInt8)] ++ Lib.itoa n ++ [(93 : UInt8)] = [(91 : UInt8)] ++ Lib.itoa n ++ [(44 : UInt8), (32 : UInt8)] ++ Lib.itoa n ++ [(93 : UInt8)]))) (.d (.d (.d (.d (.k .a)))))) (.i (.blk g 59 [.bool true, .int .i64 4096, .int .i64 (↑(usedO (L ++ [([], [numV n, numV n])])) : Int), .slice a3 l3.length c3]) (.d (.k (.k (.k (.k (.k (.k (.k (.k (.i (.blk g1 28 [.int .i64 v.k, .int .i64 v.n, .string (mkS v.s)]) (.d (.k (.i (.blk g3 28 [.int .i64 4, .int .i64 (↑L.length : Int), .string (mkS [])]) .z)))))))))))))) ([(ByteArray.mk #[(91 : UInt8)]).size + (Lib.itoa n).length ≤ (9223372036854775807 : Nat), ([(91 : UInt8)] ++ Lib.itoa n).length + (ByteArray.mk #[(44 : UInt8), (32 : UInt8)]).size ≤ (9223372036854775807 : Nat), ([(91 : UInt8)] ++ Lib.itoa n ++ [(44 : UInt8), (32 : UInt8)]).length + (Lib.itoa n).length ≤ (9223372036854775807 : Nat), ([(91 : UInt8)] ++ Lib.itoa n ++ [(44 : UInt8), (32 : UInt8)] ++ Lib.itoa n).length + (ByteArray.mk #[(93 : UInt8)]).size ≤ (9223372036854775807 : Nat)]) ⟨by simp only [List.length_append, List.length_cons, List.length_nil, show ∀ l : List UInt8, (ByteArray.mk l.toArray).size = l.length from fun _ => rfl]; omega, by simp only [List.length_append, List.length_cons, List.length_nil, show ∀ l : List UInt8, (ByteArray.mk l.toArray).size = l.length from fun _ => rfl]; omega, by simp only [List.length_append, List.length_cons, List.length_nil, show ∀ l : List UInt8, (ByteArray.mk l.toArray).size = l.length from fun _ => rfl]; omega, by simp only [List.length_append, List.length_cons, List.length_nil, show ∀ l : List UInt8, (ByteArray.mk l.toArray).size = l.length from fun _ => rfl]; omega, trivial⟩ ?_
      refine SR 65 (decide ([(91 : UInt8)] ++ Lib.itoa n ++ [(44 : UInt8), (32 : UInt8)] ++ Lib.itoa n ++ [(93 : UInt8)] = [(91 : UInt8)] ++ Lib.itoa n ++ [(44 : UInt8), (32 : UInt8)] ++ Lib.itoa n ++ [(93 : UInt8)])) true (by simp) ?_
      refine RR [] (.d (.d (.d (.d .a)))) (.i 69 (.bool !decide (Lib.itoa n = [])) (.d (.d (.k .a)))) (.i (.blk g 59 [.bool true, .int .i64 4096, .int .i64 (↑(usedO (L ++ [([], [numV n, numV n])])) : Int), .slice a3 l3.length c3]) (.d (.k (.k (.k (.k (.k (.k (.k (.k (.i (.blk g1 28 [.int .i64 v.k, .int .i64 v.n, .string (mkS v.s)]) (.d (.k (.i (.blk g3 28 [.int .i64 4, .int .i64 (↑L.length : Int), .string (mkS [])]) .z)))))))))))))) ?_
      refine SR 69 (!decide (Lib.itoa n = [])) true (by simp; omega) ?_
      refine RV true [] (.d (.d (.d (.d (.d (.d (.d (.d .a)))))))) (.i 77 (.bool (decide (n < (0 : Int)) == decide (List.take ((1 : Int) - (0 : Int)).toNat (List.drop (Int.toNat (0 : Int)) (Lib.itoa n)) = [(45 : UInt8)]))) (.d (.d (.d (.k .z))))) (.i (.blk g 59 [.bool true, .int .i64 4096, .int .i64 (↑(usedO (L ++ [([], [numV n, numV n])])) : Int), .slice a3 l3.length c3]) (.d (.k (.k (.k (.k (.k (.k (.k (.k (.i (.blk g1 28 [.int .i64 v.k, .int .i64 v.n, .string (mkS v.s)]) (.d (.k (.i (.blk g3 28 [.int .i64 4, .int .i64 (↑L.length : Int), .string (mkS [])]) .z)))))))))))))) [(0 : Int) ≤ (1 : Int) ∧ (1 : Int) ≤ (↑(Lib.itoa n).length : Int)] ⟨by omega, trivial⟩ ?_
      refine SR 77 (decide (n < (0 : Int)) == decide (List.take ((1 : Int) - (0 : Int)).toNat (List.drop (Int.toNat (0 : Int)) (Lib.itoa n)) = [(45 : UInt8)])) true (by simp; omega) ?_
      refine RCG (dst := some 78) (.i (.blk g 59 [.bool true, .int .i64 4096, .int .i64 (↑(usedO (L ++ [([], [numV n, numV n])])) : Int), .slice a3 l3.length c3]) (.d (.k (.k (.k (.k (.k (.k (.k (.k (.i (.blk g1 28 [.int .i64 v.k, .int .i64 v.n, .string (mkS v.s)]) (.d (.k (.i (.blk g3 28 [.int .i64 4, .int .i64 (↑L.length : Int), .string (mkS [])]) .z)))))))))))))) (lives_spec) (GV (GV (GI []) 8 view_gPow) 7 view_ro) ?_
      rintro r _ ⟨rfl, rfl⟩
      refine RR [] .z (.i 6 (.bool true) .z) (.i (.blk g 59 [.bool true, .int .i64 4096, .int .i64 (↑(usedO (L ++ [([], [numV n, numV n])])) : Int), .slice a3 l3.length c3]) (.d (.k (.k (.k (.k (.k (.k (.k (.k (.i (.blk g1 28 [.int .i64 v.k, .int .i64 v.n, .string (mkS v.s)]) (.d (.k (.i (.blk g3 28 [.int .i64 4, .int .i64 (↑L.length : Int), .string (mkS [])]) .z)))))))))))))) ?_
      refine RZ (NT (RE ?_))
      refine NE [] .z (.i (.blk g 59 [.bool true, .int .i64 4096, .int .i64 (↑(usedO (L ++ [([], [numV n, numV n])])) : Int), .slice a3 l3.length c3]) (.d (.k (.k (.k (.k (.k (.k (.k (.k (.i (.blk g1 28 [.int .i64 v.k, .int .i64 v.n, .string (mkS v.s)]) (.d (.k (.i (.blk g3 28 [.int .i64 4, .int .i64 (↑L.length : Int), .string (mkS [])]) .z)))))))))))))) [] (.bool true) ?_
      exact ⟨rfl, rfl⟩
    · refine SR 53 (e' != (0 : Int)) true (by simp only [bne_iff_ne, beq_iff_eq, ne_eq]; omega) ?_
      refine RR [] (.d (.d (.d (.d (.d (.d (.d (.d (.d (.d (.d (.d (.d (.d (.d (.d .a)))))))))))))))) (.i 69 (.bool !decide (Lib.itoa n = [])) (.d (.d (.k (.d (.d (.k .a))))))) (.i (.blk g 59 [.bool true, .int .i64 4096, .int .i64 (↑(usedO L') : Int), .slice a3 l3.length c3]) (.d (.k (.k (.k (.k (.k (.k (.k (.k (.i (.blk g1 28 [.int .i64 v.k, .int .i64 v.n, .string (mkS v.s)]) (.d (.k (.i (.blk g3 28 [.int .i64 a'.k, .int .i64 a'.n, .string (mkS a'.s)]) .z)))))))))))))) ?_
      refine SR 69 (!decide (Lib.itoa n = [])) true (by simp; omega) ?_
      refine RV true [] (.d (.d (.d (.d (.d (.d (.d (.d .a)))))))) (.i 77 (.bool (decide (n < (0 : Int)) == decide (List.take ((1 : Int) - (0 : Int)).toNat (List.drop (Int.toNat (0 : Int)) (Lib.itoa n)) = [(45 : UInt8)]))) (.d (.d (.d (.k .z))))) (.i (.blk g 59 [.bool true, .int .i64 4096, .int .i64 (↑(usedO L') : Int), .slice a3 l3.length c3]) (.d (.k (.k (.k (.k (.k (.k (.k (.k (.i (.blk g1 28 [.int .i64 v.k, .int .i64 v.n, .string (mkS v.s)]) (.d (.k (.i (.blk g3 28 [.int .i64 a'.k, .int .i64 a'.n, .string (mkS a'.s)]) .z)))))))))))))) [(0 : Int) ≤ (1 : Int) ∧ (1 : Int) ≤ (↑(Lib.itoa n).length : Int)] ⟨by omega, trivial⟩ ?_
      refine SR 77 (decide (n < (0 : Int)) == decide (List.take ((1 : Int) - (0 : Int)).toNat (List.drop (Int.toNat (0 : Int)) (Lib.itoa n)) = [(45 : UInt8)])) true (by simp; omega) ?_
      refine RCG (dst := some 78) (.i (.blk g 59 [.bool true, .int .i64 4096, .int .i64 (↑(usedO L') : Int), .slice a3 l3.length c3]) (.d (.k (.k (.k (.k (.k (.k (.k (.k (.i (.blk g1 28 [.int .i64 v.k, .int .i64 v.n, .string (mkS v.s)]) (.d (.k (.i (.blk g3 28 [.int .i64 a'.k, .int .i64 a'.n, .string (mkS a'.s)]) .z)))))))))))))) (lives_spec) (GV (GV (GI []) 8 view_gPow) 7 view_ro) ?_
      rintro r _ ⟨rfl, rfl⟩
      refine RR [] .z (.i 6 (.bool true) .z) (.i (.blk g 59 [.bool true, .int .i64 4096, .int .i64 (↑(usedO L') : Int), .slice a3 l3.length c3]) (.d (.k (.k (.k (.k (.k (.k (.k (.k (.i (.blk g1 28 [.int .i64 v.k, .int .i64 v.n, .string (mkS v.s)]) (.d (.k (.i (.blk g3 28 [.int .i64 a'.k, .int .i64 a'.n, .string (mkS a'.s)]) .z)))))))))))))) ?_
      refine RZ (NT (RE ?_))
      refine NE [] .z (.i (.blk g 59 [.bool true, .int .i64 4096, .int .i64 (↑(usedO L') : Int), .slice a3 l3.length c3]) (.d (.k (.k (.k (.k (.k (.k (.k (.k (.i (.blk g1 28 [.int .i64 v.k, .int .i64 v.n, .string (mkS v.s)]) (.d (.k (.i (.blk g3 28 [.int .i64 a'.k, .int .i64 a'.n, .string (mkS a'.s)]) .z)))))))))))))) [] (.bool true) ?_
      exact ⟨rfl, rfl⟩
end Go.Proofs.YtpfhleghgkeemaaGreatDoor
