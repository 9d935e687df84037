import Derived.Test.YtpfhleghgkeemaaGreatDoorH41
import Derived.Test.YtpfhleghgkeemaaGreatDoorY2
namespace Go.Proofs.YtpfhleghgkeemaaGreatDoor
open Go Go.Sx
set_option linter.unusedVariables false
set_option linter.unusedSimpArgs false

theorem rLoad_spec (m : Int) (a : Option Addr) (c : Nat) (l : List Ob) (hl : l.length ≤ 1048576) (hs : smO l) (hu : usedO (l.map Ob.o) ≤ 1099511627776) :
    Does Tryz.prog 29 [.int .i64 m, .slice a l.length c] [ro a (l.flatMap objC), gBag l]
      (fun r hp' => if okObs l.length l = false then r = .tuple #[.agg #[.int .i64 0, .slice none 0 0], .int .i64 2] ∧ hp' = []
        else if (usedO (l.map Ob.o) : Int) ≤ mostI m then ∃ a' c' l', l'.map Ob.o = l.map Ob.o ∧ r = .tuple #[.agg #[.int .i64 (mostI m), .slice a' l'.length c'], .int .i64 0] ∧ hp' = [heapR a' c' l', heapS l']
        else r = .tuple #[.agg #[.int .i64 0, .slice none 0 0], .int .i64 12] ∧ hp' = []) := by
  have hmo := mostI_le m
  unfold heapR heapS
  refine fn_enter Tryz.func29 rfl 67 rfl fun w0 h0 => ?_
  refine SQ (RG ?_)
  refine RP [] (.d .a) 4 .a .a 51 [.int .i64 0, .slice none 0 0] fun g1 => ?_
  refine RR [] .z (.i 5 (.int .i64 0) .a) .a ?_
  refine RZ (NT (SQ (RG ?_)))
  refine RR [] (.d .a) (.i 8 (.int .i64 m) (.k (.k (.d (.k .a))))) .a ?_
  refine RC (dst := some 9) [] .a (rNew_spec m) ?_
  rintro r _ ⟨rfl, rfl⟩
  refine RP [] (.d .a) 6 (.k (.d (.k .a))) .a 51 [.int .i64 0, .slice none 0 0] fun g2 => ?_
  refine RR [3, 3] .z (.k (.d (.k .a))) (.k (.k (.k (.u (.i (.int .i64 (mostI m)) (.d (.k .a))) .a)))) ?_
  refine RZ (NT (SQ (SQ (RG ?_))))
  refine RR [] .z (.i 7 (.int .i64 0) .a) .a ?_
  refine RZ (NT (BK ?_))
  obtain ⟨M, hM⟩ : ∃ M, M = mostI m := ⟨_, rfl⟩
  rw [← hM] at hmo ⊢
  refine wpc_loop (X := {x : Nat × Option Addr × Nat × List Ob // ∃ h : x.1 ≤ l.length, x.2.2.2.map Ob.o = (l.take x.1).map Ob.o ∧ ∀ j, (hj : j < x.1) → objB l.length (l[j]'(by omega)).tag (l[j]'(by omega)).cells = true}) (fun x => St.mk [(7, .int .i64 (x.1.1 : Int)), (6, .pointer (some ⟨g2, 0, none⟩)), (5, .int .i64 0), (4, .pointer (some ⟨g1, 0, none⟩)), (1, .slice a l.length c)]
    [row 43 2 x.1.2.1 x.1.2.2.2.length x.1.2.2.1 (x.1.2.2.2.flatMap objC), star (x.1.2.2.2.map obRow), ro a (l.flatMap objC), gBag l, .blk g1 51 [.int .i64 0, .slice none 0 0], .blk g2 51 [.int .i64 M, .slice x.1.2.1 x.1.2.2.2.length x.1.2.2.1]]) (fun x => l.length - x.1.1) ⟨(0, none, 0, []), Nat.zero_le _, rfl, fun j h => absurd h (Nat.not_lt_zero _)⟩ ?_ ?_
  · exact Ent.trans (ent_star_nil) (Ent.trans (ent_nil 43 2) (Ent.trans (ent_hp [0, 0, 0, 0, 0, 0] rfl) (ent_fr (by kernel_rfl))))
  rintro ⟨⟨i, a1, c1, l1⟩, hi, hm, hall⟩
  dsimp only at hi hm hall ⊢
  have hlen : l1.length = i := by have := congrArg List.length hm; simpa [List.length_take, Nat.min_eq_left hi] using this
  by_cases hlt : i < l.length
  · refine wpc_fact (fun w h => ro_addr h 2 rfl (by rw [objs_len]; omega)) ?_
    rintro ⟨g0, o0, rfl⟩
    refine wpc_fact (fun w h => gob_nil h (i := 3) rfl hlt) fun hnil => ?_
    obtain ⟨s1, s2, s3, s4⟩ := hs l[i] (List.getElem_mem hlt)
    have hno : objB l.length l[i].tag l[i].cells = false → okObs l.length l = false := fun hob => by
      cases h : okObs l.length l with
      | false => rfl
      | true =>
        have h2 := List.all_eq_true.1 h l[i] (List.getElem_mem hlt)
        rw [hob] at h2; cases h2
    refine SQ (SQ (RG ?_))
    refine RR [] .z (.i 13 (.bool (decide ((↑i : Int) < (↑l.length : Int)))) .a) .a ?_
    refine RZ (NT ?_)
    refine SC 13 (decide ((↑i : Int) < (↑l.length : Int))) true (decide_eq_true (by omega)) ?_
    refine CT (SK (NT (SQ (BK (SQ (SQ (RG ?_)))))))
    refine RV true [] (.d (.d (.d (.d .a)))) (.i 19 (.pointer (some ⟨g0, o0 + i * 2, none⟩)) (.d (.d (.k .a)))) .a [(0 : Int) ≤ (↑i : Int) ∧ (↑i : Int) < (↑l.length : Int)] ⟨by omega, trivial⟩ ?_
    refine wpr_eq (ld (t := 9) (a := ⟨g0, o0 + i * 2, none⟩) (dst := some 20) (by kernel_rfl) false 1 (by kernel_rfl) (by simp) [.string (mkS l[i].tag)] rfl (fun w h => ld_ro h 2 rfl (i * 2 + 0) (obj_fld hlt 0 1 (by decide)))) ?_
    refine RR [] (.d (.d .a)) (.i 22 (.bool !decide (l[i].tag = [])) (.d (.d (.k .a)))) .a ?_
    have hce := rcells_spec l[i].a l[i].c l[i].cells l.length s3 s4
    have hnm := rName_spec l[i].tag s1
    refine wpr_join ⟨[(41, .bool (!objB l.length l[i].tag l[i].cells)), (7, (.int .i64 (↑i : Int))), (6, (.pointer (some ⟨g2, 0, none⟩))), (5, (.int .i64 0)), (4, (.pointer (some ⟨g1, 0, none⟩))), (1, (.slice (some ⟨g0, o0, none⟩) l.length c))], [row 43 2 a1 l1.length c1 (List.flatMap objC l1), star (List.map obRow l1), ro (some ⟨g0, o0, none⟩) (List.flatMap objC l), gBag l, .blk g1 51 [.int .i64 0, .slice none 0 0], .blk g2 51 [.int .i64 M, .slice a1 l1.length c1]]⟩ (fun Q1 hQ1 hk => ?_) ?_
    · by_cases htag : l[i].tag = []
      · rw [show objB l.length l[i].tag l[i].cells = l[i].cells.all (cellB l.length) by simp [objB, htag]] at hk
        refine SR 22 (!decide (l[i].tag = [])) false (by simp [htag]) ?_
        refine RV true [] (.d (.d (.d (.d (.d (.d (.d (.d (.d (.d (.d (.d (.d .a))))))))))))) (.i 35 (.pointer (some ⟨g0, o0 + i * 2 + 1, none⟩)) (.i 31 (.bool false) (.d (.d (.k .a))))) .a [(0 : Int) ≤ (↑i : Int) ∧ (↑i : Int) < (↑l.length : Int)] ⟨by omega, trivial⟩ ?_
        refine wpr_eq (ld (t := 25) (a := ⟨g0, o0 + i * 2 + 1, none⟩) (dst := some 36) (by kernel_rfl) false 1 (by kernel_rfl) (by simp) [.slice l[i].a l[i].cells.length l[i].c] rfl (fun w h => ld_ro h 2 rfl (i * 2 + 1) (obj_fld hlt 1 1 (by decide)))) ?_
        refine RR [] (.d (.d .a)) (.i 38 (.int .i64 (↑l.length : Int)) (.i 36 (.slice l[i].a l[i].cells.length l[i].c) (.d (.d (.k .a))))) .a ?_
        refine wpr_ent (ent_copy 3 (ro l[i].a (l[i].cells.flatMap valC)) rfl (fun h => h) (view_in (obRo_in hlt) view_ro)) ?_
        refine RCG (dst := some 39) .a (hce) (GV (GI []) 0 view_ro) ?_
        rintro r _ ⟨rfl, rfl⟩
        refine RR [] .z (.i 41 (.bool !l[i].cells.all (cellB (↑l.length : Int))) (.d (.d (.d (.d (.k .a)))))) .a ?_
        refine RZ ?_
        exact nx_ent (ent_hp [1, 1, 1, 1, 1, 1] rfl) (nx_ent (ent_fr (by kernel_rfl)) hk)
      · refine SR 22 (!decide (l[i].tag = [])) true (by simp [htag]) ?_
        refine RV true [] (.d (.d (.d (.d .a)))) (.i 26 (.pointer (some ⟨g0, o0 + i * 2, none⟩)) (.k (.d (.k .a)))) .a [(0 : Int) ≤ (↑i : Int) ∧ (↑i : Int) < (↑l.length : Int)] ⟨by omega, trivial⟩ ?_
        refine wpr_eq (ld (t := 9) (a := ⟨g0, o0 + i * 2, none⟩) (dst := some 27) (by kernel_rfl) false 1 (by kernel_rfl) (by simp) [.string (mkS l[i].tag)] rfl (fun w h => ld_ro h 2 rfl (i * 2 + 0) (obj_fld hlt 0 1 (by decide)))) ?_
        refine RC (dst := some 28) [] .a (hnm) ?_
        rintro r _ ⟨rfl, rfl⟩
        cases hnb : nameB l[i].tag with
        | false =>
          rw [show objB l.length l[i].tag l[i].cells = false by simp [objB, htag, hnb]] at hk
          refine RR [] .z (.i 41 (.bool true) (.d (.d (.d (.d (.k .a)))))) .a ?_
          refine RZ ?_
          exact nx_ent (ent_hp [0, 0, 0, 0, 0, 0] rfl) (nx_ent (ent_fr (by kernel_rfl)) hk)
        | true =>
          rw [show objB l.length l[i].tag l[i].cells = l[i].cells.all (cellB l.length) by simp [objB, hnb]] at hk
          refine RV true [] (.d (.d (.d (.d (.d (.d (.d .a))))))) (.i 35 (.pointer (some ⟨g0, o0 + i * 2 + 1, none⟩)) (.i 31 (.bool false) (.d (.d (.d (.d (.k .a))))))) .a [(0 : Int) ≤ (↑i : Int) ∧ (↑i : Int) < (↑l.length : Int)] ⟨by omega, trivial⟩ ?_
          refine wpr_eq (ld (t := 25) (a := ⟨g0, o0 + i * 2 + 1, none⟩) (dst := some 36) (by kernel_rfl) false 1 (by kernel_rfl) (by simp) [.slice l[i].a l[i].cells.length l[i].c] rfl (fun w h => ld_ro h 2 rfl (i * 2 + 1) (obj_fld hlt 1 1 (by decide)))) ?_
          refine RR [] (.d (.d .a)) (.i 38 (.int .i64 (↑l.length : Int)) (.i 36 (.slice l[i].a l[i].cells.length l[i].c) (.d (.d (.k .a))))) .a ?_
          refine wpr_ent (ent_copy 3 (ro l[i].a (l[i].cells.flatMap valC)) rfl (fun h => h) (view_in (obRo_in hlt) view_ro)) ?_
          refine RCG (dst := some 39) .a (hce) (GV (GI []) 0 view_ro) ?_
          rintro r _ ⟨rfl, rfl⟩
          refine RR [] .z (.i 41 (.bool !l[i].cells.all (cellB (↑l.length : Int))) (.d (.d (.d (.d (.k .a)))))) .a ?_
          refine RZ ?_
          exact nx_ent (ent_hp [1, 1, 1, 1, 1, 1] rfl) (nx_ent (ent_fr (by kernel_rfl)) hk)
    · cases hob : objB l.length l[i].tag l[i].cells with
      | false =>
        refine NT (CT (SQ (RG ?_)))
        refine RR [4, 4] .z (.i 5 (.int .i64 2) (.d (.k (.k (.d (.k .a)))))) .a ?_
        refine RZ (NT (RE (TR (BR (TR (TR (BR (TR ?_))))))))
        refine NE [] .z .a [4, 4] (.tuple #[.agg #[.int .i64 0, .slice none 0 0], .int .i64 2]) ?_
        rw [if_pos (hno hob)]
        exact ⟨rfl, rfl⟩
      | true =>
        refine NT (CF (SK (NT ?_)))
        refine wpc_draw (by kernel_rfl) [ro (some ⟨g0, o0, none⟩) (List.flatMap objC l)] (sub_of [2] (by kernel_rfl)) 18 (by kernel_rfl) ?_
        refine wpa_take true [(0, []), (2, []), (3, []), (4, []), (5, []), (7, []), (8, []), (9, []), (10, [])] ([(53, .pointer (some ⟨g0, o0 + i * 2 + 1, none⟩)), (48, .pointer (some ⟨g0, o0 + i * 2, none⟩)), (43, .pointer (some ⟨g2, 1, none⟩)), (7, .int .i64 (↑i : Int)), (6, .pointer (some ⟨g2, 0, none⟩)), (5, .int .i64 0), (4, .pointer (some ⟨g1, 0, none⟩)), (1, .slice (some ⟨g0, o0, none⟩) l.length c)]) (#[true, false, true, true, true, true, false, true, true, true, true, false, false, false, false, false, false, false]) [(0 : Int) ≤ (↑i : Int) ∧ (↑i : Int) < (↑l.length : Int), (0 : Int) ≤ (↑i : Int) ∧ (↑i : Int) < (↑l.length : Int)] (n := 9) (by kernel_rfl) (by kernel_rfl) (by kernel_rfl) ⟨by omega, by omega, trivial⟩ ?_
        refine wpa_qld (i := 6) (n := 8) (by kernel_rfl) (by kernel_rfl) (by kernel_rfl) (t := 9) (a := ⟨g0, o0 + i * 2, none⟩) (dst := some 49) (by kernel_rfl) false 1 (by kernel_rfl) (by simp) [.string (mkS l[i].tag)] rfl (fun w h => ld_roL h 0 rfl (i * 2 + 0) (obj_fld hlt 0 1 (by decide))) ?_
        refine wpa_qld (i := 11) (n := 7) (by kernel_rfl) (by kernel_rfl) (by kernel_rfl) (t := 25) (a := ⟨g0, o0 + i * 2 + 1, none⟩) (dst := some 54) (by kernel_rfl) false 1 (by kernel_rfl) (by simp) [.slice l[i].a l[i].cells.length l[i].c] rfl (fun w h => ld_roL h 0 rfl (i * 2 + 1) (obj_fld hlt 1 1 (by decide))) ?_
        refine wpa_ent (ent_copy 3 (ro l[i].a (l[i].cells.flatMap valC)) rfl (fun h => h) (view_in (obRo_in hlt) view_ro)) ?_
        refine wpa_joinx (X := {y : Option Addr × Nat × Ob // y.2.2.o = l[i].o}) (fun y => St.mk [(7, .int .i64 (i : Int)), (6, .pointer (some ⟨g2, 0, none⟩)), (5, .int .i64 0), (4, .pointer (some ⟨g1, 0, none⟩)), (1, .slice (some ⟨g0, o0, none⟩) l.length c)]
          [row 43 2 y.1.1 (l1 ++ [y.1.2.2]).length y.1.2.1 ((l1 ++ [y.1.2.2]).flatMap objC), star (l1.map obRow), obRow y.1.2.2, ro (some ⟨g0, o0, none⟩) (l.flatMap objC), gBag l, .blk g1 51 [.int .i64 0, .slice none 0 0], .blk g2 51 [.int .i64 M, .slice y.1.1 (l1 ++ [y.1.2.2]).length y.1.2.1]]) (fun Q1 hQ1 hk => ?_) ?_
        · refine wpa_two (i := 1) (j := 12) (n := 6) (by kernel_rfl) ?_ ?_
          · refine wpi_one (n := 6) true 1 [6] [(44, .slice a1 l1.length c1), (54, .slice l[i].a l[i].cells.length l[i].c), (49, .string (mkS l[i].tag)), (7, .int .i64 (↑i : Int)), (6, .pointer (some ⟨g2, 0, none⟩)), (5, .int .i64 0), (4, .pointer (some ⟨g1, 0, none⟩)), (1, .slice (some ⟨g0, o0, none⟩) l.length c)] [ro l[i].a (List.flatMap valC l[i].cells), row 43 2 a1 l1.length c1 (List.flatMap objC l1), star (List.map obRow l1), ro (some ⟨g0, o0, none⟩) (List.flatMap objC l), gBag l, .blk g1 51 [.int .i64 0, .slice none 0 0], .blk g2 51 [.int .i64 M, .slice a1 l1.length c1]] [] (by kernel_rfl) (by kernel_rfl) trivial (sub_of [3] (by kernel_rfl)) ?_
            refine AC (dst := some 55) 5 12 .a (rown_spec l[i].a l[i].c l[i].cells hnil s3) (GV (GI []) 0 view_ro) [3] ?_
            rintro r _ ⟨a2, c2, hn2, hc2, rfl, rfl⟩
            refine TK 4 [(13, [])] (.i 56 (.agg #[.string (mkS l[i].tag), .slice a2 l[i].cells.length c2]) (.d (.k (.d (.d (.k .a)))))) (#[true, true, true, true, true, true, true, true, true, true, true, true, true, true, false, false, false, false]) ?_
            refine wpa_new (n := 3) true 14 [] (fun g3 => [(57, .slice (some ⟨g3, 0, none⟩) 1 1), (44, .slice a1 l1.length c1), (7, .int .i64 (↑i : Int)), (6, .pointer (some ⟨g2, 0, none⟩)), (5, .int .i64 0), (4, .pointer (some ⟨g1, 0, none⟩)), (1, .slice (some ⟨g0, o0, none⟩) l.length c)]) (fun g3 => [row 28 3 a2 l[i].cells.length c2 (List.flatMap valC l[i].cells), ro l[i].a (List.flatMap valC l[i].cells), row 43 2 a1 l1.length c1 (List.flatMap objC l1), star (List.map obRow l1), ro (some ⟨g0, o0, none⟩) (List.flatMap objC l), gBag l, .blk g1 51 [.int .i64 0, .slice none 0 0], .blk g2 51 [.int .i64 M, .slice a1 l1.length c1], .blk g3 43 [.string (mkS l[i].tag), .slice a2 l[i].cells.length c2]]) (fun g3 => []) (by kernel_rfl) (fun g3 => by kernel_rfl) (fun g3 => by kernel_rfl) (fun g3 => trivial) (fun g3 => sub_of [4] (by kernel_rfl)) fun g3 => ?_
            refine wpa_ent (ent_turn 8 (ro (some ⟨g3, 0, none⟩) (objC (Ob.mk l[i].tag a2 c2 l[i].cells))) rfl (turn_rblk (l := objC (Ob.mk l[i].tag a2 c2 l[i].cells)) (obj_one _)) rfl) ?_
            refine wpa_app (i := 15) (nf := 2) (by kernel_rfl) (a := a1) (n := l1.length) (cap := c1) (x := (.slice (some ⟨g3, 0, none⟩) 1 1)) (t := 37) (xt := 37) (dst := some 58) (by kernel_rfl) (e := 43) (sz := 2) (bytes := 40) (by kernel_rfl) 2 (xs := (List.flatMap objC l1)) (by kernel_rfl) (m := 1) (news := (objC (Ob.mk l[i].tag a2 c2 l[i].cells))) (fun w h => src_ro h 8 rfl rfl (fun e => by cases e)) (by unfold maxLen; omega) (by omega) [3] (by kernel_rfl) ?_
            intro a3 c3 hn3
            rw [objs_snoc, objs_n1 l1 (Ob.mk l[i].tag a2 c2 l[i].cells)]
            refine TK 1 [(16, [])] (.i 59 (.pointer (some ⟨g2, 1, none⟩)) (.k (.d (.d (.k .a))))) (#[true, true, true, true, true, true, true, true, true, true, true, true, true, true, true, true, true, false]) ?_
            refine AO 0 17 [7] (.d (.d (.k .a))) (.k (.k (.k (.k (.k (.k (.k (.u (.k (.i (.slice a3 (l1 ++ [Ob.mk l[i].tag a2 c2 l[i].cells]).length c3) .z)) .a)))))))) [4] ?_
            refine wpa_done 0 (by kernel_rfl) ?_
            rw [show row 28 3 a2 l[i].cells.length c2 (l[i].cells.flatMap valC) = obRow (Ob.mk l[i].tag a2 c2 l[i].cells) from rfl]
            exact nx_ent (ent_hp [2, 2, 0, 1, 1, 1, 1] rfl) (nx_ent (ent_fr (by kernel_rfl)) (hk ⟨(a3, c3, Ob.mk l[i].tag a2 c2 l[i].cells), rfl⟩))
          · refine wpi_call (i := 12) (dst := some 55) (rest := [ro l[i].a (List.flatMap valC l[i].cells), row 43 2 a1 l1.length c1 (List.flatMap objC l1), star (List.map obRow l1), ro (some ⟨g0, o0, none⟩) (List.flatMap objC l), gBag l, .blk g1 51 [.int .i64 0, .slice none 0 0], .blk g2 51 [.int .i64 M, .slice a1 l1.length c1]]) (by kernel_rfl) (rown_spec l[i].a l[i].c l[i].cells hnil s3) (Give.view (c := (ro l[i].a (List.flatMap valC l[i].cells))) (give (pre := []) (rest := [ro l[i].a (List.flatMap valC l[i].cells), row 43 2 a1 l1.length c1 (List.flatMap objC l1), star (List.map obRow l1), ro (some ⟨g0, o0, none⟩) (List.flatMap objC l), gBag l, .blk g1 51 [.int .i64 0, .slice none 0 0], .blk g2 51 [.int .i64 M, .slice a1 l1.length c1]]) [] (by kernel_rfl)) 0 (by kernel_rfl) view_ro) (sub_of [3] (by kernel_rfl)) ?_
            rintro r _ ⟨a2, c2, hn2, hc2, rfl, rfl⟩
            refine TK 5 [(13, [])] (.i 56 (.agg #[.string (mkS l[i].tag), .slice a2 l[i].cells.length c2]) (.d (.d (.d (.d (.d (.k .a))))))) (#[true, false, true, true, true, true, true, true, true, true, true, true, true, true, false, false, false, false]) ?_
            refine wpa_two (i := 1) (j := 14) (n := 4) (by kernel_rfl) ?_ ?_
            · refine wpi_one (n := 4) true 1 [7] [(44, .slice a1 l1.length c1), (56, .agg #[.string (mkS l[i].tag), .slice a2 l[i].cells.length c2]), (7, .int .i64 (↑i : Int)), (6, .pointer (some ⟨g2, 0, none⟩)), (5, .int .i64 0), (4, .pointer (some ⟨g1, 0, none⟩)), (1, .slice (some ⟨g0, o0, none⟩) l.length c)] [row 28 3 a2 l[i].cells.length c2 (List.flatMap valC l[i].cells), ro l[i].a (List.flatMap valC l[i].cells), row 43 2 a1 l1.length c1 (List.flatMap objC l1), star (List.map obRow l1), ro (some ⟨g0, o0, none⟩) (List.flatMap objC l), gBag l, .blk g1 51 [.int .i64 0, .slice none 0 0], .blk g2 51 [.int .i64 M, .slice a1 l1.length c1]] [] (by kernel_rfl) (by kernel_rfl) trivial (sub_of [4] (by kernel_rfl)) ?_
              refine wpa_new (n := 3) true 14 [] (fun g3 => [(57, .slice (some ⟨g3, 0, none⟩) 1 1), (44, .slice a1 l1.length c1), (7, .int .i64 (↑i : Int)), (6, .pointer (some ⟨g2, 0, none⟩)), (5, .int .i64 0), (4, .pointer (some ⟨g1, 0, none⟩)), (1, .slice (some ⟨g0, o0, none⟩) l.length c)]) (fun g3 => [row 28 3 a2 l[i].cells.length c2 (List.flatMap valC l[i].cells), ro l[i].a (List.flatMap valC l[i].cells), row 43 2 a1 l1.length c1 (List.flatMap objC l1), star (List.map obRow l1), ro (some ⟨g0, o0, none⟩) (List.flatMap objC l), gBag l, .blk g1 51 [.int .i64 0, .slice none 0 0], .blk g2 51 [.int .i64 M, .slice a1 l1.length c1], .blk g3 43 [.string (mkS l[i].tag), .slice a2 l[i].cells.length c2]]) (fun g3 => []) (by kernel_rfl) (fun g3 => by kernel_rfl) (fun g3 => by kernel_rfl) (fun g3 => trivial) (fun g3 => sub_of [4] (by kernel_rfl)) fun g3 => ?_
              refine wpa_ent (ent_turn 8 (ro (some ⟨g3, 0, none⟩) (objC (Ob.mk l[i].tag a2 c2 l[i].cells))) rfl (turn_rblk (l := objC (Ob.mk l[i].tag a2 c2 l[i].cells)) (obj_one _)) rfl) ?_
              refine wpa_app (i := 15) (nf := 2) (by kernel_rfl) (a := a1) (n := l1.length) (cap := c1) (x := (.slice (some ⟨g3, 0, none⟩) 1 1)) (t := 37) (xt := 37) (dst := some 58) (by kernel_rfl) (e := 43) (sz := 2) (bytes := 40) (by kernel_rfl) 2 (xs := (List.flatMap objC l1)) (by kernel_rfl) (m := 1) (news := (objC (Ob.mk l[i].tag a2 c2 l[i].cells))) (fun w h => src_ro h 8 rfl rfl (fun e => by cases e)) (by unfold maxLen; omega) (by omega) [3] (by kernel_rfl) ?_
              intro a3 c3 hn3
              rw [objs_snoc, objs_n1 l1 (Ob.mk l[i].tag a2 c2 l[i].cells)]
              refine TK 1 [(16, [])] (.i 59 (.pointer (some ⟨g2, 1, none⟩)) (.k (.d (.d (.k .a))))) (#[true, true, true, true, true, true, true, true, true, true, true, true, true, true, true, true, true, false]) ?_
              refine AO 0 17 [7] (.d (.d (.k .a))) (.k (.k (.k (.k (.k (.k (.k (.u (.k (.i (.slice a3 (l1 ++ [Ob.mk l[i].tag a2 c2 l[i].cells]).length c3) .z)) .a)))))))) [4] ?_
              refine wpa_done 0 (by kernel_rfl) ?_
              rw [show row 28 3 a2 l[i].cells.length c2 (l[i].cells.flatMap valC) = obRow (Ob.mk l[i].tag a2 c2 l[i].cells) from rfl]
              exact nx_ent (ent_hp [2, 2, 0, 1, 1, 1, 1] rfl) (nx_ent (ent_fr (by kernel_rfl)) (hk ⟨(a3, c3, Ob.mk l[i].tag a2 c2 l[i].cells), rfl⟩))
            · refine wpi_new (n := 4) true 14 [] (fun g3 => [(57, .slice (some ⟨g3, 0, none⟩) 1 1), (43, .pointer (some ⟨g2, 1, none⟩)), (7, .int .i64 (↑i : Int)), (6, .pointer (some ⟨g2, 0, none⟩)), (5, .int .i64 0), (4, .pointer (some ⟨g1, 0, none⟩)), (1, .slice (some ⟨g0, o0, none⟩) l.length c)]) (fun g3 => [row 28 3 a2 l[i].cells.length c2 (List.flatMap valC l[i].cells), ro l[i].a (List.flatMap valC l[i].cells), row 43 2 a1 l1.length c1 (List.flatMap objC l1), star (List.map obRow l1), ro (some ⟨g0, o0, none⟩) (List.flatMap objC l), gBag l, .blk g1 51 [.int .i64 0, .slice none 0 0], .blk g2 51 [.int .i64 M, .slice a1 l1.length c1], .blk g3 43 [.string (mkS l[i].tag), .slice a2 l[i].cells.length c2]]) (fun g3 => []) (fun g3 => by kernel_rfl) (fun g3 => by kernel_rfl) (fun g3 => trivial) (fun g3 => sub_of [4] (by kernel_rfl)) fun g3 => ?_
              refine AO 3 1 [7] (.i 44 (.slice a1 l1.length c1) (.k (.d (.k .a)))) .a [4] ?_
              refine wpa_ent (ent_turn 8 (ro (some ⟨g3, 0, none⟩) (objC (Ob.mk l[i].tag a2 c2 l[i].cells))) rfl (turn_rblk (l := objC (Ob.mk l[i].tag a2 c2 l[i].cells)) (obj_one _)) rfl) ?_
              refine wpa_app (i := 15) (nf := 2) (by kernel_rfl) (a := a1) (n := l1.length) (cap := c1) (x := (.slice (some ⟨g3, 0, none⟩) 1 1)) (t := 37) (xt := 37) (dst := some 58) (by kernel_rfl) (e := 43) (sz := 2) (bytes := 40) (by kernel_rfl) 2 (xs := (List.flatMap objC l1)) (by kernel_rfl) (m := 1) (news := (objC (Ob.mk l[i].tag a2 c2 l[i].cells))) (fun w h => src_ro h 8 rfl rfl (fun e => by cases e)) (by unfold maxLen; omega) (by omega) [3] (by kernel_rfl) ?_
              intro a3 c3 hn3
              rw [objs_snoc, objs_n1 l1 (Ob.mk l[i].tag a2 c2 l[i].cells)]
              refine TK 1 [(16, [])] (.i 59 (.pointer (some ⟨g2, 1, none⟩)) (.k (.d (.d (.k .a))))) (#[true, true, true, true, true, true, true, true, true, true, true, true, true, true, true, true, true, false]) ?_
              refine AO 0 17 [7] (.d (.d (.k .a))) (.k (.k (.k (.k (.k (.k (.k (.u (.k (.i (.slice a3 (l1 ++ [Ob.mk l[i].tag a2 c2 l[i].cells]).length c3) .z)) .a)))))))) [4] ?_
              refine wpa_done 0 (by kernel_rfl) ?_
              rw [show row 28 3 a2 l[i].cells.length c2 (l[i].cells.flatMap valC) = obRow (Ob.mk l[i].tag a2 c2 l[i].cells) from rfl]
              exact nx_ent (ent_hp [2, 2, 0, 1, 1, 1, 1] rfl) (nx_ent (ent_fr (by kernel_rfl)) (hk ⟨(a3, c3, Ob.mk l[i].tag a2 c2 l[i].cells), rfl⟩))
        · rintro ⟨⟨a3, c3, o⟩, ho⟩
          dsimp only at ho ⊢
          refine BN (NT (RG ?_))
          refine RV true [] .z (.i 7 (.int .i64 ((↑i : Int) + 1)) (.d (.k .a))) .a ([inI64 ((↑i : Int) + (1 : Int))]) ⟨by unfold inI64; omega, trivial⟩ ?_
          refine RZ ?_
          refine nx_ent (Ent.trans (ent_hp [1, 1, 0, 0, 0, 0, 0] rfl) (ent_star_snoc trivial)) ?_
          rw [show l1.map obRow ++ [obRow o] = (l1 ++ [o]).map obRow by simp]
          exact fun a' w' hS' => ⟨⟨(i + 1, a3, c3, l1 ++ [o]), hlt, by rw [take_snoc Ob.o hlt, ← hm, List.map_append, ← ho]; rfl, fun j hj => by
                      rcases Nat.lt_or_ge j i with h | h
                      · exact hall j h
                      · obtain rfl : j = i := by omega
                        exact hob⟩, by dsimp only; omega, ent_fr (by kernel_rfl) _ _ (ent_hp [1, 0, 0, 0, 0, 0] rfl _ _ hS')⟩
  · obtain rfl : i = l.length := by omega
    have hok : okObs l.length l = true := List.all_eq_true.2 fun x hx => by
      obtain ⟨j, hj⟩ := List.getElem?_of_mem hx
      obtain ⟨hj1, rfl⟩ := List.getElem?_eq_some_iff.1 hj
      exact hall j (by omega)
    rw [List.take_length] at hm
    have hus := rUsed_spec M a1 c1 l1 (by omega) (by rw [hm]; exact hu)
    rw [hm] at hus
    rw [hok]
    refine SQ (SQ (RG ?_))
    refine RR [] .z (.i 13 (.bool (decide ((↑l.length : Int) < (↑l.length : Int)))) .a) .a ?_
    refine RZ (NT ?_)
    refine SC 13 (decide ((↑l.length : Int) < (↑l.length : Int))) false (by simp) ?_
    refine CF (EX (TE (TE (BH (NT (SQ (SQ ?_)))))))
    refine wpc_draw (by kernel_rfl) [.blk g2 51 [.int .i64 M, .slice a1 l1.length c1]] (sub_of [5] (by kernel_rfl)) 5 (by kernel_rfl) ?_
    refine TK 2 [(0, [0, 0]), (2, []), (3, [0])] (.i 63 (.int .i64 M) (.i 60 (.agg #[.int .i64 M, .slice a1 l1.length c1]) (.d (.d (.d (.k (.k (.k .z)))))))) (#[true, false, true, true, false]) ?_
    refine AC (dst := some 61) 1 1 .a (hus) (GV (GI []) 0 view_row) [5] ?_
    rintro r _ ⟨rfl, rfl⟩
    by_cases hf : (usedO (l.map Ob.o) : Int) ≤ M
    · refine TK 0 [(4, [])] (.i 64 (.bool (decide ((↑(usedO (List.map Ob.o l)) : Int) > M))) (.d (.d (.d (.k .a))))) (#[true, true, true, true, true]) ?_
      refine wpa_done 0 (by kernel_rfl) ?_
      refine NT ?_
      refine SC 64 (decide ((↑(usedO (List.map Ob.o l)) : Int) > M)) false (decide_eq_false (by omega)) ?_
      refine CF (SK (NT (SQ (RG ?_))))
      refine RR [5, 5, 4, 4] .z (.d (.d (.d (.k .a)))) (.k (.k (.k (.k (.u (.i (.int .i64 M) (.i (.slice a1 l1.length c1) .z)) .a))))) ?_
      refine RZ (NT (RE ?_))
      refine NE [0, 0] (.k (.k .z)) (.d (.d (.k .a))) [4, 4] (.tuple #[.agg #[.int .i64 M, .slice a1 l1.length c1], .int .i64 0]) ?_
      rw [if_neg (by simp), if_pos hf]
      exact ⟨a1, c1, l1, hm, rfl, rfl⟩
    · refine TK 0 [(4, [])] (.i 64 (.bool (decide ((↑(usedO (List.map Ob.o l)) : Int) > M))) (.d (.d (.d (.k .a))))) (#[true, true, true, true, true]) ?_
      refine wpa_done 0 (by kernel_rfl) ?_
      refine NT ?_
      refine SC 64 (decide ((↑(usedO (List.map Ob.o l)) : Int) > M)) true (decide_eq_true (by omega)) ?_
      refine CT (SQ (RG ?_))
      refine RR [4, 4] .z (.i 5 (.int .i64 12) (.d (.d (.k (.d (.k .a)))))) .a ?_
      refine RZ (NT (RE (TR ?_)))
      refine NE [] .z .a [4, 4] (.tuple #[.agg #[.int .i64 0, .slice none 0 0], .int .i64 12]) ?_
      rw [if_neg (by simp), if_neg hf]
      exact ⟨rfl, rfl⟩
end Go.Proofs.YtpfhleghgkeemaaGreatDoor
