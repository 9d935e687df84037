import Derived.Test.YtpfhleghgkeemaaGreatDoorH48
import Derived.Test.YtpfhleghgkeemaaGreatDoorY2
namespace Go.Proofs.YtpfhleghgkeemaaGreatDoor
open Go Go.Sx
set_option linter.unusedVariables false
set_option linter.unusedSimpArgs false

theorem step_ok {M : Int} {L : List O} {t : At} (hL : okHeap L) (ht : t.ok) : okHeap (stepR M L t) := by
  obtain ⟨ht1, ht2, ht3, ht4, ht5, ht6, ht7, ht8, ht9⟩ := ht
  unfold stepR
  split
  · exact ok_set hL ht5 ht9
  split
  · exact hL
  split
  · exact hL
  split
  · exact hL
  · exact ok_alloc hL ht1 ht2 ht3 ht7
theorem step_wf {M : Int} {L : List O} {t : At} (hL : wfL L) : wfL (stepR M L t) := by
  unfold stepR
  split
  · exact wf_set hL
  split
  · exact hL
  split
  · exact hL
  split
  · exact hL
  · exact wf_alloc hL
theorem step_used {M : Int} {L : List O} {t : At} (h : (usedO L : Int) ≤ M) : (usedO (stepR M L t) : Int) ≤ M := by
  unfold stepR
  split
  · rw [setR_used]; exact h
  split
  · exact h
  split
  · exact h
  split
  · exact h
  · exact allocR_used h
/-- The document's objects, one put in: read alone. -/
theorem ent_model {Γ : Cx} {fr : Fr} {rest : Hp} {l2 l3 : List Ob} {o : Ob} (h : ∀ p ∈ l3, p = o ∨ p ∈ l2) : Ent Γ ⟨fr, obRow o :: gBag l2 :: rest⟩ ⟨fr, gBag l3 :: rest⟩ :=
  ent_ro (hp := [obRow o, gBag l2]) (c' := gBag l3) (fun w hw c hc => by
    obtain ⟨p, hp, rfl⟩ := List.mem_map.1 hc
    rcases h p hp with rfl | h2
    · exact view_row.holds w (hw (obRow p) (by simp))
    · exact hw (gBag l2) (by simp) (obRo p) (List.mem_map.2 ⟨p, h2, rfl⟩)) (fun w hw k ⟨c, hc, hk⟩ => by
    obtain ⟨p, hp, rfl⟩ := List.mem_map.1 hc
    rcases h p hp with rfl | h2
    · exact ⟨obRow p, by simp, view_row.own w (hw (obRow p) (by simp)) k hk⟩
    · exact ⟨gBag l2, by simp, obRo p, List.mem_map.2 ⟨p, h2, rfl⟩, hk⟩) (fun h => h)
theorem ro_nil {hp : Hp} {w : World} {i : Nat} {l : List Ob} (h : HS hp w) {a : Option Addr} (hi : hp[i]? = some (ro a (l.flatMap objC))) : a = none → l = [] := fun hn => by
  rcases Nat.eq_zero_or_pos l.length with h0 | h0
  · exact List.eq_nil_of_length_eq_zero h0
  · obtain ⟨g, off, e⟩ := ro_addr h i hi (by rw [objs_len]; omega)
    rw [hn] at e; cases e
theorem bag_nil {hp : Hp} {w : World} {i : Nat} {l : List Ob} (h : HS hp w) (hi : hp[i]? = some (gBag l)) : ∀ o ∈ l, o.a = none → o.cells = [] := fun o ho => by
  obtain ⟨q, hq⟩ := List.getElem?_of_mem ho
  obtain ⟨hq1, rfl⟩ := List.getElem?_eq_some_iff.1 hq
  exact gob_nil h hi hq1
theorem ent_ro_nil {Γ : Cx} {fr : Fr} {rest : Hp} : Ent Γ ⟨fr, rest⟩ ⟨fr, ro none ([] : List Value) :: rest⟩ := ent_ro (hp := []) (c' := ro none ([] : List Value)) (fun w h => ⟨fun u hu => (by cases hu), rfl⟩) (fun w h k hk => absurd rfl hk.2) (fun h => h)
/-- Where the play stands. -/
structure PX where
  i : Nat
  g : Nat
  a1 : Option Addr
  c1 : Nat
  l1 : List Ob
  a2 : Option Addr
  c2 : Nat
  l2 : List Ob
  L : List O
def PX.ok (M : Int) (n : Nat) (y : PX) : Prop := y.i ≤ n ∧ y.l1.map Ob.o = y.L ∧ y.l2.map Ob.o = y.L ∧ (usedO y.L : Int) ≤ M ∧ okHeap y.L ∧ wfL y.L
set_option maxHeartbeats 4000000 in
theorem HeapPlays_spec (most : Int) (a : Option Addr) (c : Nat) (l : List At) (v : V) (hl : l.length ≤ 1048576) (hs : ∀ t ∈ l, t.ok) (hv : v.sm) (hvi : v.i64) :
    Does Tryz.prog 9 [.int .i64 most, .slice a l.length c, valV v] [ro a (l.flatMap actC), gActs l, gWords, gPow] (fun v hp' => v = .bool true ∧ hp' = []) := by
  have hM := mostI_le most
  unfold valV
  refine fn_enter Tryz.func9 rfl 103 rfl fun w0 h0 => ?_
  refine SQ (RG ?_)
  refine RP [] (.d .a) 5 (.k (.k .z)) .a 28 [.int .i64 v.k, .int .i64 v.n, .string (mkS v.s)] fun g1 => ?_
  refine RR [] .z (.i 6 (.bool false) .a) .a ?_
  refine RZ (NT (SQ (RG ?_)))
  refine RR [] (.d .a) (.i 13 (.int .i64 most) .a) .a ?_
  refine RC (dst := some 14) [] .a (New_spec most) ?_
  rintro r _ ⟨g, rfl, rfl⟩
  refine RR [] (.d .a) (.i 15 (.int .i64 most) (.k (.d (.k (.k (.d (.k .a))))))) .a ?_
  refine RC (dst := some 16) [] .a (rNew_spec most) ?_
  rintro r _ ⟨rfl, rfl⟩
  refine RP [] (.d .a) 8 (.k (.d (.k .a))) .a 51 [.int .i64 0, .slice none 0 0] fun g2 => ?_
  refine RR [6, 6] .z (.i 7 (.pointer (some ⟨g, 0, none⟩)) (.k (.d (.d (.k .a))))) (.k (.k (.k (.k (.k (.k (.u (.i (.int .i64 (mostI most)) (.d (.k .a))) .a))))))) ?_
  refine RZ (NT (SQ (SQ (RG ?_))))
  refine RR [] .z (.i 23 (.bool (decide ((↑l.length : Int) > (60 : Int)))) .a) .a ?_
  refine RZ (NT ?_)
  obtain ⟨M, hMe⟩ : ∃ M, M = mostI most := ⟨_, rfl⟩
  rw [← hMe] at hM ⊢
  by_cases h60 : 60 < l.length
  · refine SC 23 (decide ((↑l.length : Int) > (60 : Int))) true (decide_eq_true (by omega)) ?_
    refine CT (SQ (RG ?_))
    refine RR [] (.d (.d (.d .a))) (.i 26 (.bool true) (.d (.d (.k .a)))) .a ?_
    refine RCG (dst := some 27) .a (lives_spec) (GV (GV (GI []) 4 view_gPow) 3 view_ro) ?_
    rintro r _ ⟨rfl, rfl⟩
    refine RR [] .z (.i 6 (.bool true) (.d (.d (.k (.k (.d (.k .a))))))) .a ?_
    refine RZ (NT (RE (TR ?_)))
    refine NE [] .z .a [] (.bool true) ?_
    exact ⟨rfl, rfl⟩
  · refine SC 23 (decide ((↑l.length : Int) > (60 : Int))) false (decide_eq_false (by omega)) ?_
    refine CF (SK (NT (SQ (SQ (RG ?_)))))
    refine RR [] .z (.i 9 (.int .i64 0) (.d (.d (.k .a)))) .a ?_
    refine RZ (NT (BK ?_))
    refine wpc_loop (X := {y : PX // y.ok M l.length}) (fun y => St.mk [(9, .int .i64 (y.1.i : Int)), (7, .pointer (some ⟨y.1.g, 0, none⟩)), (8, .pointer (some ⟨g2, 0, none⟩)), (6, .bool false), (5, .pointer (some ⟨g1, 0, none⟩)), (1, .slice a l.length c)]
      [.blk y.1.g 59 [.bool true, .int .i64 M, .int .i64 (usedO y.1.L : Nat), .slice y.1.a1 y.1.l1.length y.1.c1], row 43 2 y.1.a1 y.1.l1.length y.1.c1 (y.1.l1.flatMap objC), star (y.1.l1.map obRow), ro y.1.a2 (y.1.l2.flatMap objC), gBag y.1.l2, ro a (l.flatMap actC), gActs l, gWords, gPow, .blk g1 28 [.int .i64 v.k, .int .i64 v.n, .string (mkS v.s)], .blk g2 51 [.int .i64 M, .slice y.1.a2 y.1.l2.length y.1.c2]]) (fun y => l.length - y.1.i) ⟨⟨0, g, none, 0, [], none, 0, [], []⟩, Nat.zero_le _, rfl, rfl, hM.1, okHeap_nil, fun o ho => by cases ho⟩ ?_ ?_
    · show Ent _ _ (St.mk _ [.blk g 59 [.bool true, .int .i64 M, .int .i64 0, .slice none 0 0], row 43 2 none 0 0 [], star [], ro none [], bag [], ro a (l.flatMap actC), gActs l, gWords, gPow, .blk g1 28 [.int .i64 v.k, .int .i64 v.n, .string (mkS v.s)], .blk g2 51 [.int .i64 M, .slice none 0 0]])
      exact Ent.trans ent_bag_nil (Ent.trans ent_ro_nil (Ent.trans ent_star_nil (Ent.trans (ent_nil 43 2) (Ent.trans (ent_hp [4, 0, 0, 0, 0, 0, 0, 0, 0, 0, 0] rfl) (ent_fr (by kernel_rfl))))))
    rintro ⟨⟨i, g, a1, c1, l1, a2, c2, l2, L⟩, hi, hm1, hm2, hu, hok, hwf⟩
    dsimp only at hi hm1 hm2 hu hok hwf ⊢
    have hll := len_used L
    have hl1 : l1.length = L.length := by rw [← hm1, List.length_map]
    have hl2 : l2.length = L.length := by rw [← hm2, List.length_map]
    have hcl : ∀ o ∈ L, o.2.length ≤ 1048576 := fun o ho => by have := used_cells ho; omega
    by_cases hlt : i < l.length
    · have ht := hs _ (List.getElem_mem hlt)
      obtain ⟨ht1, ht2, ht3, ht4, ht5, ht6, ht7, ht8, ht9⟩ := ht
      refine wpc_fact (fun w h => ro_addr h 5 rfl (by rw [acts_len]; omega)) ?_
      rintro ⟨g0, o0, rfl⟩
      refine wpc_fact (fun w h => ro_nil h (i := 3) rfl) fun ha2 => ?_
      refine wpc_fact (fun w h => bag_nil h (i := 4) rfl) fun hn2 => ?_
      refine SQ (SQ (RG ?_))
      refine RR [] .z (.i 32 (.bool (decide ((↑i : Int) < (↑l.length : Int)))) .a) .a ?_
      refine RZ (NT ?_)
      refine SC 32 (decide ((↑i : Int) < (↑l.length : Int))) true (decide_eq_true (by omega)) ?_
      refine CT (SK (NT (SQ (BK (SQ (SQ (RG ?_)))))))
      refine RV true [] (.d (.d (.d (.d .a)))) (.i 38 (.pointer (some ⟨g0, o0 + i * 10 + 2, none⟩)) (.d (.d (.k .a)))) .a [(0 : Int) ≤ (↑i : Int) ∧ (↑i : Int) < (↑l.length : Int)] ⟨by omega, trivial⟩ ?_
      refine wpr_eq (ld (t := 25) (a := ⟨g0, o0 + i * 10 + 2, none⟩) (dst := some 39) (by kernel_rfl) false 1 (by kernel_rfl) (by simp) [.slice l[i].a l[i].cells.length l[i].c] rfl (fun w h => ld_ro h 5 rfl (i * 10 + 2) (act_fld hlt 2 1 (by decide)))) ?_
      by_cases h100 : 100 < l[i].cells.length
      · refine RR [] .z (.i 41 (.bool (decide ((↑l[i].cells.length : Int) > (100 : Int)))) (.d (.d (.k .a)))) .a ?_
        refine RZ (NT ?_)
        refine SC 41 (decide ((↑l[i].cells.length : Int) > (100 : Int))) true (decide_eq_true (by omega)) ?_
        refine CT (SQ (RG ?_))
        refine RCG (dst := some 42) .a (lives_spec) (GV (GV (GI []) 8 view_gPow) 7 view_ro) ?_
        rintro r _ ⟨rfl, rfl⟩
        refine RR [] .z (.i 6 (.bool true) (.d (.d (.d (.k (.k (.k (.d (.k .a))))))))) .a ?_
        refine RZ (NT (RE (TR (BR (TR (TR (BR (TR ?_))))))))
        refine NE [] .z .a [] (.bool true) ?_
        exact ⟨rfl, rfl⟩
      · refine RR [] .z (.i 41 (.bool (decide ((↑l[i].cells.length : Int) > (100 : Int)))) (.d (.d (.k .a)))) .a ?_
        refine RZ (NT ?_)
        refine SC 41 (decide ((↑l[i].cells.length : Int) > (100 : Int))) false (decide_eq_false (by omega)) ?_
        refine CF (SK (NT (SQ ?_)))
        refine wpc_draw (by kernel_rfl) [ro (some ⟨g0, o0, none⟩) (List.flatMap actC l), .blk g2 51 [.int .i64 M, .slice a2 l2.length c2]] (sub_of [5, 10] (by kernel_rfl)) 15 (by kernel_rfl) ?_
        refine wpa_take true [(0, []), (1, [1, 1]), (2, []), (3, []), (4, [])] ([(48, .pointer (some ⟨g0, o0 + i * 10, none⟩)), (45, .agg #[.int .i64 M, .slice a2 l2.length c2]), (44, .pointer (some ⟨g, 0, none⟩)), (9, .int .i64 (↑i : Int)), (7, .pointer (some ⟨g, 0, none⟩)), (8, .pointer (some ⟨g2, 0, none⟩)), (6, .bool false), (5, .pointer (some ⟨g1, 0, none⟩)), (1, .slice (some ⟨g0, o0, none⟩) l.length c)]) (#[true, true, true, true, true, false, false, false, false, false, false, false, false, false, false]) [(0 : Int) ≤ (↑i : Int) ∧ (↑i : Int) < (↑l.length : Int)] (n := 10) (by kernel_rfl) (by kernel_rfl) (by kernel_rfl) ⟨by omega, trivial⟩ ?_
        refine wpa_qld (i := 5) (n := 9) (by kernel_rfl) (by kernel_rfl) (by kernel_rfl) (t := 67) (a := ⟨g0, o0 + i * 10, none⟩) (dst := some 49) (by kernel_rfl) true 10 (by kernel_rfl) (by simp) (actC l[i]) rfl (fun w h => ld_roL h 0 rfl (i * 10) (acts_at hlt)) ?_
        refine wpa_ent (ent_copy 6 (ro l[i].a (l[i].cells.flatMap valC)) rfl (fun h => h) (view_in (actRo_in hlt) view_ro)) ?_
        have hst := step_spec g M hM a1 c1 l1 L hm1 a2 c2 l2 hm2 hu hok hwf ha2 hn2 l[i] (hs _ (List.getElem_mem hlt))
        unfold StepS heapB heapR heapS actC at hst
        refine wpa_joinx (X := {y : PX // y.l1.map Ob.o = y.L ∧ y.l2.map Ob.o = y.L ∧ y.L = stepR M L l[i]}) (fun y => St.mk [(12, .bool true), (11, .pointer (some ⟨y.1.i, 0, none⟩)), (10, .pointer (some ⟨y.1.g, 0, none⟩)), (9, .int .i64 (i : Int)), (8, .pointer (some ⟨g2, 0, none⟩)), (6, .bool false), (5, .pointer (some ⟨g1, 0, none⟩)), (1, .slice (some ⟨g0, o0, none⟩) l.length c)]
          [.blk y.1.g 59 [.bool true, .int .i64 M, .int .i64 (usedO y.1.L : Nat), .slice y.1.a1 y.1.l1.length y.1.c1], row 43 2 y.1.a1 y.1.l1.length y.1.c1 (y.1.l1.flatMap objC), star (y.1.l1.map obRow), ro y.1.a2 (y.1.l2.flatMap objC), gBag y.1.l2, ro (some ⟨g0, o0, none⟩) (l.flatMap actC), gActs l, gWords, gPow, .blk g1 28 [.int .i64 v.k, .int .i64 v.n, .string (mkS v.s)], .blk g2 51 [.int .i64 M, .slice a2 l2.length c2], .blk y.1.i 51 [.int .i64 M, .slice y.1.a2 y.1.l2.length y.1.c2]]) (fun Q1 hQ1 hk => ?_) ?_
        · refine wpa_two (i := 6) (j := 11) (n := 8) (by kernel_rfl) ?_ ?_
          · refine wpi_call (i := 6) (dst := some 50) (rest := [ro l[i].a (List.flatMap valC l[i].cells), ro a2 (List.flatMap objC l2), gBag l2, ro (some ⟨g0, o0, none⟩) (List.flatMap actC l), gActs l, gWords, gPow, .blk g1 28 [.int .i64 v.k, .int .i64 v.n, .string (mkS v.s)], .blk g2 51 [.int .i64 M, .slice a2 l2.length c2]]) (by kernel_rfl) (hst) (Give.reorder (Give.view (c := (ro a2 (List.flatMap objC l2))) (Give.view (c := (gBag l2)) (Give.view (c := (ro l[i].a (List.flatMap valC l[i].cells))) (Give.view (c := gWords) (give (pre := [.blk g 59 [.bool true, .int .i64 M, .int .i64 (↑(usedO L) : Int), .slice a1 l1.length c1], row 43 2 a1 l1.length c1 (List.flatMap objC l1), star (List.map obRow l1)]) (rest := [ro l[i].a (List.flatMap valC l[i].cells), ro a2 (List.flatMap objC l2), gBag l2, ro (some ⟨g0, o0, none⟩) (List.flatMap actC l), gActs l, gWords, gPow, .blk g1 28 [.int .i64 v.k, .int .i64 v.n, .string (mkS v.s)], .blk g2 51 [.int .i64 M, .slice a2 l2.length c2]]) [1, 1, 1] (by kernel_rfl)) 5 (by kernel_rfl) view_ro) 0 (by kernel_rfl) view_ro) 2 (by kernel_rfl) view_self) 1 (by kernel_rfl) view_ro) [4, 4, 4, 0, 0, 0, 0] (by kernel_rfl)) (sub_of [3, 8] (by kernel_rfl)) ?_
            rintro r _ ⟨g', a1', c1', l1', hm1', h⟩
            rcases h with ⟨a3, c3, l3, o, hm3, hin, rfl, rfl⟩ | ⟨hLL, rfl, rfl⟩
            · refine TK 4 [(7, []), (8, []), (9, []), (10, [])] (.i 53 (.bool true) (.i 52 (.agg #[.int .i64 M, .slice a3 l3.length c3]) (.i 51 (.pointer (some (Addr.mk g' 0 none))) (.d (.d (.d (.d (.d (.k (.d (.k .a))))))))))) (#[true, true, true, true, true, true, true, true, true, true, true, false, false, false, false]) ?_
              refine wpa_new (n := 3) true 11 [] (fun g3 => [(11, .pointer (some ⟨g3, 0, none⟩)), (53, .bool true), (52, .agg #[.int .i64 M, .slice a3 l3.length c3]), (51, .pointer (some (Addr.mk g' 0 none))), (9, .int .i64 (↑i : Int)), (8, .pointer (some ⟨g2, 0, none⟩)), (6, .bool false), (5, .pointer (some ⟨g1, 0, none⟩)), (1, .slice (some ⟨g0, o0, none⟩) l.length c)]) (fun g3 => [.blk g' 59 [.bool true, .int .i64 M, .int .i64 (↑(usedO (stepR M L l[i])) : Int), .slice a1' l1'.length c1'], row 43 2 a1' l1'.length c1' (List.flatMap objC l1'), star (List.map obRow l1'), row 43 2 a3 l3.length c3 (List.flatMap objC l3), obRow o, ro l[i].a (List.flatMap valC l[i].cells), ro a2 (List.flatMap objC l2), gBag l2, ro (some ⟨g0, o0, none⟩) (List.flatMap actC l), gActs l, gWords, gPow, .blk g1 28 [.int .i64 v.k, .int .i64 v.n, .string (mkS v.s)], .blk g2 51 [.int .i64 M, .slice a2 l2.length c2], .blk g3 51 [.int .i64 0, .slice none 0 0]]) (fun g3 => []) (by kernel_rfl) (fun g3 => by kernel_rfl) (fun g3 => by kernel_rfl) (fun g3 => trivial) (fun g3 => sub_of [8, 13] (by kernel_rfl)) fun g3 => ?_
              refine TK 2 [(12, [])] (.i 10 (.pointer (some (Addr.mk g' 0 none))) (.k (.k (.k (.d (.k .a)))))) (#[true, true, true, true, true, true, true, true, true, true, true, true, true, false, false]) ?_
              refine AO 1 13 [14, 14] (.k (.k (.k (.d (.k .a))))) (.k (.k (.k (.k (.k (.k (.k (.k (.k (.k (.k (.k (.k (.k (.u (.i (.int .i64 M) (.i (.slice a3 l3.length c3) .z)) .a))))))))))))))) [8, 13] ?_
              refine TK 0 [(14, [])] (.i 12 (.bool true) (.k (.k (.d (.k .a))))) (#[true, true, true, true, true, true, true, true, true, true, true, true, true, true, true]) ?_
              refine wpa_done 0 (by kernel_rfl) ?_
              refine nx_ent (Ent.trans (ent_turn 3 (ro a3 (l3.flatMap objC)) rfl (turn_view view_row) rfl) (Ent.trans (ent_hp [4, 6, 0, 0, 0, 0, 2, 2, 2, 2, 2, 2, 2] rfl) (ent_model hin))) ?_
              exact nx_ent (ent_hp [1, 1, 1, 1, 0, 0, 0, 0, 0, 0, 0, 0] rfl) (nx_ent (ent_fr (by kernel_rfl)) (hk ⟨⟨g3, g', a1', c1', l1', a3, c3, l3, stepR M L l[i]⟩, hm1', hm3, rfl⟩))
            · rw [hLL] at hm1' hk
              refine TK 4 [(7, []), (8, []), (9, []), (10, [])] (.i 53 (.bool true) (.i 52 (.agg #[.int .i64 M, .slice a2 l2.length c2]) (.i 51 (.pointer (some (Addr.mk g' 0 none))) (.d (.d (.d (.d (.d (.k (.d (.k .a))))))))))) (#[true, true, true, true, true, true, true, true, true, true, true, false, false, false, false]) ?_
              refine wpa_new (n := 3) true 11 [] (fun g3 => [(11, .pointer (some ⟨g3, 0, none⟩)), (53, .bool true), (52, .agg #[.int .i64 M, .slice a2 l2.length c2]), (51, .pointer (some (Addr.mk g' 0 none))), (9, .int .i64 (↑i : Int)), (8, .pointer (some ⟨g2, 0, none⟩)), (6, .bool false), (5, .pointer (some ⟨g1, 0, none⟩)), (1, .slice (some ⟨g0, o0, none⟩) l.length c)]) (fun g3 => [.blk g' 59 [.bool true, .int .i64 M, .int .i64 (↑(usedO L) : Int), .slice a1' l1'.length c1'], row 43 2 a1' l1'.length c1' (List.flatMap objC l1'), star (List.map obRow l1'), ro l[i].a (List.flatMap valC l[i].cells), ro a2 (List.flatMap objC l2), gBag l2, ro (some ⟨g0, o0, none⟩) (List.flatMap actC l), gActs l, gWords, gPow, .blk g1 28 [.int .i64 v.k, .int .i64 v.n, .string (mkS v.s)], .blk g2 51 [.int .i64 M, .slice a2 l2.length c2], .blk g3 51 [.int .i64 0, .slice none 0 0]]) (fun g3 => []) (by kernel_rfl) (fun g3 => by kernel_rfl) (fun g3 => by kernel_rfl) (fun g3 => trivial) (fun g3 => sub_of [6, 11] (by kernel_rfl)) fun g3 => ?_
              refine TK 2 [(12, [])] (.i 10 (.pointer (some (Addr.mk g' 0 none))) (.k (.k (.k (.d (.k .a)))))) (#[true, true, true, true, true, true, true, true, true, true, true, true, true, false, false]) ?_
              refine AO 1 13 [12, 12] (.k (.k (.k (.d (.k .a))))) (.k (.k (.k (.k (.k (.k (.k (.k (.k (.k (.k (.k (.u (.i (.int .i64 M) (.i (.slice a2 l2.length c2) .z)) .a))))))))))))) [6, 11] ?_
              refine TK 0 [(14, [])] (.i 12 (.bool true) (.k (.k (.d (.k .a))))) (#[true, true, true, true, true, true, true, true, true, true, true, true, true, true, true]) ?_
              refine wpa_done 0 (by kernel_rfl) ?_
              exact nx_ent (ent_hp [0, 0, 0, 1, 1, 1, 1, 1, 1, 1, 1, 1] rfl) (nx_ent (ent_fr (by kernel_rfl)) (hk ⟨⟨g3, g', a1', c1', l1', a2, c2, l2, L⟩, hm1', hm2, rfl⟩))
          · refine wpi_new (n := 8) true 11 [] (fun g3 => [(11, .pointer (some ⟨g3, 0, none⟩)), (49, .agg #[.int .i64 l[i].k, .string (mkS l[i].tag), .slice l[i].a l[i].cells.length l[i].c, .int .i64 l[i].v.k, .int .i64 l[i].v.n, .string (mkS l[i].v.s), .int .i64 l[i].x.k, .int .i64 l[i].x.n, .string (mkS l[i].x.s), .int .i64 l[i].i]), (45, .agg #[.int .i64 M, .slice a2 l2.length c2]), (44, .pointer (some ⟨g, 0, none⟩)), (9, .int .i64 (↑i : Int)), (8, .pointer (some ⟨g2, 0, none⟩)), (6, .bool false), (5, .pointer (some ⟨g1, 0, none⟩)), (1, .slice (some ⟨g0, o0, none⟩) l.length c)]) (fun g3 => [ro l[i].a (List.flatMap valC l[i].cells), .blk g 59 [.bool true, .int .i64 M, .int .i64 (↑(usedO L) : Int), .slice a1 l1.length c1], row 43 2 a1 l1.length c1 (List.flatMap objC l1), star (List.map obRow l1), ro a2 (List.flatMap objC l2), gBag l2, ro (some ⟨g0, o0, none⟩) (List.flatMap actC l), gActs l, gWords, gPow, .blk g1 28 [.int .i64 v.k, .int .i64 v.n, .string (mkS v.s)], .blk g2 51 [.int .i64 M, .slice a2 l2.length c2], .blk g3 51 [.int .i64 0, .slice none 0 0]]) (fun g3 => []) (fun g3 => by kernel_rfl) (fun g3 => by kernel_rfl) (fun g3 => trivial) (fun g3 => sub_of [6, 11] (by kernel_rfl)) fun g3 => ?_
            refine AC (dst := some 50) 7 6 (.k (.d (.d (.d (.k .a))))) (hst) (GO (GV (GV (GV (GV (GJ [1, 1, 1]) 5 view_ro) 0 view_ro) 2 view_self) 1 view_ro) [4, 4, 4, 0, 0, 0, 0]) [3, 8] ?_
            rintro r _ ⟨g', a1', c1', l1', hm1', h⟩
            rcases h with ⟨a3, c3, l3, o, hm3, hin, rfl, rfl⟩ | ⟨hLL, rfl, rfl⟩
            · refine TK 2 [(7, []), (8, []), (9, []), (10, []), (12, [])] (.i 10 (.pointer (some (Addr.mk g' 0 none))) (.i 53 (.bool true) (.i 52 (.agg #[.int .i64 M, .slice a3 l3.length c3]) (.d (.k (.d (.d (.d (.k .a))))))))) (#[true, true, true, true, true, true, true, true, true, true, true, true, true, false, false]) ?_
              refine AO 1 13 [14, 14] (.k (.k (.d (.k .a)))) (.k (.k (.k (.k (.k (.k (.k (.k (.k (.k (.k (.k (.k (.k (.u (.i (.int .i64 M) (.i (.slice a3 l3.length c3) .z)) .a))))))))))))))) [8, 13] ?_
              refine TK 0 [(14, [])] (.i 12 (.bool true) (.k (.d (.k .a)))) (#[true, true, true, true, true, true, true, true, true, true, true, true, true, true, true]) ?_
              refine wpa_done 0 (by kernel_rfl) ?_
              refine nx_ent (Ent.trans (ent_turn 3 (ro a3 (l3.flatMap objC)) rfl (turn_view view_row) rfl) (Ent.trans (ent_hp [4, 6, 0, 0, 0, 0, 2, 2, 2, 2, 2, 2, 2] rfl) (ent_model hin))) ?_
              exact nx_ent (ent_hp [1, 1, 1, 1, 0, 0, 0, 0, 0, 0, 0, 0] rfl) (nx_ent (ent_fr (by kernel_rfl)) (hk ⟨⟨g3, g', a1', c1', l1', a3, c3, l3, stepR M L l[i]⟩, hm1', hm3, rfl⟩))
            · rw [hLL] at hm1' hk
              refine TK 2 [(7, []), (8, []), (9, []), (10, []), (12, [])] (.i 10 (.pointer (some (Addr.mk g' 0 none))) (.i 53 (.bool true) (.i 52 (.agg #[.int .i64 M, .slice a2 l2.length c2]) (.d (.k (.d (.d (.d (.k .a))))))))) (#[true, true, true, true, true, true, true, true, true, true, true, true, true, false, false]) ?_
              refine AO 1 13 [12, 12] (.k (.k (.d (.k .a)))) (.k (.k (.k (.k (.k (.k (.k (.k (.k (.k (.k (.k (.u (.i (.int .i64 M) (.i (.slice a2 l2.length c2) .z)) .a))))))))))))) [6, 11] ?_
              refine TK 0 [(14, [])] (.i 12 (.bool true) (.k (.d (.k .a)))) (#[true, true, true, true, true, true, true, true, true, true, true, true, true, true, true]) ?_
              refine wpa_done 0 (by kernel_rfl) ?_
              exact nx_ent (ent_hp [0, 0, 0, 1, 1, 1, 1, 1, 1, 1, 1, 1] rfl) (nx_ent (ent_fr (by kernel_rfl)) (hk ⟨⟨g3, g', a1', c1', l1', a2, c2, l2, L⟩, hm1', hm2, rfl⟩))
        · rintro ⟨⟨g3, g', a1', c1', l1', a3, c3, l3, L'⟩, hm1', hm3, hL'⟩
          dsimp only at hm1' hm3 hL' ⊢
          have hu' := step_used (t := l[i]) hu
          have hok' := step_ok (M := M) hok (hs _ (List.getElem_mem hlt))
          have hwf' := step_wf (M := M) (t := l[i]) hwf
          rw [← hL'] at hu' hok' hwf'
          have hll' := len_used L'
          have hl1' : l1'.length = L'.length := by rw [← hm1', List.length_map]
          have hl3 : l3.length = L'.length := by rw [← hm3, List.length_map]
          have hus := rUsed_spec M a3 c3 l3 (by omega) (by rw [hm3]; omega)
          have hS1 := Show_o g' M a1' c1' l1' L' hm1' (by omega) hok' l[i].v ht4 ht8
          have hS2 := rShow_spec M a3 c3 l3 (by omega) (by rw [hm3]; exact hok') l[i].v ht4 ht8
          rw [hm3] at hus hS2
          unfold valV at hS1 hS2
          refine NT (SQ (SQ ?_))
          refine wpc_draw (by kernel_rfl) [ro (some ⟨g0, o0, none⟩) (List.flatMap actC l), .blk g3 51 [.int .i64 M, .slice a3 l3.length c3]] (sub_of [5, 11] (by kernel_rfl)) 30 (by kernel_rfl) ?_
          refine TK 21 [(0, []), (1, []), (2, []), (3, []), (4, []), (5, []), (6, []), (7, []), (9, [1, 1])] (.i 63 (.agg #[.int .i64 M, .slice a3 l3.length c3]) (.i 61 (.pointer (some (Addr.mk g' 0 none))) (.i 60 (.bool false) (.d (.k .a))))) (#[true, true, true, true, true, true, true, true, false, true, false, false, false, false, false, false, false, false, false, false, false, false, false, false, false, false, false, false, false, false]) ?_
          refine AC (dst := some 62) 20 8 (.d (.k .a)) (Used_spec g' M (usedO L') (.slice a1' l1'.length c1')) (GI [0]) [4, 10] ?_
          rintro r _ ⟨rfl, rfl⟩
          refine AC (dst := some 64) 19 10 .a (hus) (GV (GI []) 3 view_ro) [5, 11] ?_
          rintro r _ ⟨rfl, rfl⟩
          refine TK 16 [(11, []), (12, []), (13, [])] (.i 67 (.bool ((↑(usedO L') : Int) != (↑(usedO L') : Int))) (.d (.d (.d (.d (.d (.k .a))))))) (#[true, true, true, true, true, true, true, true, true, true, true, true, true, true, false, false, false, false, false, false, false, false, false, false, false, false, false, false, false, false]) ?_
          refine SA 67 ((↑(usedO L') : Int) != (↑(usedO L') : Int)) false (by simp) ?_
          refine wpa_take true [(14, []), (15, []), (16, []), (17, []), (18, []), (21, [1, 1]), (22, []), (23, []), (24, []), (25, [])] ([(79, .pointer (some ⟨g0, o0 + i * 10 + 3, none⟩)), (75, .agg #[.int .i64 M, .slice a3 l3.length c3]), (72, .pointer (some ⟨g0, o0 + i * 10 + 3, none⟩)), (68, .pointer (some (Addr.mk g' 0 none))), (67, .bool false), (11, .pointer (some ⟨g3, 0, none⟩)), (10, .pointer (some (Addr.mk g' 0 none))), (9, .int .i64 (↑i : Int)), (8, .pointer (some ⟨g2, 0, none⟩)), (6, .bool false), (5, .pointer (some ⟨g1, 0, none⟩)), (1, .slice (some ⟨g0, o0, none⟩) l.length c)]) (#[true, true, true, true, true, true, true, true, true, true, true, true, true, true, true, true, true, true, true, false, false, true, true, true, true, true, false, false, false, false]) [(0 : Int) ≤ (↑i : Int) ∧ (↑i : Int) < (↑l.length : Int), (0 : Int) ≤ (↑i : Int) ∧ (↑i : Int) < (↑l.length : Int)] (n := 6) (by kernel_rfl) (by kernel_rfl) (by kernel_rfl) ⟨by omega, by omega, trivial⟩ ?_
          refine wpa_qld (i := 19) (n := 5) (by kernel_rfl) (by kernel_rfl) (by kernel_rfl) (t := 28) (a := ⟨g0, o0 + i * 10 + 3, none⟩) (dst := some 73) (by kernel_rfl) true 3 (by kernel_rfl) (by simp) (valC l[i].v) rfl (fun w h => ld_roL h 0 rfl (i * 10 + 3) (act_fld hlt 3 3 (by decide))) ?_
          refine wpa_qld (i := 26) (n := 4) (by kernel_rfl) (by kernel_rfl) (by kernel_rfl) (t := 28) (a := ⟨g0, o0 + i * 10 + 3, none⟩) (dst := some 80) (by kernel_rfl) true 3 (by kernel_rfl) (by simp) (valC l[i].v) rfl (fun w h => ld_roL h 0 rfl (i * 10 + 3) (act_fld hlt 3 3 (by decide))) ?_
          refine AC (dst := some 74) 3 20 .a (hS1) (GV (GV (GV (GV (GI []) 8 view_gPow) 2 view_gBag) 1 view_row) 0 (view_blk0 (by simp [Go.Sx.One, Value.oneCell']))) [5, 11] ?_
          rintro r _ ⟨rfl, rfl⟩
          refine AC (dst := some 81) 2 27 .a (hS2) (GV (GV (GI []) 4 view_self) 3 view_ro) [5, 11] ?_
          rintro r _ ⟨rfl, rfl⟩
          refine TK 0 [(28, []), (29, [])] (.i 83 (.bool !decide (showT L' l[i].v = showT L' l[i].v)) (.d (.d (.d (.d (.d (.d (.d (.d (.d (.k .a))))))))))) (#[true, true, true, true, true, true, true, true, true, true, true, true, true, true, true, true, true, true, true, true, true, true, true, true, true, true, true, true, true, true]) ?_
          refine wpa_done 0 (by kernel_rfl) ?_
          refine NT ?_
          refine SC 83 (!decide (showT L' l[i].v = showT L' l[i].v)) false (by simp) ?_
          refine CF (SK (NT ?_))
          refine wpc_draw (by kernel_rfl) [.blk g' 59 [.bool true, .int .i64 M, .int .i64 (↑(usedO L') : Int), .slice a1' l1'.length c1'], row 43 2 a1' l1'.length c1' (List.flatMap objC l1'), star (List.map obRow l1'), ro a3 (List.flatMap objC l3), gBag l3, ro (some ⟨g0, o0, none⟩) (List.flatMap actC l), gActs l, gWords, gPow, .blk g1 28 [.int .i64 v.k, .int .i64 v.n, .string (mkS v.s)], .blk g3 51 [.int .i64 M, .slice a3 l3.length c3]] (sub_of [0, 1, 2, 3, 4, 5, 6, 7, 8, 9, 11] (by kernel_rfl)) 4 (by kernel_rfl) ?_
          refine TK 1 [(0, []), (1, [10, 10]), (2, [])] (.i 7 (.pointer (some (Addr.mk g' 0 none))) (.i 85 (.agg #[.int .i64 M, .slice a3 l3.length c3]) (.d (.d (.d (.d (.k .a))))))) (#[true, true, true, false]) ?_
          refine AO 0 3 [10, 10] (.k (.d (.k .a))) (.k (.k (.k (.k (.k (.k (.k (.k (.k (.k (.u (.k (.i (.slice a3 l3.length c3) .z)) .a))))))))))) [0, 1, 2, 3, 4, 5, 6, 7, 8, 9, 11] ?_
          refine wpa_done 0 (by kernel_rfl) ?_
          refine BN (NT (RG ?_))
          refine RV true [] .z (.i 9 (.int .i64 ((↑i : Int) + 1)) (.k (.d (.k .a)))) .a ([inI64 ((↑i : Int) + (1 : Int))]) ⟨by unfold inI64; omega, trivial⟩ ?_
          refine RZ ?_
          exact fun a' w' hS' => ⟨⟨⟨i + 1, g', a1', c1', l1', a3, c3, l3, L'⟩, hlt, hm1', hm3, hu', hok', hwf'⟩, by dsimp only; omega, ent_fr (by kernel_rfl) _ _ (ent_hp [0, 0, 0, 0, 0, 0, 0, 0, 0, 0, 0] rfl _ _ hS')⟩
    · obtain rfl : i = l.length := by omega
      have hA := All_o g M (usedO L) a1 c1 l1 L hm1 (by omega) hcl
      unfold heapR heapS at hA
      have hS1 := Show_o g M a1 c1 l1 L hm1 (by omega) hok v hv hvi
      have hS2 := rShow_spec M a2 c2 l2 (by omega) (by rw [hm2]; exact hok) v hv hvi
      rw [hm2] at hS2
      unfold valV at hS1 hS2
      refine SQ (SQ (RG ?_))
      refine RR [] .z (.i 32 (.bool (decide ((↑l.length : Int) < (↑l.length : Int)))) .a) .a ?_
      refine RZ (NT ?_)
      refine SC 32 (decide ((↑l.length : Int) < (↑l.length : Int))) false (by simp) ?_
      refine CF (EX (TE (TE (BH (NT (SQ ?_))))))
      refine wpc_draw (by kernel_rfl) [.blk g1 28 [.int .i64 v.k, .int .i64 v.n, .string (mkS v.s)], .blk g2 51 [.int .i64 M, .slice a2 l2.length c2]] (sub_of [9, 10] (by kernel_rfl)) 18 (by kernel_rfl) ?_
      refine TK 15 [(0, []), (2, []), (3, [1])] (.i 89 (.slice a2 l2.length c2) (.i 86 (.pointer (some ⟨g, 0, none⟩)) (.d (.d (.d (.k (.k (.k (.k .z))))))))) (#[true, false, true, true, false, false, false, false, false, false, false, false, false, false, false, false, false, false]) ?_
      refine AC (dst := some 87) 14 1 .a (hA) (GV (GV (GV (GI []) 2 view_gBag) 1 view_row) 0 (view_blk0 (by simp [Go.Sx.One, Value.oneCell']))) [9, 10] ?_
      rintro r _ ⟨a3, c3, l3, hm3, rfl, rfl⟩
      have hl3 : l3.length = L.length := by rw [← hm3, List.length_map]
      refine AC (dst := some 90) 13 4 .a (Same_spec a3 c3 l3 a2 c2 l2 (by omega) (by omega) (obs_cl hm3 hcl) (obs_cl hm2 hcl)) (GV (GV (GV (GV (GI []) 6 view_self) 5 view_ro) 1 view_gBag) 0 view_row) [11, 12] ?_
      rintro r _ ⟨rfl, rfl⟩
      rw [hm3, hm2, decide_eq_true rfl]
      refine TK 8 [(5, []), (6, []), (7, [0, 0, 0]), (9, [1, 1]), (10, [0, 0, 0])] (.i 96 (.agg #[.int .i64 v.k, .int .i64 v.n, .string (mkS v.s)]) (.i 95 (.agg #[.int .i64 M, .slice a2 l2.length c2]) (.i 93 (.agg #[.int .i64 v.k, .int .i64 v.n, .string (mkS v.s)]) (.i 92 (.pointer (some ⟨g, 0, none⟩)) (.i 91 (.bool true) (.d (.d (.d (.d (.d (.d (.k .z)))))))))))) (#[true, true, true, true, true, true, true, true, false, true, true, false, false, false, false, false, false, false]) ?_
      refine AC (dst := some 94) 7 8 .a (hS1) (GV (GV (GV (GV (GI []) 10 view_gPow) 4 view_gBag) 3 view_row) 2 (view_blk0 (by simp [Go.Sx.One, Value.oneCell']))) [11, 12] ?_
      rintro r _ ⟨rfl, rfl⟩
      refine AC (dst := some 97) 6 11 .a (hS2) (GV (GV (GI []) 6 view_self) 5 view_ro) [11, 12] ?_
      rintro r _ ⟨rfl, rfl⟩
      refine TK 3 [(12, []), (13, []), (14, [])] (.i 100 (.bool (decide (showT L v = showT L v))) (.d (.d (.d (.d (.d (.d (.d (.k .a))))))))) (#[true, true, true, true, true, true, true, true, true, true, true, true, true, true, true, false, false, false]) ?_
      refine SA 100 (decide (showT L v = showT L v)) true (by simp) ?_
      refine AC (dst := some 101) 2 15 .a (lives_spec) (GV (GV (GI []) 10 view_gPow) 9 view_ro) [11, 12] ?_
      rintro r _ ⟨rfl, rfl⟩
      refine TK 0 [(16, []), (17, [])] (.i 6 (.bool true) .z) (#[true, true, true, true, true, true, true, true, true, true, true, true, true, true, true, true, true, true]) ?_
      refine wpa_done 0 (by kernel_rfl) ?_
      refine NT (RE ?_)
      refine NE [] .z .a [] (.bool true) ?_
      exact ⟨rfl, rfl⟩
end Go.Proofs.YtpfhleghgkeemaaGreatDoor
