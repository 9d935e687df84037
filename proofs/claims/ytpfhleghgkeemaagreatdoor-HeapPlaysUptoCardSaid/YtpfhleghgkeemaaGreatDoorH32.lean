import Derived.Test.YtpfhleghgkeemaaGreatDoorH26
import Derived.Test.YtpfhleghgkeemaaGreatDoorY2
namespace Go.Proofs.YtpfhleghgkeemaaGreatDoor
open Go Go.Sx
set_option linter.unusedVariables false
set_option linter.unusedSimpArgs false

/-! Calls that come in (Act), and a heap behind them. -/
structure At where
  k : Int
  tag : List UInt8
  a : Option Addr
  c : Nat
  cells : List V
  v : V
  x : V
  i : Int
def actC (t : At) : List Value := [.int .i64 t.k, .string (mkS t.tag), .slice t.a t.cells.length t.c, .int .i64 t.v.k, .int .i64 t.v.n, .string (mkS t.v.s), .int .i64 t.x.k, .int .i64 t.x.n, .string (mkS t.x.s), .int .i64 t.i]
theorem actC_len (t : At) : (actC t).length = 10 := rfl
theorem acts_len (l : List At) : (l.flatMap actC).length = l.length * 10 := fm_len actC_len l
theorem acts_at {l : List At} {q : Nat} (hq : q < l.length) : ((l.flatMap actC).drop (q * 10)).take 10 = actC l[q] := fm_at actC_len hq
def actRo (t : At) : Ch := ro t.a (t.cells.flatMap valC)
def gActs (l : List At) : Ch := bag (l.map actRo)
theorem act_fld {l : List At} {q : Nat} (hq : q < l.length) (k m : Nat) (h : k + m ≤ 10) : ((l.flatMap actC).drop (q * 10 + k)).take m = ((actC l[q]).drop k).take m := by
  rw [← acts_at hq, List.drop_take, List.drop_drop, List.take_take, Nat.min_eq_left (by omega)]
theorem actRo_in {l : List At} {q : Nat} (hq : q < l.length) : ro l[q].a (l[q].cells.flatMap valC) ∈ l.map actRo :=
  List.mem_map.2 ⟨l[q], List.getElem_mem hq, rfl⟩
/-- What is known of one that comes in. -/
def At.ok (t : At) : Prop := t.tag.length ≤ 1048576 ∧ t.cells.length ≤ 1048576 ∧ smL t.cells ∧ t.v.sm ∧ t.x.sm ∧ (t.a = none → t.cells = []) ∧ (∀ v ∈ t.cells, v.i64) ∧ t.v.i64 ∧ t.x.i64
def doneR (L : List O) (t : At) : List O := if t.k = 1 then (setR L t.v t.i t.x).1 else if t.k = 0 then (allocR 4096 L t.tag t.cells).1 else L
theorem allocR_used {m : Int} {L : List O} {t : List UInt8} {c : List V} (h : (usedO L : Int) ≤ m) : (usedO (allocR m L t c).1 : Int) ≤ m := by
  unfold allocR; split
  · split
    · rw [usedO_snoc]; show (((usedO L + (c.length + 1) : Nat)) : Int) ≤ m; omega
    · exact h
  · exact h
theorem doneR_used {L : List O} {t : At} (h : usedO L ≤ 4096) : usedO (doneR L t) ≤ 4096 := by
  unfold doneR; split
  · rw [setR_used]; exact h
  · split
    · have := allocR_used (m := 4096) (L := L) (t := t.tag) (c := t.cells) (by omega); omega
    · exact h
theorem len_used (L : List O) : L.length ≤ usedO L := by
  unfold usedO; have := len_le_used (L.map fun o => o.2.length); rwa [List.length_map] at this
theorem own_spec (a : Option Addr) (c : Nat) (l : List V) (ha : a = none → l = []) (hl : l.length ≤ 1048576) :
    Does Tryz.prog 50 [.slice a l.length c] [ro a (l.flatMap valC)] (fun r hp' => ∃ a' c', (a' = none → l = []) ∧ l.length ≤ c' ∧ r = .slice a' l.length c' ∧ hp' = [row 28 3 a' l.length c' (l.flatMap valC)]) := by
  refine fn_enter Tryz.func50 rfl 6 rfl fun w0 h0 => ?_
  refine SQ (RG ?_)
  refine RR [] .z (.i 2 (.slice none 0 0) .a) .a ?_
  refine RZ (NT (SQ (RG ?_)))
  refine RN [] (.d .a) 3 (fun g1 => (.slice (some ⟨g1, 0, none⟩) 0 0)) .a .a 28 [] fun g1 => ?_
  refine RR [] (.d .a) (.i 4 (.slice a l.length c) (.k (.k .z))) (.k (.i (.blk g1 28 []) .z)) ?_
  refine wpr_ent (ent_turn 1 (row 28 3 (some ⟨g1, 0, none⟩) 0 0 []) rfl (turn_blk rfl (by intro u hu; cases hu) (by simp)) rfl) ?_
  refine wpr_app (a := (some ⟨g1, 0, none⟩)) (n := 0) (cap := 0) (x := (.slice a l.length c)) (t := 25) (xt := 25) (dst := some 5) (by kernel_rfl) (e := 28) (sz := 3) (bytes := 32) (by kernel_rfl) 1 (xs := []) (by kernel_rfl) (m := (l.length)) (news := (l.flatMap valC)) (fun w h => src_ro h 0 rfl (vals_len l) (fun e => by rw [ha e]; rfl)) (by unfold maxLen; omega) (by omega) ?_
  intro a1 c1 hn
  simp only [List.nil_append, Nat.zero_add]
  refine RR [] .z (.i 2 (.slice a1 l.length c1) .z) .a ?_
  refine RZ (NT (RE ?_))
  refine nx_fact (fun w h => row_cap h 1 rfl) fun hcap => ?_
  refine NE [1] (.d (.k .a)) (.k .z) [] (.slice a1 l.length c1) ?_
  exact ⟨a1, c1, (fun e => nomatch (hn.1 e).1), hcap.2.1, rfl, rfl⟩
theorem fold_used (l : List At) : ∀ L : List O, usedO L ≤ 4096 → usedO (l.foldl doneR L) ≤ 4096 := by
  induction l with
  | nil => intro L h; exact h
  | cons t r ih => intro L h; exact ih _ (doneR_used h)
theorem fold_take {l : List At} {i : Nat} (hi : i < l.length) : (l.take (i + 1)).foldl doneR [] = doneR ((l.take i).foldl doneR []) l[i] := by
  rw [← List.take_append_getElem hi, List.foldl_append]; rfl
theorem doneR_1 {L : List O} {t : At} (h : t.k = 1) : doneR L t = (setR L t.v t.i t.x).1 := if_pos h
theorem doneR_0 {L : List O} {t : At} (h : t.k = 0) : doneR L t = (allocR 4096 L t.tag t.cells).1 := by unfold doneR; rw [if_neg (by omega), if_pos h]
theorem doneR_2 {L : List O} {t : At} (h : t.k ≠ 1) (h0 : t.k ≠ 0) : doneR L t = L := by unfold doneR; rw [if_neg h, if_neg h0]
theorem done_spec (a : Option Addr) (c : Nat) (l : List At) (hl : l.length ≤ 1048576) (hs : ∀ t ∈ l, t.ok) :
    Does Tryz.prog 21 [.int .i64 4096, .slice a l.length c] [ro a (l.flatMap actC), gActs l, gWords]
      (fun r hp' => ∃ g a' c' l', l'.map Ob.o = l.foldl doneR [] ∧ r = .pointer (some ⟨g, 0, none⟩) ∧ hp' = [heapB g 4096 (usedO (l.foldl doneR [])) a' l'.length c', heapR a' c' l', heapS l']) := by
  unfold heapB heapR heapS
  refine fn_enter Tryz.func21 rfl 62 rfl fun w0 h0 => ?_
  refine SQ (RG ?_)
  refine RR [] .z (.i 4 (.pointer none) .a) .a ?_
  refine RZ (NT (SQ (RG ?_)))
  refine RR [] (.d .a) (.i 7 (.int .i64 4096) (.k (.d (.k .a)))) .a ?_
  refine RC (dst := some 8) [] .a (New_spec 4096) ?_
  rintro v _ ⟨g, rfl, rfl⟩
  rw [show mostI 4096 = 4096 from rfl]
  refine RR [] .z (.i 5 (.pointer (some ⟨g, 0, none⟩)) (.d (.d (.k .a)))) (.i (.blk g 59 [.bool true, .int .i64 4096, .int .i64 0, .slice none 0 0]) (.d (.k .a))) ?_
  refine RZ (NT (SQ (SQ (RG ?_))))
  refine RR [] .z (.i 6 (.int .i64 0) .a) (.i (.blk g 59 [.bool true, .int .i64 4096, .int .i64 0, .slice none 0 0]) (.d (.k .a))) ?_
  refine RZ (NT (BK ?_))
  refine wpc_loop (X := {y : Nat × Option Addr × Nat × List Ob × List O // y.1 ≤ l.length ∧ y.2.2.2.1.map Ob.o = y.2.2.2.2 ∧ y.2.2.2.2 = (l.take y.1).foldl doneR []}) (fun y => St.mk [(6, .int .i64 (y.1.1 : Int)), (5, .pointer (some ⟨g, 0, none⟩)), (1, .slice a l.length c)]
    [.blk g 59 [.bool true, .int .i64 4096, .int .i64 (usedO y.1.2.2.2.2 : Nat), .slice y.1.2.1 y.1.2.2.2.1.length y.1.2.2.1], row 43 2 y.1.2.1 y.1.2.2.2.1.length y.1.2.2.1 (y.1.2.2.2.1.flatMap objC), star (y.1.2.2.2.1.map obRow), ro a (l.flatMap actC), gActs l, gWords]) (fun y => l.length - y.1.1) ⟨(0, none, 0, [], []), Nat.zero_le _, rfl, rfl⟩ ?_ ?_
  · show Ent _ _ (St.mk _ [.blk g 59 [.bool true, .int .i64 4096, .int .i64 0, .slice none 0 0], row 43 2 none 0 0 [], star [], ro a (l.flatMap actC), gActs l, gWords])
    exact Ent.trans ent_star_nil (Ent.trans (ent_nil 43 2) (Ent.trans (ent_hp [2, 0, 0, 0, 0, 0] rfl) (ent_fr (by kernel_rfl))))
  rintro ⟨⟨i, a1, c1, l1, L⟩, hi, hm, hL⟩
  dsimp only at hi hm hL ⊢
  have hu : usedO L ≤ 4096 := by rw [hL]; exact fold_used _ _ (by decide)
  have hll := len_used L
  by_cases hlt : i < l.length
  · obtain ⟨ht1, ht2, ht3, ht4, ht5, ht6, ht7, ht8, ht9⟩ := hs _ (List.getElem_mem hlt)
    have hnx : (l.take (i + 1)).foldl doneR [] = doneR L l[i] := by rw [fold_take hlt, ← hL]
    refine wpc_fact (fun w h => ro_addr h 3 rfl (by rw [acts_len]; omega)) ?_
    rintro ⟨g0, o0, rfl⟩
    refine SQ (SQ (RG ?_))
    refine RR [] (.d (.d (.d (.d (.d .a))))) (.i 13 (.bool (decide ((↑i : Int) < (↑l.length : Int)))) .a) (.i (.blk g 59 [.bool true, .int .i64 4096, .int .i64 (↑(usedO L) : Int), .slice a1 l1.length c1]) (.d (.k .a))) ?_
    refine SR 13 (decide ((↑i : Int) < (↑l.length : Int))) true (decide_eq_true (by omega)) ?_
    refine RR [] .z (.i 16 (.bool true) (.d (.d (.k .a)))) (.i (.blk g 59 [.bool true, .int .i64 4096, .int .i64 (↑(usedO L) : Int), .slice a1 l1.length c1]) (.d (.k .a))) ?_
    refine RZ (NT (CT (SK (NT (SQ (BK (SQ (RG ?_))))))))
    refine RV true [] (.d (.d (.d (.d .a)))) (.i 22 (.pointer (some ⟨g0, o0 + i * 10, none⟩)) (.d (.k .a))) (.i (.blk g 59 [.bool true, .int .i64 4096, .int .i64 (↑(usedO L) : Int), .slice a1 l1.length c1]) (.d (.k .a))) [(0 : Int) ≤ (↑i : Int) ∧ (↑i : Int) < (↑l.length : Int)] ⟨by first | omega | decide | (simp; done), trivial⟩ ?_
    refine wpr_eq (ld (t := 3) (a := ⟨g0, o0 + i * 10, none⟩) (dst := some 23) (by kernel_rfl) false 1 (by kernel_rfl) (by simp) [.int .i64 l[i].k] rfl (fun w h => ld_ro h 3 rfl (i * 10 + 0) (act_fld hlt 0 1 (by decide)))) ?_
    by_cases hk1 : l[i].k = 1
    · refine RR [] .z (.i 24 (.bool (l[i].k == 1)) (.d (.d (.k .a)))) (.i (.blk g 59 [.bool true, .int .i64 4096, .int .i64 (↑(usedO L) : Int), .slice a1 l1.length c1]) (.d (.k .a))) ?_
      refine RZ (NT ?_)
      refine SC 24 (l[i].k == 1) true (by simp only [bne_iff_ne, beq_iff_eq, ne_eq]; omega) ?_
      refine CT ?_
      refine wpc_draw (by kernel_rfl) [ro (some ⟨g0, o0, none⟩) (List.flatMap actC l)] (sub_of [3] (by kernel_rfl)) 17 (by kernel_rfl) ?_
      refine wpa_take true [(0, []), (1, []), (2, []), (3, []), (4, []), (6, []), (7, []), (8, []), (9, []), (11, []), (12, []), (13, []), (14, [])] ([(39, .pointer (some ⟨g0, o0 + i * 10 + 6, none⟩)), (34, .pointer (some ⟨g0, o0 + i * 10 + 9, none⟩)), (29, .pointer (some ⟨g0, o0 + i * 10 + 3, none⟩)), (25, .pointer (some ⟨g, 0, none⟩)), (6, .int .i64 (↑i : Int)), (5, .pointer (some ⟨g, 0, none⟩)), (1, .slice (some ⟨g0, o0, none⟩) l.length c)]) (#[true, true, true, true, true, false, true, true, true, true, false, true, true, true, true, false, false]) [(0 : Int) ≤ (↑i : Int) ∧ (↑i : Int) < (↑l.length : Int), (0 : Int) ≤ (↑i : Int) ∧ (↑i : Int) < (↑l.length : Int), (0 : Int) ≤ (↑i : Int) ∧ (↑i : Int) < (↑l.length : Int)] (n := 4) (by kernel_rfl) (by kernel_rfl) (by kernel_rfl) ⟨by first | omega | decide | (simp; done), by first | omega | decide | (simp; done), by first | omega | decide | (simp; done), trivial⟩ ?_
      refine wpa_qld (i := 5) (n := 3) (by kernel_rfl) (by kernel_rfl) (by kernel_rfl) (t := 28) (a := ⟨g0, o0 + i * 10 + 3, none⟩) (dst := some 30) (by kernel_rfl) true 3 (by kernel_rfl) (by simp) [.int .i64 l[i].v.k, .int .i64 l[i].v.n, .string (mkS l[i].v.s)] rfl (fun w h => ld_roL h 0 rfl (i * 10 + 3) (act_fld hlt 3 3 (by decide))) ?_
      refine wpa_qld (i := 10) (n := 2) (by kernel_rfl) (by kernel_rfl) (by kernel_rfl) (t := 3) (a := ⟨g0, o0 + i * 10 + 9, none⟩) (dst := some 35) (by kernel_rfl) false 1 (by kernel_rfl) (by simp) [.int .i64 l[i].i] rfl (fun w h => ld_roL h 0 rfl (i * 10 + 9) (act_fld hlt 9 1 (by decide))) ?_
      refine wpa_qld (i := 15) (n := 1) (by kernel_rfl) (by kernel_rfl) (by kernel_rfl) (t := 28) (a := ⟨g0, o0 + i * 10 + 6, none⟩) (dst := some 40) (by kernel_rfl) true 3 (by kernel_rfl) (by simp) [.int .i64 l[i].x.k, .int .i64 l[i].x.n, .string (mkS l[i].x.s)] rfl (fun w h => ld_roL h 0 rfl (i * 10 + 6) (act_fld hlt 6 3 (by decide))) ?_
      have hset := Set_o g 4096 a1 c1 l1 L hm l[i].v l[i].i l[i].x (by omega) ht4 ht5
      unfold heapB heapR heapS valV at hset
      refine AC (dst := some 41) 0 16 (.d (.d (.d (.k .a)))) (hset) (GI [0, 0, 0]) [0] ?_
      rintro v _ ⟨rfl, a2, c2, l2, hm2, rfl⟩
      have hd := doneR_1 (L := L) hk1
      rw [← hd] at hm2 ⊢
      refine wpa_done 0 (by kernel_rfl) ?_
      refine BN (NT (RG ?_))
      refine RV true [] .z (.i 6 (.int .i64 ((↑i : Int) + 1)) (.d (.d (.d (.d (.d (.d (.d (.d (.d (.k .a))))))))))) (.i (.blk g 59 [.bool true, .int .i64 4096, .int .i64 (↑(usedO (doneR L l[i])) : Int), .slice a2 l2.length c2]) (.d (.k .a))) ([inI64 ((↑i : Int) + (1 : Int))]) ⟨by unfold inI64; omega, trivial⟩ ?_
      refine RZ ?_
      exact fun a' w' hS' => ⟨⟨(i + 1, a2, c2, l2, doneR L l[i]), hlt, hm2, hnx.symm⟩, by dsimp only; omega, ent_fr (by kernel_rfl) _ _ (ent_hp [0, 0, 0, 0, 0, 0] rfl _ _ hS')⟩
    · refine RR [] .z (.i 24 (.bool (l[i].k == 1)) (.d (.d (.k .a)))) (.i (.blk g 59 [.bool true, .int .i64 4096, .int .i64 (↑(usedO L) : Int), .slice a1 l1.length c1]) (.d (.k .a))) ?_
      refine RZ (NT ?_)
      refine SC 24 (l[i].k == 1) false (by simp only [bne_eq_false_iff_eq, beq_eq_false_iff_ne, ne_eq]; omega) ?_
      refine CF (SQ (RG ?_))
      refine RV true [] (.d (.d (.d (.d .a)))) (.i 45 (.pointer (some ⟨g0, o0 + i * 10, none⟩)) (.d (.d (.k .a)))) (.i (.blk g 59 [.bool true, .int .i64 4096, .int .i64 (↑(usedO L) : Int), .slice a1 l1.length c1]) (.d (.k .a))) [(0 : Int) ≤ (↑i : Int) ∧ (↑i : Int) < (↑l.length : Int)] ⟨by first | omega | decide | (simp; done), trivial⟩ ?_
      refine wpr_eq (ld (t := 3) (a := ⟨g0, o0 + i * 10, none⟩) (dst := some 46) (by kernel_rfl) false 1 (by kernel_rfl) (by simp) [.int .i64 l[i].k] rfl (fun w h => ld_ro h 3 rfl (i * 10 + 0) (act_fld hlt 0 1 (by decide)))) ?_
      by_cases hk0 : l[i].k = 0
      · refine RR [] .z (.i 47 (.bool (l[i].k == 0)) (.d (.d (.k .a)))) (.i (.blk g 59 [.bool true, .int .i64 4096, .int .i64 (↑(usedO L) : Int), .slice a1 l1.length c1]) (.d (.k .a))) ?_
        refine RZ (NT ?_)
        refine SC 47 (l[i].k == 0) true (by simp only [bne_iff_ne, beq_iff_eq, ne_eq]; omega) ?_
        refine CT ?_
        refine wpc_draw (by kernel_rfl) [ro (some ⟨g0, o0, none⟩) (List.flatMap actC l)] (sub_of [3] (by kernel_rfl)) 13 (by kernel_rfl) ?_
        refine wpa_take true [(0, []), (1, []), (2, []), (3, []), (4, []), (6, []), (7, []), (8, []), (9, [])] ([(57, .pointer (some ⟨g0, o0 + i * 10 + 2, none⟩)), (52, .pointer (some ⟨g0, o0 + i * 10 + 1, none⟩)), (48, .pointer (some ⟨g, 0, none⟩)), (6, .int .i64 (↑i : Int)), (5, .pointer (some ⟨g, 0, none⟩)), (1, .slice (some ⟨g0, o0, none⟩) l.length c)]) (#[true, true, true, true, true, false, true, true, true, true, false, false, false]) [(0 : Int) ≤ (↑i : Int) ∧ (↑i : Int) < (↑l.length : Int), (0 : Int) ≤ (↑i : Int) ∧ (↑i : Int) < (↑l.length : Int)] (n := 4) (by kernel_rfl) (by kernel_rfl) (by kernel_rfl) ⟨by first | omega | decide | (simp; done), by first | omega | decide | (simp; done), trivial⟩ ?_
        refine wpa_qld (i := 5) (n := 3) (by kernel_rfl) (by kernel_rfl) (by kernel_rfl) (t := 9) (a := ⟨g0, o0 + i * 10 + 1, none⟩) (dst := some 53) (by kernel_rfl) false 1 (by kernel_rfl) (by simp) [.string (mkS l[i].tag)] rfl (fun w h => ld_roL h 0 rfl (i * 10 + 1) (act_fld hlt 1 1 (by decide))) ?_
        refine wpa_qld (i := 10) (n := 2) (by kernel_rfl) (by kernel_rfl) (by kernel_rfl) (t := 25) (a := ⟨g0, o0 + i * 10 + 2, none⟩) (dst := some 58) (by kernel_rfl) false 1 (by kernel_rfl) (by simp) [.slice l[i].a l[i].cells.length l[i].c] rfl (fun w h => ld_roL h 0 rfl (i * 10 + 2) (act_fld hlt 2 1 (by decide))) ?_
        refine wpa_ent (ent_copy 4 (ro l[i].a (l[i].cells.flatMap valC)) rfl (fun h => h) (view_in (actRo_in hlt) view_ro)) ?_
        refine AC (dst := some 59) 1 11 (.k (.i (.blk g 59 [.bool true, .int .i64 4096, .int .i64 (↑(usedO L) : Int), .slice a1 l1.length c1]) (.d (.k .a)))) (own_spec l[i].a l[i].c l[i].cells ht6 ht2) (GV (GI []) 0 view_ro) [4] ?_
        rintro v _ ⟨a2, c2, hn2, hc2, rfl, rfl⟩
        refine wpa_ent (ent_turn 0 (ro a2 (l[i].cells.flatMap valC)) rfl (turn_view view_row) rfl) ?_
        have hal := Alloc_o g 4096 a1 c1 l1 L hm l[i].tag l[i].cells a2 c2 (by decide) (by omega) hn2 hc2 ht2 ht1 ht3
        unfold heapB heapR heapS valV at hal
        refine AC (dst := some 60) 0 12 (.k (.k (.d (.d (.d (.k .a)))))) (hal) (GO (GV (GV (GJ [2, 2, 2]) 4 view_ro) 0 view_ro) [2, 2, 2, 0, 0]) [2] ?_
        rintro v _ ⟨a3, c3, l3, hm3, rfl, rfl⟩
        have hd := doneR_0 (L := L) hk0
        rw [← hd] at hm3 ⊢
        refine wpa_done 0 (by kernel_rfl) ?_
        refine BN (NT (RG ?_))
        refine RV true [] .z (.i 6 (.int .i64 ((↑i : Int) + 1)) (.d (.d (.d (.d (.d (.d (.d (.d (.k .a)))))))))) (.i (.blk g 59 [.bool true, .int .i64 4096, .int .i64 (↑(usedO (doneR L l[i])) : Int), .slice a3 l3.length c3]) (.d (.k .a))) ([inI64 ((↑i : Int) + (1 : Int))]) ⟨by unfold inI64; omega, trivial⟩ ?_
        refine RZ ?_
        exact fun a' w' hS' => ⟨⟨(i + 1, a3, c3, l3, doneR L l[i]), hlt, hm3, hnx.symm⟩, by dsimp only; omega, ent_fr (by kernel_rfl) _ _ (ent_hp [0, 0, 0, 2, 2, 2] rfl _ _ hS')⟩
      · refine RR [] .z (.i 47 (.bool (l[i].k == 0)) (.d (.d (.k .a)))) (.i (.blk g 59 [.bool true, .int .i64 4096, .int .i64 (↑(usedO L) : Int), .slice a1 l1.length c1]) (.d (.k .a))) ?_
        refine RZ (NT ?_)
        refine SC 47 (l[i].k == 0) false (by simp only [bne_eq_false_iff_eq, beq_eq_false_iff_ne, ne_eq]; omega) ?_
        refine CF (SK (BN (NT (RG ?_))))
        refine RV true [] .z (.i 6 (.int .i64 ((↑i : Int) + 1)) (.d (.d (.d (.k .a))))) (.i (.blk g 59 [.bool true, .int .i64 4096, .int .i64 (↑(usedO L) : Int), .slice a1 l1.length c1]) (.d (.k .a))) ([inI64 ((↑i : Int) + (1 : Int))]) ⟨by unfold inI64; omega, trivial⟩ ?_
        refine RZ ?_
        have hd := doneR_2 (L := L) hk1 hk0
        exact fun a' w' hS' => ⟨⟨(i + 1, a1, c1, l1, L), hlt, hm, by rw [hnx, hd]⟩, by dsimp only; omega, ent_fr (by kernel_rfl) _ _ (ent_hp [0, 0, 0, 0, 0, 0] rfl _ _ hS')⟩
  · obtain rfl : i = l.length := by omega
    rw [List.take_length] at hL
    subst hL
    refine SQ (SQ (RG ?_))
    refine RR [] (.d (.d (.d (.d (.d .a))))) (.i 13 (.bool (decide ((↑l.length : Int) < (↑l.length : Int)))) .a) (.i (.blk g 59 [.bool true, .int .i64 4096, .int .i64 (↑(usedO (List.foldl doneR [] l)) : Int), .slice a1 l1.length c1]) (.d (.k .a))) ?_
    refine SR 13 (decide ((↑l.length : Int) < (↑l.length : Int))) false (by simp) ?_
    refine RR [] .z (.i 16 (.bool false) (.d (.d (.k .a)))) (.i (.blk g 59 [.bool true, .int .i64 4096, .int .i64 (↑(usedO (List.foldl doneR [] l)) : Int), .slice a1 l1.length c1]) (.d (.k .a))) ?_
    refine RZ (NT (CF (EX (TE (TE (BH (NT (SQ (RG ?_)))))))))
    refine RR [] .z (.i 4 (.pointer (some ⟨g, 0, none⟩)) .z) (.i (.blk g 59 [.bool true, .int .i64 4096, .int .i64 (↑(usedO (List.foldl doneR [] l)) : Int), .slice a1 l1.length c1]) (.d (.k .a))) ?_
    refine RZ (NT (RE ?_))
    refine NE [0, 0, 0] (.i (.blk g 59 [.bool true, .int .i64 4096, .int .i64 (↑(usedO (List.foldl doneR [] l)) : Int), .slice a1 l1.length c1]) (.d (.k (.k .z)))) (.d (.d (.d (.k .a)))) [] (.pointer (some ⟨g, 0, none⟩)) ?_
    exact ⟨g, a1, c1, l1, hm, rfl, rfl⟩
end Go.Proofs.YtpfhleghgkeemaaGreatDoor
