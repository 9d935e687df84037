import Derived.Test.YtpfhleghgkeemaaGreatDoorH37
import Derived.Test.YtpfhleghgkeemaaGreatDoorY2
namespace Go.Proofs.YtpfhleghgkeemaaGreatDoor
open Go Go.Sx
set_option linter.unusedVariables false
set_option linter.unusedSimpArgs false

/-! Whatever is made by calls may be loaded again. -/
def wfL (L : List O) : Prop := ∀ o ∈ L, objB L.length o.1 o.2 = true
theorem cellB_mono {v : V} {m m' : Int} (h : m ≤ m') (hc : cellB m v = true) : cellB m' v = true := by
  unfold cellB at hc ⊢
  simp only [Bool.and_eq_true] at hc ⊢
  exact ⟨hc.1, rightB_mono h hc.2⟩
theorem objB_mono {t : List UInt8} {c : List V} {m m' : Int} (h : m ≤ m') (hc : objB m t c = true) : objB m' t c = true := by
  unfold objB at hc ⊢
  simp only [Bool.and_eq_true] at hc ⊢
  exact ⟨hc.1, List.all_eq_true.2 fun v hv => cellB_mono h (List.all_eq_true.1 hc.2 v hv)⟩
theorem wf_alloc {most : Int} {L : List O} {tag : List UInt8} {cells : List V} (hL : wfL L) : wfL (allocR most L tag cells).1 := by
  unfold allocR
  split
  · rename_i h1
    split
    · intro o ho
      have hlen : (L ++ [(tag, cells)]).length = L.length + 1 := by simp
      rw [hlen]
      rcases List.mem_append.1 ho with ho | ho
      · exact objB_mono (by omega) (hL o ho)
      · rw [List.mem_singleton.1 ho]; exact objB_mono (by omega) h1
    · exact hL
  · exact hL
theorem wf_set {L : List O} {v x : V} {i : Int} (hL : wfL L) : wfL (setR L v i x).1 := by
  by_cases h0 : (setR L v i x).2 = 0
  · obtain ⟨h1, h2, h3, h4⟩ := setR_ok h0
    obtain ⟨_, _, h5, h6⟩ := refB_lt h1
    have hq : v.n.toNat < L.length := by omega
    have hob : objAt L v ∈ L := by
      have : objAt L v = L[v.n.toNat] := by
        show L.getD v.n.toNat ([], []) = _
        rw [List.getD_eq_getElem?_getD, List.getElem?_eq_getElem hq]; rfl
      rw [this]; exact List.getElem_mem hq
    rw [h4]
    intro o ho
    rw [List.length_set]
    rcases List.mem_or_eq_of_mem_set ho with ho | ho
    · exact hL o ho
    · subst ho
      have k := hL _ hob
      unfold objB at k ⊢
      simp only [Bool.and_eq_true] at k ⊢
      refine ⟨k.1, List.all_eq_true.2 fun u hu => ?_⟩
      rcases List.mem_or_eq_of_mem_set hu with hu | hu
      · exact List.all_eq_true.1 k.2 u hu
      · subst hu; exact h2
  · rw [setR_ne h0]; exact hL
theorem wf_done {L : List O} {t : At} (hL : wfL L) : wfL (doneR L t) := by
  unfold doneR; split
  · exact wf_set hL
  · split
    · exact wf_alloc hL
    · exact hL
theorem wf_fold (l : List At) : ∀ L : List O, wfL L → wfL (l.foldl doneR L) := by
  induction l with
  | nil => intro L h; exact h
  | cons t r ih => intro L h; exact ih _ (wf_done h)
theorem okObs_of {l : List Ob} {L : List O} (hm : l.map Ob.o = L) (h : wfL L) : okObs l.length l = true := List.all_eq_true.2 fun o ho => by
  have hlen : L.length = l.length := by rw [← hm, List.length_map]
  have := h o.o (by rw [← hm]; exact List.mem_map.2 ⟨o, ho, rfl⟩)
  rw [hlen] at this; exact this
/-- Load, of a heap's own objects. -/
theorem Load_own (m : Int) (hm0 : 0 ≤ m) (hm1 : m ≤ 4096) (a : Option Addr) (c : Nat) (l : List Ob) (L : List O) (hm : l.map Ob.o = L) (hu : (usedO L : Int) ≤ m) (hw : wfL L) (hs : smO l) :
    Does Tryz.prog 28 [.int .i64 m, .slice a l.length c] [ro a (l.flatMap objC), gBag l, gWords]
      (fun r hp' => ∃ g a' c' l', l'.map Ob.o = L ∧ r = .tuple #[.pointer (some ⟨g, 0, none⟩), .int .i64 0] ∧ hp' = [heapB g m (usedO L) a' l'.length c', heapR a' c' l', heapS l']) := by
  have hll := len_used L
  have hlen : l.length = L.length := by rw [← hm, List.length_map]
  have hmo : mostI m = m := by unfold mostI; split <;> split <;> omega
  refine (Load_spec m a c l (by omega) hs).mono fun r hp' h => ?_
  rw [okObs_of hm hw] at h
  simp only [Bool.true_eq_false, if_false] at h
  rw [hmo, usedO_eq, hm, if_pos hu] at h
  obtain ⟨g, a', c', l', h1, h2, h3⟩ := h
  unfold Hp3 at h3
  rw [usedO_eq, h1] at h3
  exact ⟨g, a', c', l', h1, h2, h3⟩
/-- What is known of rows of their own, out of what they hold. -/
theorem sm_of {l : List Ob} {L : List O} (hm : l.map Ob.o = L) (hok : okHeap L) (hc : ∀ o ∈ l, o.cells.length ≤ o.c) : smO l := fun o ho => by
  obtain ⟨h1, h2, h3⟩ := hok o.o (by rw [← hm]; exact List.mem_map.2 ⟨o, ho, rfl⟩)
  exact ⟨h1, hc o ho, h2, fun v hv => (h3 v hv).1⟩
theorem star_caps {hp : Hp} {w : World} (h : HS hp w) (i : Nat) {l : List Ob} (hi : hp[i]? = some (star (l.map obRow))) : ∀ o ∈ l, o.cells.length ≤ o.c := fun o ho => by
  have h1 := star_in h i hi (c := obRow o) (List.mem_map.2 ⟨o, ho, rfl⟩)
  exact h1.2.1
theorem Copy_o (g : Nat) (most : Int) (a : Option Addr) (c : Nat) (l : List Ob) (L : List O) (hm : l.map Ob.o = L) (hl : L.length ≤ 4096) (hcl : ∀ o ∈ L, o.2.length ≤ 1048576) :
    Does Tryz.prog 33 [.pointer (some ⟨g, 0, none⟩)] [ro (some ⟨g, 0, none⟩) [.bool true, .int .i64 most, .int .i64 (usedO L : Nat), .slice a l.length c], ro a (l.flatMap objC), gBag l]
      (fun r hp' => ∃ g' a' c' l', l'.map Ob.o = L ∧ r = .pointer (some ⟨g', 0, none⟩) ∧ hp' = [heapB g' most (usedO L) a' l'.length c', heapR a' c' l', heapS l']) := by
  subst hm
  rw [List.length_map] at hl
  exact (Copy_spec g most _ a c l hl (fun o ho => hcl o.o (List.mem_map.2 ⟨o, ho, rfl⟩))).mono fun r hp' h => h
theorem objC_eq {l l' : List Ob} (h : l.map objC = l'.map objC) {i : Nat} (hi : i < l.length) (hi' : i < l'.length) : l[i].a = l'[i].a ∧ l[i].cells.length = l'[i].cells.length ∧ l[i].c = l'[i].c := by
  have h1 : (l.map objC)[i]? = (l'.map objC)[i]? := by rw [h]
  rw [List.getElem?_map, List.getElem?_map, List.getElem?_eq_getElem hi, List.getElem?_eq_getElem hi'] at h1
  have h2 := Option.some.inj h1
  unfold objC at h2
  simp only [List.cons.injEq, Value.slice.injEq, and_true] at h2
  exact ⟨h2.2.1, h2.2.2.1, h2.2.2.2⟩
theorem objC_set {l : List Ob} {i : Nat} (hi : i < l.length) {o : Ob} (h : objC o = objC l[i]) : (l.set i o).map objC = l.map objC := by
  rw [List.map_set]
  refine List.ext_getElem (by simp) fun k h1 h2 => ?_
  rw [List.getElem_set]
  split
  · rename_i hk; subst hk; rw [List.getElem_map, h]
  · rfl
set_option maxHeartbeats 4000000 in
theorem HeapBack_spec (a : Option Addr) (c : Nat) (l : List At) (v : V) (hl : l.length ≤ 1048576) (hs : ∀ t ∈ l, t.ok) (hv : v.sm) (hvi : v.i64) :
    Does Tryz.prog 7 [.slice a l.length c, valV v] [ro a (l.flatMap actC), gActs l, gWords, gPow] (fun v hp' => v = .bool true ∧ hp' = []) := by
  unfold valV
  by_cases h60 : 60 < l.length
  · refine fn_enter Tryz.func7 rfl 120 rfl fun w0 h0 => ?_
    refine SQ (RG ?_)
    refine RP [] (.d .a) 3 (.k .z) .a 28 [.int .i64 v.k, .int .i64 v.n, .string (mkS v.s)] fun g1 => ?_
    refine RR [] .z (.i 4 (.bool false) .a) .a ?_
    refine RZ (NT (SQ (SQ (RG ?_))))
    refine RR [] .z (.i 16 (.bool (decide ((↑l.length : Int) > (60 : Int)))) .a) .a ?_
    refine RZ (NT ?_)
    refine SC 16 (decide ((↑l.length : Int) > (60 : Int))) true (decide_eq_true (by omega)) ?_
    refine CT (SQ (RG ?_))
    refine RCG (dst := some 17) .a (lives_spec) (GV (GV (GI []) 3 view_gPow) 2 view_ro) ?_
    rintro v _ ⟨rfl, rfl⟩
    refine RR [] .z (.i 4 (.bool true) (.d (.d (.d (.d (.k .a)))))) .a ?_
    refine RZ (NT (RE (TR ?_)))
    refine NE [] .z .a [] (.bool true) ?_
    exact ⟨rfl, rfl⟩
  · obtain ⟨L, hL⟩ : ∃ L, L = l.foldl doneR [] := ⟨_, rfl⟩
    have hd := done_spec a c l hl hs
    rw [← hL] at hd
    have hu : usedO L ≤ 4096 := by rw [hL]; exact fold_used _ _ (by decide)
    have hok : okHeap L := by rw [hL]; exact ok_fold _ _ okHeap_nil hs
    have hwf : wfL L := by rw [hL]; exact wf_fold _ _ (fun o ho => by cases ho)
    have hll := len_used L
    have hcl : ∀ o ∈ L, o.2.length ≤ 1048576 := fun o ho => by have := used_cells ho; omega
    unfold heapB heapR heapS at hd
    refine fn_enter Tryz.func7 rfl 120 rfl fun w0 h0 => ?_
    refine SQ (RG ?_)
    refine RP [] (.d .a) 3 (.k .z) .a 28 [.int .i64 v.k, .int .i64 v.n, .string (mkS v.s)] fun g1 => ?_
    refine RR [] .z (.i 4 (.bool false) .a) .a ?_
    refine RZ (NT (SQ (SQ (RG ?_))))
    refine RR [] .z (.i 16 (.bool (decide ((↑l.length : Int) > (60 : Int)))) .a) .a ?_
    refine RZ (NT ?_)
    refine SC 16 (decide ((↑l.length : Int) > (60 : Int))) false (decide_eq_false (by omega)) ?_
    refine CF (SK (NT (SQ (RG ?_))))
    refine RR [] (.d .a) (.i 18 (.slice a l.length c) (.d (.d (.k .a)))) .a ?_
    refine RCG (dst := some 19) .a (hd) (GV (GV (GV (GI []) 2 view_ro) 1 view_self) 0 view_ro) ?_
    rintro r _ ⟨g, a1, c1, l1, hm1, rfl, rfl⟩
    refine RR [] .z (.i 5 (.pointer (some ⟨g, 0, none⟩)) (.d (.d (.k .a)))) .a ?_
    refine RZ (NT (SQ (SQ (RG ?_))))
    refine RR [] .z (.i 21 (.bool false) .a) .a ?_
    refine RZ (NT (CF (SK (NT (SQ (RG ?_))))))
    refine RR [] (.d .a) (.i 22 (.pointer (some ⟨g, 0, none⟩)) (.d (.k .a))) .a ?_
    have hA := All_o g 4096 (usedO L) a1 c1 l1 L hm1 (by omega) hcl
    unfold heapR heapS at hA
    refine RCG (dst := some 23) .a (hA) (GV (GV (GV (GI []) 2 view_gBag) 1 view_row) 0 (view_blk0 (by simp [Go.Sx.One, Value.oneCell']))) ?_
    rintro r _ ⟨a2, c2, l2, hm2, rfl, rfl⟩
    refine wpr_fact (fun w h => star_caps h 1 rfl) fun hcp2 => ?_
    have hl2 : l2.length = L.length := by rw [← hm2, List.length_map]
    have hLd := Load_own 4096 (by decide) (by decide) a2 c2 l2 L hm2 (by omega) hwf (sm_of hm2 hok hcp2)
    unfold heapB heapR heapS at hLd
    refine RR [] .z (.i 6 (.slice a2 l2.length c2) (.d (.d (.k .a)))) .a ?_
    refine RZ (NT (SQ (RG ?_)))
    refine RR [] (.d .a) (.i 25 (.slice a2 l2.length c2) .a) .a ?_
    refine RCG (dst := some 26) .a (hLd) (GV (GV (GV (GI []) 7 view_ro) 1 view_gBag) 0 view_row) ?_
    rintro r _ ⟨gx, ax, cx, lx, hmx, rfl, rfl⟩
    refine RR [] .z (.i 8 (.int .i64 0) (.i 7 (.pointer (some ⟨gx, 0, none⟩)) (.d (.d (.k .a))))) .a ?_
    refine RZ (NT (SQ (RG ?_)))
    refine RR [] (.d .a) (.i 29 (.pointer (some ⟨g, 0, none⟩)) .a) .a ?_
    have hCp := Copy_o g 4096 a1 c1 l1 L hm1 (by omega) hcl
    unfold heapB heapR heapS at hCp
    refine RCG (dst := some 30) .a (hCp) (GV (GV (GV (GI []) 7 view_gBag) 6 view_row) 5 (view_blk0 (by simp [Go.Sx.One, Value.oneCell']))) ?_
    rintro r _ ⟨gy, ay, cy, ly, hmy, rfl, rfl⟩
    refine RR [] .z (.i 9 (.pointer (some ⟨gy, 0, none⟩)) (.d (.d (.k .a)))) .a ?_
    refine RZ (NT (SQ (SQ ?_)))
    have hAx := All_o gx 4096 (usedO L) ax cx lx L hmx (by omega) hcl
    have hAy := All_o gy 4096 (usedO L) ay cy ly L hmy (by omega) hcl
    unfold heapR heapS at hAx hAy
    have hSx := Show_o gx 4096 ax cx lx L hmx (by omega) hok v hv hvi
    have hSy := Show_o gy 4096 ay cy ly L hmy (by omega) hok v hv hvi
    have hSh := Show_o g 4096 a1 c1 l1 L hm1 (by omega) hok v hv hvi
    unfold valV at hSx hSy hSh
    refine wpc_draw (by kernel_rfl) [.blk g1 28 [.int .i64 v.k, .int .i64 v.n, .string (mkS v.s)]] (sub_of [15] (by kernel_rfl)) 42 (by kernel_rfl) ?_
    refine TK 29 [(0, []), (1, []), (2, []), (3, []), (4, []), (5, []), (6, []), (7, []), (8, []), (9, []), (10, []), (11, []), (13, [])] (.i 44 (.slice a2 l2.length c2) (.i 42 (.pointer (some ⟨gx, 0, none⟩)) (.i 41 (.bool false) (.k (.d (.k .a)))))) (#[true, true, true, true, true, true, true, true, true, true, true, true, false, true, false, false, false, false, false, false, false, false, false, false, false, false, false, false, false, false, false, false, false, false, false, false, false, false, false, false, false, false]) ?_
    refine AC (dst := some 43) 28 12 .a (hAx) (GV (GV (GV (GI []) 5 view_gBag) 4 view_row) 3 (view_blk0 (by simp [Go.Sx.One, Value.oneCell']))) [15] ?_
    rintro r _ ⟨a3, c3, l3, hm3, rfl, rfl⟩
    have hl3 : l3.length = L.length := by rw [← hm3, List.length_map]
    refine AC (dst := some 45) 27 14 .a (Same_spec a3 c3 l3 a2 c2 l2 (by omega) (by omega) (obs_cl hm3 hcl) (obs_cl hm2 hcl)) (GV (GV (GV (GV (GI []) 9 view_gBag) 8 view_row) 1 view_gBag) 0 view_row) [17] ?_
    rintro r _ ⟨rfl, rfl⟩
    rw [hm3, hm2, decide_eq_true rfl]
    refine TK 22 [(15, []), (16, []), (17, []), (18, []), (20, [])] (.i 51 (.slice a2 l2.length c2) (.i 49 (.pointer (some ⟨gy, 0, none⟩)) (.i 48 (.bool false) (.d (.d (.d (.d (.d (.k .a))))))))) (#[true, true, true, true, true, true, true, true, true, true, true, true, true, true, true, true, true, true, true, false, true, false, false, false, false, false, false, false, false, false, false, false, false, false, false, false, false, false, false, false, false, false]) ?_
    refine AC (dst := some 50) 21 19 .a (hAy) (GV (GV (GV (GI []) 4 view_gBag) 3 view_row) 2 (view_blk0 (by simp [Go.Sx.One, Value.oneCell']))) [17] ?_
    rintro r _ ⟨a4, c4, l4, hm4, rfl, rfl⟩
    have hl4 : l4.length = L.length := by rw [← hm4, List.length_map]
    refine AC (dst := some 52) 20 21 .a (Same_spec a4 c4 l4 a2 c2 l2 (by omega) (by omega) (obs_cl hm4 hcl) (obs_cl hm2 hcl)) (GV (GV (GV (GV (GI []) 11 view_gBag) 10 view_row) 1 view_gBag) 0 view_row) [19] ?_
    rintro r _ ⟨rfl, rfl⟩
    rw [hm4, hm2, decide_eq_true rfl]
    refine TK 13 [(22, []), (23, []), (24, []), (25, []), (26, [0, 0, 0]), (28, []), (29, [0, 0, 0])] (.i 60 (.agg #[.int .i64 v.k, .int .i64 v.n, .string (mkS v.s)]) (.i 59 (.pointer (some ⟨g, 0, none⟩)) (.i 57 (.agg #[.int .i64 v.k, .int .i64 v.n, .string (mkS v.s)]) (.i 56 (.pointer (some ⟨gx, 0, none⟩)) (.i 55 (.bool false) (.d (.d (.d (.d (.d (.k .a))))))))))) (#[true, true, true, true, true, true, true, true, true, true, true, true, true, true, true, true, true, true, true, true, true, true, true, true, true, true, true, false, true, true, false, false, false, false, false, false, false, false, false, false, false, false]) ?_
    refine AC (dst := some 58) 12 27 .a (hSx) (GV (GV (GV (GV (GI []) 18 view_gPow) 9 view_gBag) 8 view_row) 7 (view_blk0 (by simp [Go.Sx.One, Value.oneCell']))) [19] ?_
    rintro r _ ⟨rfl, rfl⟩
    refine AC (dst := some 61) 11 30 .a (hSh) (GV (GV (GV (GV (GI []) 18 view_gPow) 14 view_gBag) 13 view_row) 12 (view_blk0 (by simp [Go.Sx.One, Value.oneCell']))) [19] ?_
    rintro r _ ⟨rfl, rfl⟩
    refine TK 8 [(31, []), (32, []), (33, [])] (.i 64 (.bool !decide (showT L v = showT L v)) (.d (.d (.d (.d (.d (.d (.d (.k .a))))))))) (#[true, true, true, true, true, true, true, true, true, true, true, true, true, true, true, true, true, true, true, true, true, true, true, true, true, true, true, true, true, true, true, true, true, true, false, false, false, false, false, false, false, false]) ?_
    refine SA 64 (!decide (showT L v = showT L v)) false (by simp) ?_
    refine TK 4 [(34, []), (35, [0, 0, 0]), (37, []), (38, [0, 0, 0])] (.i 69 (.agg #[.int .i64 v.k, .int .i64 v.n, .string (mkS v.s)]) (.i 68 (.pointer (some ⟨g, 0, none⟩)) (.i 66 (.agg #[.int .i64 v.k, .int .i64 v.n, .string (mkS v.s)]) (.i 65 (.pointer (some ⟨gy, 0, none⟩)) (.k (.d (.k (.k (.k (.k (.k (.d (.k .a))))))))))))) (#[true, true, true, true, true, true, true, true, true, true, true, true, true, true, true, true, true, true, true, true, true, true, true, true, true, true, true, true, true, true, true, true, true, true, true, true, false, true, true, false, false, false]) ?_
    refine AC (dst := some 67) 3 36 .a (hSy) (GV (GV (GV (GV (GI []) 18 view_gPow) 6 view_gBag) 5 view_row) 4 (view_blk0 (by simp [Go.Sx.One, Value.oneCell']))) [19] ?_
    rintro r _ ⟨rfl, rfl⟩
    refine AC (dst := some 70) 2 39 .a (hSh) (GV (GV (GV (GV (GI []) 18 view_gPow) 14 view_gBag) 13 view_row) 12 (view_blk0 (by simp [Go.Sx.One, Value.oneCell']))) [19] ?_
    rintro r _ ⟨rfl, rfl⟩
    refine TK 0 [(40, []), (41, [])] (.i 72 (.bool !decide (showT L v = showT L v)) (.d (.d (.d (.d (.d (.d (.d (.k .a))))))))) (#[true, true, true, true, true, true, true, true, true, true, true, true, true, true, true, true, true, true, true, true, true, true, true, true, true, true, true, true, true, true, true, true, true, true, true, true, true, true, true, true, true, true]) ?_
    refine wpa_done 0 (by kernel_rfl) ?_
    refine NT ?_
    refine SC 72 (!decide (showT L v = showT L v)) false (by simp) ?_
    refine CF (SK (NT (SQ (SQ (RG ?_)))))
    refine RR [] .z (.i 10 (.int .i64 0) (.d (.d (.k .a)))) .a ?_
    refine RZ (NT (BK ?_))
    refine wpc_loop (X := {y : Nat × List Ob // y.1 ≤ l2.length ∧ y.2.map objC = l2.map objC}) (fun y => St.mk [(10, .int .i64 (y.1.1 : Int)), (9, .pointer (some ⟨gy, 0, none⟩)), (7, .pointer (some ⟨gx, 0, none⟩)), (6, .slice a2 l2.length c2), (5, .pointer (some ⟨g, 0, none⟩)), (4, .bool false), (0, .slice a l.length c)]
      [star (y.1.2.map obRow), row 43 2 a2 l2.length c2 (l2.flatMap objC), .blk gy 59 [.bool true, .int .i64 4096, .int .i64 (usedO L : Nat), .slice ay ly.length cy], row 43 2 ay ly.length cy (ly.flatMap objC), star (ly.map obRow), .blk gx 59 [.bool true, .int .i64 4096, .int .i64 (usedO L : Nat), .slice ax lx.length cx], row 43 2 ax lx.length cx (lx.flatMap objC), star (lx.map obRow), .blk g 59 [.bool true, .int .i64 4096, .int .i64 (usedO L : Nat), .slice a1 l1.length c1], row 43 2 a1 l1.length c1 (l1.flatMap objC), star (l1.map obRow), ro a (l.flatMap actC), gActs l, gWords, gPow]) (fun y => l2.length - y.1.1) ⟨(0, l2), Nat.zero_le _, rfl⟩ ?_ ?_
    · exact Ent.trans (ent_hp [11, 10, 4, 4, 4, 4, 4, 4, 4, 4, 4, 4, 4, 4, 4] rfl) (ent_fr (by kernel_rfl))
    rintro ⟨⟨i, lw⟩, hi, hmw⟩
    dsimp only at hi hmw ⊢
    have hlw : lw.length = l2.length := by have := congrArg List.length hmw; simpa using this
    by_cases hlt : i < l2.length
    · have hltw : i < lw.length := by omega
      obtain ⟨hwa, hwn, hwc⟩ := objC_eq hmw hltw hlt
      have hcb := obs_cl hm2 hcl l2[i] (List.getElem_mem hlt)
      refine wpc_fact (fun w h => row_addr h 1 rfl (by omega)) ?_
      rintro ⟨g0, o0, rfl⟩
      refine wpc_ent (ent_star_take i (c := row 28 3 l2[i].a l2[i].cells.length l2[i].c (lw[i].cells.flatMap valC)) (by rw [List.getElem?_map, List.getElem?_eq_getElem hltw]; show some (obRow lw[i]) = _; unfold obRow; rw [hwa, hwn, hwc])) ?_
      refine SQ (SQ (RG ?_))
      refine RR [] .z (.i 76 (.bool (decide ((↑i : Int) < (↑l2.length : Int)))) .a) .a ?_
      refine RZ (NT ?_)
      refine SC 76 (decide ((↑i : Int) < (↑l2.length : Int))) true (decide_eq_true (by omega)) ?_
      refine CT (SK (NT (SQ (BK (SQ (RG ?_))))))
      refine RR [] .z (.i 11 (.int .i64 0) (.d (.d (.k .a)))) .a ?_
      refine RZ (NT (BK ?_))
      refine wpc_loop (X := {y : Nat × List V // y.1 ≤ l2[i].cells.length ∧ y.2.length = l2[i].cells.length}) (fun y => St.mk [(11, .int .i64 (y.1.1 : Int)), (10, .int .i64 (i : Int)), (9, .pointer (some ⟨gy, 0, none⟩)), (7, .pointer (some ⟨gx, 0, none⟩)), (6, .slice (some ⟨g0, o0, none⟩) l2.length c2), (5, .pointer (some ⟨g, 0, none⟩)), (4, .bool false), (0, .slice a l.length c)]
        [row 28 3 l2[i].a l2[i].cells.length l2[i].c (y.1.2.flatMap valC), star ((lw.map obRow).eraseIdx i), row 43 2 (some ⟨g0, o0, none⟩) l2.length c2 (l2.flatMap objC), .blk gy 59 [.bool true, .int .i64 4096, .int .i64 (usedO L : Nat), .slice ay ly.length cy], row 43 2 ay ly.length cy (ly.flatMap objC), star (ly.map obRow), .blk gx 59 [.bool true, .int .i64 4096, .int .i64 (usedO L : Nat), .slice ax lx.length cx], row 43 2 ax lx.length cx (lx.flatMap objC), star (lx.map obRow), .blk g 59 [.bool true, .int .i64 4096, .int .i64 (usedO L : Nat), .slice a1 l1.length c1], row 43 2 a1 l1.length c1 (l1.flatMap objC), star (l1.map obRow), ro a (l.flatMap actC), gActs l, gWords, gPow]) (fun y => l2[i].cells.length - y.1.1) ⟨(0, lw[i].cells), Nat.zero_le _, hwn⟩ (ent_fr (by kernel_rfl)) ?_
      rintro ⟨⟨k, cs⟩, hk, hcs⟩
      dsimp only at hk hcs ⊢
      by_cases hkt : k < l2[i].cells.length
      · refine wpc_fact (fun w h => row_addr h 0 rfl (by omega)) ?_
        rintro ⟨gc, oc, hac⟩
        refine SQ (SQ (RG ?_))
        refine RV true [] (.d (.d (.d (.d (.d .a))))) (.i 83 (.pointer (some ⟨g0, o0 + i * 2 + 1, none⟩)) (.i 79 (.int .i64 (↑k : Int)) .a)) .a [(0 : Int) ≤ (↑i : Int) ∧ (↑i : Int) < (↑l2.length : Int)] ⟨by omega, trivial⟩ ?_
        refine wpr_eq (ld (t := 25) (a := ⟨g0, o0 + i * 2 + 1, none⟩) (dst := some 84) (by kernel_rfl) false 1 (by kernel_rfl) (by simp) [.slice l2[i].a l2[i].cells.length l2[i].c] rfl (fun w h => ld_row h 2 rfl (i * 2 + 1) (obj_cells hlt))) ?_
        refine RR [] .z (.i 86 (.bool (decide ((↑k : Int) < (↑l2[i].cells.length : Int)))) (.d (.d (.d (.k .a))))) .a ?_
        refine RZ (NT ?_)
        refine SC 86 (decide ((↑k : Int) < (↑l2[i].cells.length : Int))) true (decide_eq_true (by omega)) ?_
        refine CT (SK (NT (SQ (BK ?_))))
        refine wpc_draw (by kernel_rfl) [row 43 2 (some ⟨g0, o0, none⟩) l2.length c2 (List.flatMap objC l2)] (sub_of [2] (by kernel_rfl)) 9 (by kernel_rfl) ?_
        refine wpa_take true [(0, []), (1, []), (2, []), (3, []), (5, [])] ([(94, .int .i64 (↑k : Int)), (92, .pointer (some ⟨g0, o0 + i * 2 + 1, none⟩)), (11, .int .i64 (↑k : Int)), (10, .int .i64 (↑i : Int)), (9, .pointer (some ⟨gy, 0, none⟩)), (7, .pointer (some ⟨gx, 0, none⟩)), (6, .slice (some ⟨g0, o0, none⟩) l2.length c2), (5, .pointer (some ⟨g, 0, none⟩)), (4, .bool false), (0, .slice a l.length c)]) (#[true, true, true, true, false, true, false, false, false]) [(0 : Int) ≤ (↑i : Int) ∧ (↑i : Int) < (↑l2.length : Int)] (n := 4) (by kernel_rfl) (by kernel_rfl) (by kernel_rfl) ⟨by omega, trivial⟩ ?_
        refine wpa_qld (i := 4) (n := 3) (by kernel_rfl) (by kernel_rfl) (by kernel_rfl) (t := 25) (a := ⟨g0, o0 + i * 2 + 1, none⟩) (dst := some 93) (by kernel_rfl) false 1 (by kernel_rfl) (by simp) [.slice l2[i].a l2[i].cells.length l2[i].c] rfl (fun w h => ld_rowL h 0 rfl (i * 2 + 1) (obj_cells hlt)) ?_
        rw [hac]
        refine AC (dst := some 95) 2 6 .a (number_spec 77) (GI []) [2] ?_
        rintro r _ ⟨rfl, rfl⟩
        refine wpa_take true [(7, [])] ([(96, .pointer (some ⟨gc, oc + k * 3, none⟩)), (95, .agg #[.int .i64 1, .int .i64 77, .string (mkS [])]), (11, .int .i64 (↑k : Int)), (10, .int .i64 (↑i : Int)), (9, .pointer (some ⟨gy, 0, none⟩)), (7, .pointer (some ⟨gx, 0, none⟩)), (6, .slice (some ⟨g0, o0, none⟩) l2.length c2), (5, .pointer (some ⟨g, 0, none⟩)), (4, .bool false), (0, .slice a l.length c)]) (#[true, true, true, true, true, true, true, true, false]) [(0 : Int) ≤ (↑k : Int) ∧ (↑k : Int) < (↑l2[i].cells.length : Int)] (n := 1) (by kernel_rfl) (by kernel_rfl) (by kernel_rfl) ⟨by omega, trivial⟩ ?_
        refine wpa_eq (i := 8) (n := 0) (by kernel_rfl) (stq' (t := 28) (g := gc) (off := oc) (q := (k * 3)) (v := (.agg #[.int .i64 1, .int .i64 77, .string (mkS [])])) (dst := none) (by kernel_rfl) 0 (T := 28) (sz := 3) (n := (l2[i].cells.length)) (cap := (l2[i].c)) (xs := (List.flatMap valC cs)) (by kernel_rfl) [.int .i64 1, .int .i64 77, .string (mkS [])] (by kernel_rfl) (by kernel_rfl) (by simp [Go.Sx.One, Value.oneCell']) (by rw [vals_len]; show _ + 3 ≤ _; omega) (xs' := ((cs.set k (numV 77)).flatMap valC)) (by rw [vals_set (by omega), List.append_assoc]; rfl)) (sub_of [2] (by kernel_rfl)) ?_
        refine wpa_done 0 (by kernel_rfl) ?_
        refine BN (NT (RG ?_))
        refine RV true [] .z (.i 11 (.int .i64 ((↑k : Int) + 1)) (.d (.d (.d (.k .a))))) .a ([inI64 ((↑k : Int) + (1 : Int))]) ⟨by unfold inI64; omega, trivial⟩ ?_
        refine RZ ?_
        rw [← hac]
        exact fun a' w' hS' => ⟨⟨(k + 1, cs.set k (numV 77)), hkt, by rw [List.length_set]; exact hcs⟩, by dsimp only; omega, ent_fr (by kernel_rfl) _ _ (ent_hp [0, 0, 0, 0, 0, 0, 0, 0, 0, 0, 0, 0, 0, 0, 0, 0] rfl _ _ hS')⟩
      · obtain rfl : k = l2[i].cells.length := by omega
        refine SQ (SQ (RG ?_))
        refine RV true [] (.d (.d (.d (.d (.d .a))))) (.i 83 (.pointer (some ⟨g0, o0 + i * 2 + 1, none⟩)) (.i 79 (.int .i64 (↑l2[i].cells.length : Int)) .a)) .a [(0 : Int) ≤ (↑i : Int) ∧ (↑i : Int) < (↑l2.length : Int)] ⟨by omega, trivial⟩ ?_
        refine wpr_eq (ld (t := 25) (a := ⟨g0, o0 + i * 2 + 1, none⟩) (dst := some 84) (by kernel_rfl) false 1 (by kernel_rfl) (by simp) [.slice l2[i].a l2[i].cells.length l2[i].c] rfl (fun w h => ld_row h 2 rfl (i * 2 + 1) (obj_cells hlt))) ?_
        refine RR [] .z (.i 86 (.bool (decide ((↑l2[i].cells.length : Int) < (↑l2[i].cells.length : Int)))) (.d (.d (.d (.k .a))))) .a ?_
        refine RZ (NT ?_)
        refine SC 86 (decide ((↑l2[i].cells.length : Int) < (↑l2[i].cells.length : Int))) false (by simp) ?_
        refine CF (EX (TE (TE (BH (BN (NT (RG ?_)))))))
        refine RV true [] .z (.i 10 (.int .i64 ((↑i : Int) + 1)) (.d (.d (.d (.d (.k .a)))))) .a ([inI64 ((↑i : Int) + (1 : Int))]) ⟨by unfold inI64; omega, trivial⟩ ?_
        refine RZ ?_
        obtain ⟨o', ho'⟩ : ∃ o', o' = Ob.mk lw[i].tag l2[i].a l2[i].c cs := ⟨_, rfl⟩
        have hrow : row 28 3 l2[i].a l2[i].cells.length l2[i].c (cs.flatMap valC) = obRow o' := by
          rw [ho']; unfold obRow; dsimp only; rw [hcs]
        have hobj : objC o' = objC lw[i] := by rw [ho']; unfold objC; dsimp only; rw [hcs, hwa, hwn, hwc]
        rw [hrow]
        refine nx_ent (ent_star_put i (by rw [List.length_map]; exact hltw) trivial) ?_
        rw [← List.map_set]
        exact fun a' w' hS' => ⟨⟨(i + 1, lw.set i o'), hlt, by rw [objC_set hltw hobj]; exact hmw⟩, by dsimp only; omega, ent_fr (by kernel_rfl) _ _ (ent_hp [0, 0, 0, 0, 0, 0, 0, 0, 0, 0, 0, 0, 0, 0, 0] rfl _ _ hS')⟩
    · obtain rfl : i = l2.length := by omega
      refine SQ (SQ (RG ?_))
      refine RR [] .z (.i 76 (.bool (decide ((↑l2.length : Int) < (↑l2.length : Int)))) .a) .a ?_
      refine RZ (NT ?_)
      refine SC 76 (decide ((↑l2.length : Int) < (↑l2.length : Int))) false (by simp) ?_
      refine CF (EX (TE (TE (BH (NT (SQ (RG ?_)))))))
      refine RR [] (.d .a) (.i 97 (.pointer (some ⟨gx, 0, none⟩)) (.d (.d (.d (.k (.d (.d (.k .a)))))))) .a ?_
      refine RC (dst := some 98) [] .a (at_spec 0) ?_
      rintro r _ ⟨rfl, rfl⟩
      refine RC (dst := some 99) [] .a (number_spec 5) ?_
      rintro r _ ⟨rfl, rfl⟩
      have hst := Set_o gx 4096 ax cx lx L hmx (atV 0) 0 (numV 5) (by omega) (Nat.zero_le _) (Nat.zero_le _)
      unfold heapB heapR heapS valV atV numV at hst
      dsimp only at hst
      refine RC (dst := some 100) [5, 5, 5] (.k (.k (.k (.k (.k (.d (.d (.d (.k .a))))))))) (hst) ?_
      rintro r _ ⟨rfl, a5, c5, l5, hm5, rfl⟩
      refine RZ (NT (SQ (RG ?_)))
      refine RR [] (.d .a) (.i 101 (.pointer (some ⟨gy, 0, none⟩)) (.d (.d (.d (.d (.d (.k .a))))))) .a ?_
      refine RC (dst := some 102) [] .a (number_spec 1) ?_
      rintro r _ ⟨rfl, rfl⟩
      refine RN [] (.d .a) 103 (fun g2 => (.slice (some ⟨g2, 0, none⟩) 1 1)) (.d (.k .a)) .a 28 [.int .i64 1, .int .i64 1, .string (mkS [])] fun g2 => ?_
      refine wpr_ent (ent_turn 15 (ro (some ⟨g2, 0, none⟩) ([numV 1].flatMap valC)) rfl (turn_rblk (l := [numV 1].flatMap valC) (vals_one _)) rfl) ?_
      have hal := Alloc_o gy 4096 ay cy ly L hmy [] [numV 1] (some ⟨g2, 0, none⟩) 1 (by decide) (by omega) (fun e => by cases e) (Nat.le_refl _) (by decide) (by decide) (fun u hu => by rw [List.mem_singleton.1 hu]; exact Nat.zero_le _)
      unfold heapB heapR heapS valV at hal
      refine RCG (dst := some 104) (.k (.k (.k (.k (.k (.d (.d (.d (.k .a))))))))) (hal) (GO (GV (GV (GJ [5, 5, 5]) 10 view_ro) 12 view_ro) [2, 2, 2, 0, 0]) ?_
      rintro r _ ⟨a6, c6, l6, hm6, rfl, rfl⟩
      refine RZ (NT (SQ (RG ?_)))
      refine RR [] (.d .a) (.i 105 (.pointer (some ⟨g, 0, none⟩)) (.d (.d (.d (.d (.k .a)))))) .a ?_
      refine RCG (dst := some 106) .a (hA) (GV (GV (GV (GI []) 10 view_gBag) 9 view_row) 8 (view_blk0 (by simp [Go.Sx.One, Value.oneCell']))) ?_
      rintro r _ ⟨a7, c7, l7, hm7, rfl, rfl⟩
      have hl7 : l7.length = L.length := by rw [← hm7, List.length_map]
      refine RR [] .z (.i 12 (.slice a7 l7.length c7) (.d (.d (.k .a)))) .a ?_
      refine RZ (NT (SQ (RG ?_)))
      refine RR [] (.d .a) (.i 107 (.slice a l.length c) (.k (.k .z))) .a ?_
      refine RCG (dst := some 108) .a (hd) (GV (GV (GV (GI []) 15 view_ro) 14 view_self) 13 view_ro) ?_
      rintro r _ ⟨gz, a8, c8, l8, hm8, rfl, rfl⟩
      refine RR [] .z (.i 13 (.pointer (some ⟨gz, 0, none⟩)) (.d (.d (.k .a)))) .a ?_
      refine RZ (NT (SQ (RG ?_)))
      refine RR [] (.d (.d (.d (.d (.d .a))))) (.i 113 (.pointer (some ⟨gz, 0, none⟩)) (.i 112 (.slice a7 l7.length c7) (.i 111 (.bool true) (.d (.d (.k .a)))))) .a ?_
      have hAz := All_o gz 4096 (usedO L) a8 c8 l8 L hm8 (by omega) hcl
      unfold heapR heapS at hAz
      refine RCG (dst := some 114) .a (hAz) (GV (GV (GV (GI []) 2 view_gBag) 1 view_row) 0 (view_blk0 (by simp [Go.Sx.One, Value.oneCell']))) ?_
      rintro r _ ⟨a9, c9, l9, hm9, rfl, rfl⟩
      have hl9 : l9.length = L.length := by rw [← hm9, List.length_map]
      refine RCG (dst := some 115) .a (Same_spec a7 c7 l7 a9 c9 l9 (by omega) (by omega) (obs_cl hm7 hcl) (obs_cl hm9 hcl)) (GV (GV (GV (GV (GI []) 1 view_gBag) 0 view_row) 6 view_gBag) 5 view_row) ?_
      rintro r _ ⟨rfl, rfl⟩
      rw [hm7, hm9, decide_eq_true rfl]
      refine RR [] (.d (.d .a)) (.i 117 (.bool true) (.d (.d (.d (.d (.d (.k .a))))))) .a ?_
      refine RCG (dst := some 118) .a (lives_spec) (GV (GV (GI []) 21 view_gPow) 20 view_ro) ?_
      rintro r _ ⟨rfl, rfl⟩
      refine RR [] .z (.i 4 (.bool true) .z) .a ?_
      refine RZ (NT (RE ?_))
      refine NE [] .z .a [] (.bool true) ?_
      exact ⟨rfl, rfl⟩
end Go.Proofs.YtpfhleghgkeemaaGreatDoor
