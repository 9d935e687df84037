import Derived.Test.YtpfhleghgkeemaaGreatDoorH15
import Derived.Test.YtpfhleghgkeemaaGreatDoorY2
namespace Go.Proofs.YtpfhleghgkeemaaGreatDoor
open Go Go.Sx
set_option linter.unusedVariables false
set_option linter.unusedSimpArgs false

def setR (l : List O) (v : V) (i : Int) (x : V) : List O × Int :=
  if refB v l.length && cellB l.length x then
    if inB i (objAt l v).2.length then (l.set v.n.toNat ((objAt l v).1, (objAt l v).2.set i.toNat x), 0) else (l, 10) else (l, 2)
theorem setR_no {l : List Ob} {v x : V} {i : Int} (hr : (refB v l.length && cellB l.length x) = false) : setR (l.map Ob.o) v i x = (l.map Ob.o, 2) := by
  unfold setR; rw [List.length_map, hr]; rfl
theorem setR_out {l : List Ob} {v x : V} {i : Int} (hr : refB v l.length = true) (hx : cellB l.length x = true) (hq : v.n.toNat < l.length) (h : inB i l[v.n.toNat].cells.length = false) : setR (l.map Ob.o) v i x = (l.map Ob.o, 10) := by
  unfold setR; rw [List.length_map, hr, hx, objAt_map hq, Bool.and_true, if_pos rfl]; show (if inB i l[v.n.toNat].cells.length = true then _ else _) = _; rw [h]; rfl
theorem setR_in {l : List Ob} {v x : V} {j : Nat} (hr : refB v l.length = true) (hx : cellB l.length x = true) (hq : v.n.toNat < l.length) (h : j < l[v.n.toNat].cells.length) : setR (l.map Ob.o) v j x = ((l.set v.n.toNat (Ob.mk l[v.n.toNat].tag l[v.n.toNat].a l[v.n.toNat].c (l[v.n.toNat].cells.set j x))).map Ob.o, 0) := by
  have hin : inB (j : Int) l[v.n.toNat].cells.length = true := by simp [inB, h]
  unfold setR; rw [List.length_map, hr, hx, objAt_map hq, Bool.and_true, if_pos rfl]; show (if inB (j : Int) l[v.n.toNat].cells.length = true then _ else _) = _
  rw [hin, if_pos rfl, Int.toNat_natCast, List.map_set]; rfl
theorem objs_set {l : List Ob} {q : Nat} {o : Ob} (hq : q < l.length) (h : objC o = objC l[q]) : (l.set q o).flatMap objC = l.flatMap objC := by
  induction l generalizing q with
  | nil => rfl
  | cons b l ih =>
    cases q with
    | zero => simp only [List.set_cons_zero, List.flatMap_cons, List.getElem_cons_zero] at h ⊢; rw [h]
    | succ q => simp only [List.set_cons_succ, List.flatMap_cons, List.getElem_cons_succ] at h ⊢; rw [ih (by simpa using hq) h]
theorem vals_set {l : List V} {q : Nat} {x : V} (hq : q < l.length) : (l.set q x).flatMap valC = (l.flatMap valC).take (q * 3) ++ (valC x ++ (l.flatMap valC).drop (q * 3 + 3)) := by
  induction l generalizing q with
  | nil => cases hq
  | cons b l ih =>
    cases q with
    | zero => rfl
    | succ q =>
      simp only [List.set_cons_succ, List.flatMap_cons]
      rw [ih (by simpa using hq), show (q + 1) * 3 = q * 3 + 3 by omega]
      rfl
theorem ld_rowL {hs : Hp} {w : World} (h : HL hs w) (i : Nat) {T sz n cap g off : Nat} {xs : List Value} (hi : hs[i]? = some (row T sz (some ⟨g, off, none⟩) n cap xs)) (q : Nat) {vs : List Value} (hv : (xs.drop q).take vs.length = vs) : cellsAt w ⟨g, off + q, none⟩ vs :=
  cells_part (row_cells (h _ (List.mem_of_getElem? hi))) hv
theorem obRow_at {l : List Ob} {q g off : Nat} (hq : q < l.length) (ha : l[q].a = some ⟨g, off, none⟩) : (l.map obRow)[q]? = some (row 28 3 (some ⟨g, off, none⟩) l[q].cells.length l[q].c (l[q].cells.flatMap valC)) := by
  rw [List.getElem?_map, List.getElem?_eq_getElem hq, ← ha]; rfl
theorem Set_spec (g : Nat) (most : Int) (used : Nat) (a : Option Addr) (c : Nat) (l : List Ob) (v : V) (i : Int) (x : V) (hl : l.length ≤ 4096) (hv : v.sm) (hx : x.sm) :
    Does Tryz.prog 23 [.pointer (some ⟨g, 0, none⟩), valV v, .int .i64 i, valV x] (Hp3 g most used a c l)
      (fun r hp' => r = .int .i64 (setR (l.map Ob.o) v i x).2 ∧ ∃ l', l'.map Ob.o = (setR (l.map Ob.o) v i x).1 ∧ hp' = Hp3 g most used a c l') := by
  have hob := object_spec g most used a c l v hl hv
  have hck := Check_spec x l.length hx
  unfold heapB heapR at hob
  unfold Hp3 heapB heapR heapS
  refine fn_enter Tryz.func23 rfl 54 rfl fun w0 h0 => ?_
  refine SQ (RG ?_)
  refine RP [] (.d .a) 5 (.k (.d (.k (.i 3 (.agg #[.int .i64 x.k, .int .i64 x.n, .string (mkS x.s)]) .z)))) (.i (.blk g 59 [.bool true, .int .i64 most, .int .i64 (↑used : Int), .slice a l.length c]) (.d (.k .a))) 28 [.int .i64 v.k, .int .i64 v.n, .string (mkS v.s)] fun g1 => ?_
  refine RP [] (.d .a) 7 (.k (.k (.k .z))) (.i (.blk g 59 [.bool true, .int .i64 most, .int .i64 (↑used : Int), .slice a l.length c]) (.d (.k (.k (.i (.blk g1 28 [.int .i64 v.k, .int .i64 v.n, .string (mkS v.s)]) .z))))) 28 [.int .i64 x.k, .int .i64 x.n, .string (mkS x.s)] fun g2 => ?_
  refine RR [] .z (.i 8 (.int .i64 0) .a) (.i (.blk g 59 [.bool true, .int .i64 most, .int .i64 (↑used : Int), .slice a l.length c]) (.d (.k (.k (.i (.blk g1 28 [.int .i64 v.k, .int .i64 v.n, .string (mkS v.s)]) (.i (.blk g2 28 [.int .i64 x.k, .int .i64 x.n, .string (mkS x.s)]) .z)))))) ?_
  refine RZ (NT (SQ (RG ?_)))
  refine RR [3, 3, 3] (.d (.d .a)) (.i 13 (.agg #[.int .i64 v.k, .int .i64 v.n, .string (mkS v.s)]) (.i 12 (.pointer (some ⟨g, 0, none⟩)) (.k (.k (.d (.k .a)))))) (.i (.blk g 59 [.bool true, .int .i64 most, .int .i64 (↑used : Int), .slice a l.length c]) (.d (.k (.k (.i (.blk g1 28 [.int .i64 v.k, .int .i64 v.n, .string (mkS v.s)]) (.i (.blk g2 28 [.int .i64 x.k, .int .i64 x.n, .string (mkS x.s)]) .z)))))) ?_
  refine RC (dst := some 14) [0, 0] (.d (.d (.k (.i (.blk g1 28 [.int .i64 v.k, .int .i64 v.n, .string (mkS v.s)]) (.i (.blk g2 28 [.int .i64 x.k, .int .i64 x.n, .string (mkS x.s)]) .z))))) (hob) ?_
  rintro r _ ⟨h, rfl⟩
  cases hr : refB v l.length with
  | false =>
    rw [hr] at h
    obtain rfl := h
    refine RR [] .z (.i 10 (.int .i64 2) (.i 9 (.pointer none) (.d (.d (.d (.k .a)))))) (.i (.blk g 59 [.bool true, .int .i64 most, .int .i64 (↑used : Int), .slice a l.length c]) (.d (.k (.k (.i (.blk g1 28 [.int .i64 v.k, .int .i64 v.n, .string (mkS v.s)]) (.i (.blk g2 28 [.int .i64 x.k, .int .i64 x.n, .string (mkS x.s)]) .z)))))) ?_
    refine RZ (NT (SQ (BK (SQ (RG ?_)))))
    refine RR [] .z (.i 17 (.bool true) .a) (.i (.blk g 59 [.bool true, .int .i64 most, .int .i64 (↑used : Int), .slice a l.length c]) (.d (.k (.k (.i (.blk g1 28 [.int .i64 v.k, .int .i64 v.n, .string (mkS v.s)]) (.i (.blk g2 28 [.int .i64 x.k, .int .i64 x.n, .string (mkS x.s)]) .z)))))) ?_
    refine RZ (NT (CT (SQ (RG ?_))))
    refine RR [] .z (.i 8 (.int .i64 2) (.d (.d (.k (.d (.k (.d (.k .a)))))))) (.i (.blk g 59 [.bool true, .int .i64 most, .int .i64 (↑used : Int), .slice a l.length c]) (.d (.k (.k (.i (.blk g1 28 [.int .i64 v.k, .int .i64 v.n, .string (mkS v.s)]) (.i (.blk g2 28 [.int .i64 x.k, .int .i64 x.n, .string (mkS x.s)]) .z)))))) ?_
    refine RZ (NT (RE (BR (TR ?_))))
    refine NE [0, 0, 0] (.i (.blk g 59 [.bool true, .int .i64 most, .int .i64 (↑used : Int), .slice a l.length c]) (.d (.k (.k .z)))) (.i (.blk g1 28 [.int .i64 v.k, .int .i64 v.n, .string (mkS v.s)]) (.i (.blk g2 28 [.int .i64 x.k, .int .i64 x.n, .string (mkS x.s)]) .z)) [] (.int .i64 2) ?_
    rw [setR_no (by rw [hr]; rfl)]
    exact ⟨rfl, l, rfl, rfl⟩
  | true =>
    rw [hr, if_pos rfl] at h
    obtain ⟨g0, o0, rfl, rfl⟩ := h
    obtain ⟨_, hs0, hn0, hnl⟩ := refB_lt hr
    have hq : v.n.toNat < l.length := by omega
    by_cases hk : x.k = 0
    · have hcx : cellB l.length x = false := by simp [cellB, hk]
      refine RR [] .z (.i 10 (.int .i64 0) (.i 9 (.pointer (some ⟨g0, o0 + v.n.toNat * 2, none⟩)) (.d (.d (.d (.k .a)))))) (.i (.blk g 59 [.bool true, .int .i64 most, .int .i64 (↑used : Int), .slice (some ⟨g0, o0, none⟩) l.length c]) (.d (.k (.k (.i (.blk g1 28 [.int .i64 v.k, .int .i64 v.n, .string (mkS v.s)]) (.i (.blk g2 28 [.int .i64 x.k, .int .i64 x.n, .string (mkS x.s)]) .z)))))) ?_
      refine RZ (NT (SQ (BK (SQ (RG ?_)))))
      refine RR [] .z (.i 17 (.bool false) .a) (.i (.blk g 59 [.bool true, .int .i64 most, .int .i64 (↑used : Int), .slice (some ⟨g0, o0, none⟩) l.length c]) (.d (.k (.k (.i (.blk g1 28 [.int .i64 v.k, .int .i64 v.n, .string (mkS v.s)]) (.i (.blk g2 28 [.int .i64 x.k, .int .i64 x.n, .string (mkS x.s)]) .z)))))) ?_
      refine RZ (NT (CF (SQ ?_)))
      refine wpc_draw (by kernel_rfl) [.blk g 59 [.bool true, .int .i64 most, .int .i64 (↑used : Int), .slice (some ⟨g0, o0, none⟩) l.length c]] (sub_of [0] (by kernel_rfl)) 14 (by kernel_rfl) ?_
      refine TK 13 [(0, [])] (.i 22 (.pointer (some ⟨g2, 0, none⟩)) (.d (.d (.k .a)))) (#[true, false, false, false, false, false, false, false, false, false, false, false, false, false]) ?_
      refine AO 12 1 [4] (.i 23 (.int .i64 x.k) (.d (.k .a))) (.i (.blk g 59 [.bool true, .int .i64 most, .int .i64 (↑used : Int), .slice (some ⟨g0, o0, none⟩) l.length c]) (.d (.k (.k (.i (.blk g1 28 [.int .i64 v.k, .int .i64 v.n, .string (mkS v.s)]) (.i (.blk g2 28 [.int .i64 x.k, .int .i64 x.n, .string (mkS x.s)]) .z)))))) [0] ?_
      refine TK 10 [(2, []), (3, [])] (.i 25 (.bool (x.k == 0)) (.d (.k .a))) (#[true, true, true, true, false, false, false, false, false, false, false, false, false, false]) ?_
      refine SA 25 (x.k == 0) true (by simp only [bne_iff_ne, beq_iff_eq, ne_eq]; omega) ?_
      refine TK 0 [(4, []), (5, []), (6, []), (7, []), (8, []), (9, []), (10, []), (11, []), (12, []), (13, [])] (.i 21 (.bool true) (.d (.d (.k (.k (.k (.d (.k .a)))))))) (#[true, true, true, true, true, true, true, true, true, true, true, true, true, true]) ?_
      refine wpa_done 0 (by kernel_rfl) ?_
      refine NT (CT (SQ (RG ?_)))
      refine RR [] .z (.i 8 (.int .i64 2) (.d (.k (.d (.k .a))))) (.i (.blk g 59 [.bool true, .int .i64 most, .int .i64 (↑used : Int), .slice (some ⟨g0, o0, none⟩) l.length c]) (.d (.k (.k (.i (.blk g1 28 [.int .i64 v.k, .int .i64 v.n, .string (mkS v.s)]) (.i (.blk g2 28 [.int .i64 x.k, .int .i64 x.n, .string (mkS x.s)]) .z)))))) ?_
      refine RZ (NT (RE (BR (TR ?_))))
      refine NE [0, 0, 0] (.i (.blk g 59 [.bool true, .int .i64 most, .int .i64 (↑used : Int), .slice (some ⟨g0, o0, none⟩) l.length c]) (.d (.k (.k .z)))) (.i (.blk g1 28 [.int .i64 v.k, .int .i64 v.n, .string (mkS v.s)]) (.i (.blk g2 28 [.int .i64 x.k, .int .i64 x.n, .string (mkS x.s)]) .z)) [] (.int .i64 2) ?_
      rw [setR_no (by rw [hcx]; simp)]
      exact ⟨rfl, l, rfl, rfl⟩
    · refine RR [] .z (.i 10 (.int .i64 0) (.i 9 (.pointer (some ⟨g0, o0 + v.n.toNat * 2, none⟩)) (.d (.d (.d (.k .a)))))) (.i (.blk g 59 [.bool true, .int .i64 most, .int .i64 (↑used : Int), .slice (some ⟨g0, o0, none⟩) l.length c]) (.d (.k (.k (.i (.blk g1 28 [.int .i64 v.k, .int .i64 v.n, .string (mkS v.s)]) (.i (.blk g2 28 [.int .i64 x.k, .int .i64 x.n, .string (mkS x.s)]) .z)))))) ?_
      refine RZ (NT (SQ (BK (SQ (RG ?_)))))
      refine RR [] .z (.i 17 (.bool false) .a) (.i (.blk g 59 [.bool true, .int .i64 most, .int .i64 (↑used : Int), .slice (some ⟨g0, o0, none⟩) l.length c]) (.d (.k (.k (.i (.blk g1 28 [.int .i64 v.k, .int .i64 v.n, .string (mkS v.s)]) (.i (.blk g2 28 [.int .i64 x.k, .int .i64 x.n, .string (mkS x.s)]) .z)))))) ?_
      refine RZ (NT (CF (SQ ?_)))
      refine wpc_draw (by kernel_rfl) [.blk g 59 [.bool true, .int .i64 most, .int .i64 (↑used : Int), .slice (some ⟨g0, o0, none⟩) l.length c]] (sub_of [0] (by kernel_rfl)) 14 (by kernel_rfl) ?_
      refine TK 13 [(0, [])] (.i 22 (.pointer (some ⟨g2, 0, none⟩)) (.d (.d (.k .a)))) (#[true, false, false, false, false, false, false, false, false, false, false, false, false, false]) ?_
      refine AO 12 1 [4] (.i 23 (.int .i64 x.k) (.d (.k .a))) (.i (.blk g 59 [.bool true, .int .i64 most, .int .i64 (↑used : Int), .slice (some ⟨g0, o0, none⟩) l.length c]) (.d (.k (.k (.i (.blk g1 28 [.int .i64 v.k, .int .i64 v.n, .string (mkS v.s)]) (.i (.blk g2 28 [.int .i64 x.k, .int .i64 x.n, .string (mkS x.s)]) .z)))))) [0] ?_
      refine TK 10 [(2, []), (3, [])] (.i 25 (.bool (x.k == 0)) (.d (.k .a))) (#[true, true, true, true, false, false, false, false, false, false, false, false, false, false]) ?_
      refine SA 25 (x.k == 0) false (by simp only [bne_eq_false_iff_eq, beq_eq_false_iff_ne, ne_eq]; omega) ?_
      refine TK 5 [(5, []), (6, []), (7, []), (8, [0]), (9, [])] (.i 31 (.int .i64 (↑l.length : Int)) (.k (.d (.k (.k (.k (.d (.k .a)))))))) (#[true, true, true, true, false, true, true, true, true, true, false, false, false, false]) ?_
      refine AO 4 4 [4, 4, 4] (.i 26 (.agg #[.int .i64 x.k, .int .i64 x.n, .string (mkS x.s)]) .a) (.i (.blk g 59 [.bool true, .int .i64 most, .int .i64 (↑used : Int), .slice (some ⟨g0, o0, none⟩) l.length c]) (.d (.k (.k (.i (.blk g1 28 [.int .i64 v.k, .int .i64 v.n, .string (mkS v.s)]) (.i (.blk g2 28 [.int .i64 x.k, .int .i64 x.n, .string (mkS x.s)]) .z)))))) [0] ?_
      refine AC (dst := some 32) 3 10 (.i (.blk g 59 [.bool true, .int .i64 most, .int .i64 (↑used : Int), .slice (some ⟨g0, o0, none⟩) l.length c]) (.d (.k (.k (.i (.blk g1 28 [.int .i64 v.k, .int .i64 v.n, .string (mkS v.s)]) (.i (.blk g2 28 [.int .i64 x.k, .int .i64 x.n, .string (mkS x.s)]) .z)))))) (hck) (GI []) [0] ?_
      rintro r _ ⟨rfl, rfl⟩
      cases hrx : rightB x l.length with
      | false =>
        have hcx : cellB l.length x = false := by simp [cellB, hrx]
        refine TK 0 [(11, []), (12, []), (13, [])] (.i 21 (.bool true) (.d (.d (.d (.d (.k .a)))))) (#[true, true, true, true, true, true, true, true, true, true, true, true, true, true]) ?_
        refine wpa_done 0 (by kernel_rfl) ?_
        refine NT (CT (SQ (RG ?_)))
        refine RR [] .z (.i 8 (.int .i64 2) (.d (.k (.d (.k .a))))) (.i (.blk g 59 [.bool true, .int .i64 most, .int .i64 (↑used : Int), .slice (some ⟨g0, o0, none⟩) l.length c]) (.d (.k (.k (.i (.blk g1 28 [.int .i64 v.k, .int .i64 v.n, .string (mkS v.s)]) (.i (.blk g2 28 [.int .i64 x.k, .int .i64 x.n, .string (mkS x.s)]) .z)))))) ?_
        refine RZ (NT (RE (BR (TR ?_))))
        refine NE [0, 0, 0] (.i (.blk g 59 [.bool true, .int .i64 most, .int .i64 (↑used : Int), .slice (some ⟨g0, o0, none⟩) l.length c]) (.d (.k (.k .z)))) (.i (.blk g1 28 [.int .i64 v.k, .int .i64 v.n, .string (mkS v.s)]) (.i (.blk g2 28 [.int .i64 x.k, .int .i64 x.n, .string (mkS x.s)]) .z)) [] (.int .i64 2) ?_
        rw [setR_no (by rw [hcx]; simp)]
        exact ⟨rfl, l, rfl, rfl⟩
      | true =>
        have hcx : cellB l.length x = true := by simp [cellB, hrx, hk]
        by_cases h0 : 0 ≤ i
        · by_cases h1 : i < l[v.n.toNat].cells.length
          · obtain ⟨j, rfl⟩ : ∃ j : Nat, i = j := ⟨i.toNat, by omega⟩
            have hi2 : j < l[v.n.toNat].cells.length := by omega
            refine wpa_fact (fun w h => star_addr h 2 rfl (obRow_in hq) (by omega)) ?_
            rintro ⟨gc, oc, hac⟩
            refine TK 0 [(11, []), (12, []), (13, [])] (.i 21 (.bool false) (.d (.d (.d (.d (.k .a)))))) (#[true, true, true, true, true, true, true, true, true, true, true, true, true, true]) ?_
            refine wpa_done 0 (by kernel_rfl) ?_
            refine NT (CF (SQ (RG ?_)))
            refine RR [] (.d (.d (.d (.d (.d (.d (.d .a))))))) (.i 42 (.pointer (some ⟨g0, o0 + v.n.toNat * 2 + 1, none⟩)) (.i 39 (.int .i64 (↑j : Int)) (.i 38 (.bool false) (.d (.k .a))))) (.i (.blk g 59 [.bool true, .int .i64 most, .int .i64 (↑used : Int), .slice (some ⟨g0, o0, none⟩) l.length c]) (.d (.k (.k (.i (.blk g1 28 [.int .i64 v.k, .int .i64 v.n, .string (mkS v.s)]) (.i (.blk g2 28 [.int .i64 x.k, .int .i64 x.n, .string (mkS x.s)]) .z)))))) ?_
            refine wpr_eq (ld (t := 25) (a := ⟨g0, o0 + v.n.toNat * 2 + 1, none⟩) (dst := some 43) (by kernel_rfl) false 1 (by kernel_rfl) (by simp) [.slice l[v.n.toNat].a l[v.n.toNat].cells.length l[v.n.toNat].c] rfl (fun w h => ld_row h 1 rfl (v.n.toNat * 2 + 1) (obj_cells hq))) ?_
            refine RR [] .z (.i 35 (.bool (decide ((↑j : Int) ≥ (↑l[v.n.toNat].cells.length : Int)))) (.d (.d (.d (.d (.k .a)))))) (.i (.blk g 59 [.bool true, .int .i64 most, .int .i64 (↑used : Int), .slice (some ⟨g0, o0, none⟩) l.length c]) (.d (.k (.k (.i (.blk g1 28 [.int .i64 v.k, .int .i64 v.n, .string (mkS v.s)]) (.i (.blk g2 28 [.int .i64 x.k, .int .i64 x.n, .string (mkS x.s)]) .z)))))) ?_
            refine RZ (NT ?_)
            refine SC 35 (decide ((↑j : Int) ≥ (↑l[v.n.toNat].cells.length : Int))) false (decide_eq_false (by omega)) ?_
            refine CF (SK (BN (NT (SQ ?_))))
            refine wpc_draw (by kernel_rfl) [row 43 2 (some ⟨g0, o0, none⟩) l.length c (List.flatMap objC l), .blk g2 28 [.int .i64 x.k, .int .i64 x.n, .string (mkS x.s)]] (sub_of [1, 4] (by kernel_rfl)) 8 (by kernel_rfl) ?_
            refine TK 3 [(0, []), (1, []), (2, []), (4, []), (5, [1, 1, 1])] (.i 52 (.agg #[.int .i64 x.k, .int .i64 x.n, .string (mkS x.s)]) (.i 51 (.int .i64 (↑j : Int)) (.i 49 (.pointer (some ⟨g0, o0 + v.n.toNat * 2 + 1, none⟩)) (.d (.d (.d (.k .z))))))) (#[true, true, true, false, true, true, false, false]) ?_
            refine wpa_qld (i := 3) (n := 2) (by kernel_rfl) (by kernel_rfl) (by kernel_rfl) (t := 25) (a := ⟨g0, o0 + v.n.toNat * 2 + 1, none⟩) (dst := some 50) (by kernel_rfl) false 1 (by kernel_rfl) (by simp) [.slice (some ⟨gc, oc, none⟩) l[v.n.toNat].cells.length l[v.n.toNat].c] rfl (fun w h => ld_rowL h 0 rfl (v.n.toNat * 2 + 1) ((obj_cells hq).trans (by rw [hac]))) ?_
            refine wpa_take true [(6, [])] ([(53, .pointer (some ⟨gc, oc + j * 3, none⟩)), (52, .agg #[.int .i64 x.k, .int .i64 x.n, .string (mkS x.s)]), (8, .int .i64 0)]) (#[true, true, true, true, true, true, true, false]) [(0 : Int) ≤ (↑j : Int) ∧ (↑j : Int) < (↑l[v.n.toNat].cells.length : Int)] (n := 1) (by kernel_rfl) (by kernel_rfl) (by kernel_rfl) ⟨by first | omega | decide | (simp; done), trivial⟩ ?_
            refine wpa_ent (Ent.trans (ent_perm (List.perm_middle (l₁ := [_, _]))) (ent_star_take v.n.toNat (obRow_at hq hac))) ?_
            refine wpa_eq (i := 7) (n := 0) (by kernel_rfl) (stq' (t := 28) (g := gc) (off := oc) (q := (j * 3)) (v := (.agg #[.int .i64 x.k, .int .i64 x.n, .string (mkS x.s)])) (dst := none) (by kernel_rfl) 0 (T := 28) (sz := 3) (n := (l[v.n.toNat].cells.length)) (cap := (l[v.n.toNat].c)) (xs := (List.flatMap valC l[v.n.toNat].cells)) (by kernel_rfl) [.int .i64 x.k, .int .i64 x.n, .string (mkS x.s)] (by kernel_rfl) (by kernel_rfl) (by simp [Go.Sx.One, Value.oneCell']) (by rw [vals_len]; show _ + 3 ≤ _; omega) (xs' := ((l[v.n.toNat].cells.set j x).flatMap valC)) (by rw [vals_set hi2, List.append_assoc]; rfl)) (sub_of [3, 5] (by kernel_rfl)) ?_
            refine wpa_done 0 (by kernel_rfl) ?_
            refine NT (SQ (RG ?_))
            refine RR [] .z (.d (.d (.k .a))) (.k (.k (.i (.blk g 59 [.bool true, .int .i64 most, .int .i64 (↑used : Int), .slice (some ⟨g0, o0, none⟩) l.length c]) (.d (.k (.i (.blk g1 28 [.int .i64 v.k, .int .i64 v.n, .string (mkS v.s)]) (.i (.blk g2 28 [.int .i64 x.k, .int .i64 x.n, .string (mkS x.s)]) .z))))))) ?_
            refine RZ (NT (RE ?_))
            obtain ⟨o', ho'⟩ : ∃ o', o' = Ob.mk l[v.n.toNat].tag l[v.n.toNat].a l[v.n.toNat].c (l[v.n.toNat].cells.set j x) := ⟨_, rfl⟩
            have hrow : row 28 3 (some (Addr.mk gc oc none)) l[v.n.toNat].cells.length l[v.n.toNat].c ((l[v.n.toNat].cells.set j x).flatMap valC) = obRow o' := by
              rw [ho']; unfold obRow; dsimp only; rw [List.length_set, hac]
            have hobj : objC o' = objC l[v.n.toNat] := by rw [ho']; unfold objC; dsimp only; rw [List.length_set]
            rw [hrow]
            refine nx_ent (ent_star_put v.n.toNat (by rw [List.length_map]; exact hq) trivial) ?_
            rw [← List.map_set]
            refine NE [1, 1, 0] (.i (.blk g 59 [.bool true, .int .i64 most, .int .i64 (↑used : Int), .slice (some ⟨g0, o0, none⟩) l.length c]) (.i (row 43 2 (some ⟨g0, o0, none⟩) l.length c (List.flatMap objC l)) (.k .z))) (.i (.blk g1 28 [.int .i64 v.k, .int .i64 v.n, .string (mkS v.s)]) (.i (.blk g2 28 [.int .i64 x.k, .int .i64 x.n, .string (mkS x.s)]) .z)) [] (.int .i64 0) ?_
            rw [setR_in hr hcx hq hi2, ← ho']
            exact ⟨rfl, l.set v.n.toNat o', rfl, by rw [List.length_set, objs_set hq hobj]⟩
          · have hin : inB i l[v.n.toNat].cells.length = false := by simp [inB, h1]
            refine TK 0 [(11, []), (12, []), (13, [])] (.i 21 (.bool false) (.d (.d (.d (.d (.k .a)))))) (#[true, true, true, true, true, true, true, true, true, true, true, true, true, true]) ?_
            refine wpa_done 0 (by kernel_rfl) ?_
            refine NT (CF (SQ (RG ?_)))
            refine RR [] (.d (.d (.d .a))) (.i 38 (.bool (decide (i < 0))) (.d (.k .a))) (.i (.blk g 59 [.bool true, .int .i64 most, .int .i64 (↑used : Int), .slice (some ⟨g0, o0, none⟩) l.length c]) (.d (.k (.k (.i (.blk g1 28 [.int .i64 v.k, .int .i64 v.n, .string (mkS v.s)]) (.i (.blk g2 28 [.int .i64 x.k, .int .i64 x.n, .string (mkS x.s)]) .z)))))) ?_
            refine SR 38 (decide (i < 0)) false (decide_eq_false (by omega)) ?_
            refine RR [] (.d (.d (.d (.d .a)))) (.i 42 (.pointer (some ⟨g0, o0 + v.n.toNat * 2 + 1, none⟩)) (.i 39 (.int .i64 i) (.k (.d (.k .a))))) (.i (.blk g 59 [.bool true, .int .i64 most, .int .i64 (↑used : Int), .slice (some ⟨g0, o0, none⟩) l.length c]) (.d (.k (.k (.i (.blk g1 28 [.int .i64 v.k, .int .i64 v.n, .string (mkS v.s)]) (.i (.blk g2 28 [.int .i64 x.k, .int .i64 x.n, .string (mkS x.s)]) .z)))))) ?_
            refine wpr_eq (ld (t := 25) (a := ⟨g0, o0 + v.n.toNat * 2 + 1, none⟩) (dst := some 43) (by kernel_rfl) false 1 (by kernel_rfl) (by simp) [.slice l[v.n.toNat].a l[v.n.toNat].cells.length l[v.n.toNat].c] rfl (fun w h => ld_row h 1 rfl (v.n.toNat * 2 + 1) (obj_cells hq))) ?_
            refine RR [] .z (.i 35 (.bool (decide (i ≥ (↑l[v.n.toNat].cells.length : Int)))) (.d (.d (.d (.d (.k .a)))))) (.i (.blk g 59 [.bool true, .int .i64 most, .int .i64 (↑used : Int), .slice (some ⟨g0, o0, none⟩) l.length c]) (.d (.k (.k (.i (.blk g1 28 [.int .i64 v.k, .int .i64 v.n, .string (mkS v.s)]) (.i (.blk g2 28 [.int .i64 x.k, .int .i64 x.n, .string (mkS x.s)]) .z)))))) ?_
            refine RZ (NT ?_)
            refine SC 35 (decide (i ≥ (↑l[v.n.toNat].cells.length : Int))) true (decide_eq_true (by omega)) ?_
            refine CT (SQ (RG ?_))
            refine RR [] .z (.i 8 (.int .i64 10) (.d (.d (.k (.d (.k .a)))))) (.i (.blk g 59 [.bool true, .int .i64 most, .int .i64 (↑used : Int), .slice (some ⟨g0, o0, none⟩) l.length c]) (.d (.k (.k (.i (.blk g1 28 [.int .i64 v.k, .int .i64 v.n, .string (mkS v.s)]) (.i (.blk g2 28 [.int .i64 x.k, .int .i64 x.n, .string (mkS x.s)]) .z)))))) ?_
            refine RZ (NT (RE (BR (TR ?_))))
            refine NE [0, 0, 0] (.i (.blk g 59 [.bool true, .int .i64 most, .int .i64 (↑used : Int), .slice (some ⟨g0, o0, none⟩) l.length c]) (.d (.k (.k .z)))) (.i (.blk g1 28 [.int .i64 v.k, .int .i64 v.n, .string (mkS v.s)]) (.i (.blk g2 28 [.int .i64 x.k, .int .i64 x.n, .string (mkS x.s)]) .z)) [] (.int .i64 10) ?_
            rw [setR_out hr hcx hq hin]
            exact ⟨rfl, l, rfl, rfl⟩
        · have hin : inB i l[v.n.toNat].cells.length = false := by simp [inB, h0]
          refine TK 0 [(11, []), (12, []), (13, [])] (.i 21 (.bool false) (.d (.d (.d (.d (.k .a)))))) (#[true, true, true, true, true, true, true, true, true, true, true, true, true, true]) ?_
          refine wpa_done 0 (by kernel_rfl) ?_
          refine NT (CF (SQ (RG ?_)))
          refine RR [] (.d (.d (.d .a))) (.i 38 (.bool (decide (i < 0))) (.d (.k .a))) (.i (.blk g 59 [.bool true, .int .i64 most, .int .i64 (↑used : Int), .slice (some ⟨g0, o0, none⟩) l.length c]) (.d (.k (.k (.i (.blk g1 28 [.int .i64 v.k, .int .i64 v.n, .string (mkS v.s)]) (.i (.blk g2 28 [.int .i64 x.k, .int .i64 x.n, .string (mkS x.s)]) .z)))))) ?_
          refine SR 38 (decide (i < 0)) true (decide_eq_true (by omega)) ?_
          refine RR [] .z (.i 35 (.bool true) (.d (.d (.k .a)))) (.i (.blk g 59 [.bool true, .int .i64 most, .int .i64 (↑used : Int), .slice (some ⟨g0, o0, none⟩) l.length c]) (.d (.k (.k (.i (.blk g1 28 [.int .i64 v.k, .int .i64 v.n, .string (mkS v.s)]) (.i (.blk g2 28 [.int .i64 x.k, .int .i64 x.n, .string (mkS x.s)]) .z)))))) ?_
          refine RZ (NT (CT (SQ (RG ?_))))
          refine RR [] .z (.i 8 (.int .i64 10) (.d (.k (.d (.k .a))))) (.i (.blk g 59 [.bool true, .int .i64 most, .int .i64 (↑used : Int), .slice (some ⟨g0, o0, none⟩) l.length c]) (.d (.k (.k (.i (.blk g1 28 [.int .i64 v.k, .int .i64 v.n, .string (mkS v.s)]) (.i (.blk g2 28 [.int .i64 x.k, .int .i64 x.n, .string (mkS x.s)]) .z)))))) ?_
          refine RZ (NT (RE (BR (TR ?_))))
          refine NE [0, 0, 0] (.i (.blk g 59 [.bool true, .int .i64 most, .int .i64 (↑used : Int), .slice (some ⟨g0, o0, none⟩) l.length c]) (.d (.k (.k .z)))) (.i (.blk g1 28 [.int .i64 v.k, .int .i64 v.n, .string (mkS v.s)]) (.i (.blk g2 28 [.int .i64 x.k, .int .i64 x.n, .string (mkS x.s)]) .z)) [] (.int .i64 10) ?_
          rw [setR_out hr hcx hq hin]
          exact ⟨rfl, l, rfl, rfl⟩
end Go.Proofs.YtpfhleghgkeemaaGreatDoor
