import Derived.Test.YtpfhleghgkeemaaGreatDoorH15
import Derived.Test.YtpfhleghgkeemaaGreatDoorX16
namespace Go.Proofs.YtpfhleghgkeemaaGreatDoor
open Go Go.Sx
set_option linter.unusedSimpArgs false

def setR (l : List O) (v : V) (i : Int) (x : V) : List O × Int :=
  if refB v l.length && cellB l.length x then
    if inB i (objAt l v).2.length then (l.set v.n.toNat ((objAt l v).1, (objAt l v).2.set i.toNat x), 0) else (l, 10) else (l, 2)
theorem setR_no {l : List Ob} {v x : V} {i : Int} (hr : (refB v l.length && cellB l.length x) = false) : setR (l.map Ob.o) v i x = (l.map Ob.o, 2) := by
  unfold setR; rw [List.length_map, hr]; rfl
theorem setR_out {l : List Ob} {v x : V} {i : Int} (hr : refB v l.length = true) (hx : cellB l.length x = true) (hq : v.n.toNat < l.length) (h : inB i l[v.n.toNat].cells.length = false) : setR (l.map Ob.o) v i x = (l.map Ob.o, 10) := by
  unfold setR; rw [List.length_map, hr, hx, objAt_map hq, Bool.and_true, if_pos rfl]; show (if inB i l[v.n.toNat].cells.length = true then _ else _) = _; rw [h]; rfl
theorem setR_in {l : List Ob} {v x : V} {j : Nat} (hr : refB v l.length = true) (hx : cellB l.length x = true) (hq : v.n.toNat < l.length) (h : j < l[v.n.toNat].cells.length) : setR (l.map Ob.o) v j x = ((l.set v.n.toNat (Ob.mk l[v.n.toNat].tag l[v.n.toNat].a l[v.n.toNat].c (l[v.n.toNat].cells.set j x))).map Ob.o, 0) := by
  have hin : inB (j : Int) l[v.n.toNat].cells.length = true := by simp [inB, h]
  unfold setR; rw [List.length_map, hr, hx, objAt_map hq, Bool.and_true, if_pos rfl]; show (if inB (j : Int) l[v.n.toNat].cells.length = true then _ else _) = _
  rw [hin, if_pos rfl, Int.toNat_natCast, List.map_set]; rfl
theorem objs_set {l : List Ob} {q : Nat} {o : Ob} (hq : q < l.length) (h : objC o = objC l[q]) : (l.set q o).flatMap objC = l.flatMap objC := by
  induction l generalizing q with
  | nil => rfl
  | cons b l ih =>
    cases q with
    | zero => simp only [List.set_cons_zero, List.flatMap_cons, List.getElem_cons_zero] at h ⊢; rw [h]
    | succ q => simp only [List.set_cons_succ, List.flatMap_cons, List.getElem_cons_succ] at h ⊢; rw [ih (by simpa using hq) h]
theorem vals_set {l : List V} {q : Nat} {x : V} (hq : q < l.length) : (l.set q x).flatMap valC = (l.flatMap valC).take (q * 3) ++ (valC x ++ (l.flatMap valC).drop (q * 3 + 3)) := by
  induction l generalizing q with
  | nil => cases hq
  | cons b l ih =>
    cases q with
    | zero => rfl
    | succ q =>
      simp only [List.set_cons_succ, List.flatMap_cons]
      rw [ih (by simpa using hq), show (q + 1) * 3 = q * 3 + 3 by omega]
      rfl
theorem ld_rowL {hs : Hp} {w : World} (h : HL hs w) (i : Nat) {T sz n cap g off : Nat} {xs : List Value} (hi : hs[i]? = some (row T sz (some ⟨g, off, none⟩) n cap xs)) (q : Nat) {vs : List Value} (hv : (xs.drop q).take vs.length = vs) : cellsAt w ⟨g, off + q, none⟩ vs :=
  cells_part (row_cells (h _ (List.mem_of_getElem? hi))) hv
theorem obRow_at {l : List Ob} {q g off : Nat} (hq : q < l.length) (ha : l[q].a = some ⟨g, off, none⟩) : (l.map obRow)[q]? = some (row 28 3 (some ⟨g, off, none⟩) l[q].cells.length l[q].c (l[q].cells.flatMap valC)) := by
  rw [List.getElem?_map, List.getElem?_eq_getElem hq, ← ha]; rfl
theorem Set_spec (g : Nat) (most : Int) (used : Nat) (a : Option Addr) (c : Nat) (l : List Ob) (v : V) (i : Int) (x : V) (hl : l.length ≤ 4096) (hv : v.sm) (hx : x.sm) :
    Does Tryz.prog 23 [.pointer (some ⟨g, 0, none⟩), valV v, .int .i64 i, valV x] (Hp3 g most used a c l)
      (fun r hp' => r = .int .i64 (setR (l.map Ob.o) v i x).2 ∧ ∃ l', l'.map Ob.o = (setR (l.map Ob.o) v i x).1 ∧ hp' = Hp3 g most used a c l') := by
  have hob := object_spec g most used a c l v hl hv
  have hck := Check_spec x l.length hx
  unfold heapB heapR at hob
  unfold Hp3 heapB heapR heapS
  refine fn_enter Tryz.func23 rfl 54 rfl fun w0 h0 => ?_
  refine wpc_seq ?_
  refine wpc_region [0, 1, 2] (by kernel_rfl) ?_
  refine wpr_new (l₂ := [1, 2]) true [0] [] (fun g1 => [(5, .pointer (some ⟨g1, 0, none⟩)), (0, .pointer (some ⟨g, 0, none⟩)), (2, .int .i64 i), (3, .agg #[.int .i64 x.k, .int .i64 x.n, .string (mkS x.s)])]) (fun g1 => [.blk g 59 [.bool true, .int .i64 most, .int .i64 (↑used : Int), .slice a l.length c], row 43 2 a l.length c (List.flatMap objC l), star (List.map obRow l), .blk g1 28 [.int .i64 v.k, .int .i64 v.n, .string (mkS v.s)]]) (fun g1 => []) (fun g1 => by kernel_rfl) (fun g1 => by kernel_rfl) (fun g1 => trivial) fun g1 => ?_
  refine wpr_new (l₂ := [2]) true [1] [] (fun g2 => [(7, .pointer (some ⟨g2, 0, none⟩)), (5, .pointer (some ⟨g1, 0, none⟩)), (0, .pointer (some ⟨g, 0, none⟩)), (2, .int .i64 i)]) (fun g2 => [.blk g 59 [.bool true, .int .i64 most, .int .i64 (↑used : Int), .slice a l.length c], row 43 2 a l.length c (List.flatMap objC l), star (List.map obRow l), .blk g1 28 [.int .i64 v.k, .int .i64 v.n, .string (mkS v.s)], .blk g2 28 [.int .i64 x.k, .int .i64 x.n, .string (mkS x.s)]]) (fun g2 => []) (fun g2 => by kernel_rfl) (fun g2 => by kernel_rfl) (fun g2 => trivial) fun g2 => ?_
  refine wpr_run (l₂ := []) true [2] [] [(8, .int .i64 0), (7, .pointer (some ⟨g2, 0, none⟩)), (5, .pointer (some ⟨g1, 0, none⟩)), (0, .pointer (some ⟨g, 0, none⟩)), (2, .int .i64 i)] [.blk g 59 [.bool true, .int .i64 most, .int .i64 (↑used : Int), .slice a l.length c], row 43 2 a l.length c (List.flatMap objC l), star (List.map obRow l), .blk g1 28 [.int .i64 v.k, .int .i64 v.n, .string (mkS v.s)], .blk g2 28 [.int .i64 x.k, .int .i64 x.n, .string (mkS x.s)]] [] (by kernel_rfl) (by kernel_rfl) trivial ?_
  refine wpr_nil (nx_then (wpc_seq ?_))
  refine wpc_region [0, 1, 2, 3, 4, 5, 6, 7] (by kernel_rfl) ?_
  refine wpr_run (l₂ := [2, 3, 4, 5, 6, 7]) true [0, 1] [3, 3, 3] [(13, .agg #[.int .i64 v.k, .int .i64 v.n, .string (mkS v.s)]), (12, .pointer (some ⟨g, 0, none⟩)), (8, .int .i64 0), (7, .pointer (some ⟨g2, 0, none⟩)), (0, .pointer (some ⟨g, 0, none⟩)), (2, .int .i64 i)] [.blk g 59 [.bool true, .int .i64 most, .int .i64 (↑used : Int), .slice a l.length c], row 43 2 a l.length c (List.flatMap objC l), star (List.map obRow l), .blk g1 28 [.int .i64 v.k, .int .i64 v.n, .string (mkS v.s)], .blk g2 28 [.int .i64 x.k, .int .i64 x.n, .string (mkS x.s)]] [] (by kernel_rfl) (by kernel_rfl) trivial ?_
  refine wpr_call (dst := some 14) (rest := [star (List.map obRow l), .blk g1 28 [.int .i64 v.k, .int .i64 v.n, .string (mkS v.s)], .blk g2 28 [.int .i64 x.k, .int .i64 x.n, .string (mkS x.s)]]) (by kernel_rfl) (hob) (give [0, 0] (by kernel_rfl)) ?_
  rintro r _ ⟨h, rfl⟩
  cases hr : refB v l.length with
  | false =>
    rw [hr] at h
    obtain rfl := h
    refine wpr_run (l₂ := []) true [3, 4, 5, 6, 7] [] [(10, .int .i64 2), (9, .pointer none), (8, .int .i64 0), (7, .pointer (some ⟨g2, 0, none⟩)), (0, .pointer (some ⟨g, 0, none⟩)), (2, .int .i64 i)] [.blk g 59 [.bool true, .int .i64 most, .int .i64 (↑used : Int), .slice a l.length c], row 43 2 a l.length c (List.flatMap objC l), star (List.map obRow l), .blk g1 28 [.int .i64 v.k, .int .i64 v.n, .string (mkS v.s)], .blk g2 28 [.int .i64 x.k, .int .i64 x.n, .string (mkS x.s)]] [] (by kernel_rfl) (by kernel_rfl) trivial ?_
    refine wpr_nil (nx_then (wpc_seq ?_))
    refine wpc_block ?_
    refine wpc_seq ?_
    refine wpc_region [0, 1, 2] (by kernel_rfl) ?_
    refine wpr_run (l₂ := []) true [0, 1, 2] [] [(17, .bool true), (10, .int .i64 2), (9, .pointer none), (8, .int .i64 0), (7, .pointer (some ⟨g2, 0, none⟩)), (0, .pointer (some ⟨g, 0, none⟩)), (2, .int .i64 i)] [.blk g 59 [.bool true, .int .i64 most, .int .i64 (↑used : Int), .slice a l.length c], row 43 2 a l.length c (List.flatMap objC l), star (List.map obRow l), .blk g1 28 [.int .i64 v.k, .int .i64 v.n, .string (mkS v.s)], .blk g2 28 [.int .i64 x.k, .int .i64 x.n, .string (mkS x.s)]] [] (by kernel_rfl) (by kernel_rfl) trivial ?_
    refine wpr_nil (nx_then ?_)
    refine wpc_true (by kernel_rfl) ?_
    refine wpc_seq ?_
    refine wpc_region [0, 1] (by kernel_rfl) ?_
    refine wpr_run (l₂ := []) true [0, 1] [] [(8, .int .i64 2), (9, .pointer none), (7, .pointer (some ⟨g2, 0, none⟩)), (2, .int .i64 i)] [.blk g 59 [.bool true, .int .i64 most, .int .i64 (↑used : Int), .slice a l.length c], row 43 2 a l.length c (List.flatMap objC l), star (List.map obRow l), .blk g1 28 [.int .i64 v.k, .int .i64 v.n, .string (mkS v.s)], .blk g2 28 [.int .i64 x.k, .int .i64 x.n, .string (mkS x.s)]] [] (by kernel_rfl) (by kernel_rfl) trivial ?_
    refine wpr_nil (nx_then ?_)
    refine wpc_ret ?_
    refine nx_block_ret ?_
    refine nx_then_ret ?_
    refine nx_end (hp' := [.blk g 59 [.bool true, .int .i64 most, .int .i64 (↑used : Int), .slice a l.length c], row 43 2 a l.length c (List.flatMap objC l), star (List.map obRow l)]) (rest := [.blk g1 28 [.int .i64 v.k, .int .i64 v.n, .string (mkS v.s)], .blk g2 28 [.int .i64 x.k, .int .i64 x.n, .string (mkS x.s)]]) [] ((.int .i64 2)) (by kernel_rfl) (by kernel_rfl) (give [0, 0, 0] (by kernel_rfl)) (by first | ((repeat (first | exact trivial | refine ⟨trivial, ?_⟩)); done) | assumption) ?_ (.inr rfl)
    rw [setR_no (by rw [hr]; rfl)]
    exact ⟨rfl, l, rfl, rfl⟩
  | true =>
    rw [hr, if_pos rfl] at h
    obtain ⟨g0, o0, rfl, rfl⟩ := h
    obtain ⟨_, hs0, hn0, hnl⟩ := refB_lt hr
    have hq : v.n.toNat < l.length := by omega
    by_cases hk : x.k = 0
    · have hcx : cellB l.length x = false := by simp [cellB, hk]
      refine wpr_run (l₂ := []) true [3, 4, 5, 6, 7] [] ([(10, .int .i64 0), (9, .pointer (some ⟨g0, o0 + v.n.toNat * 2, none⟩)), (8, .int .i64 0), (7, .pointer (some ⟨g2, 0, none⟩)), (0, .pointer (some ⟨g, 0, none⟩)), (2, .int .i64 i)]) [.blk g 59 [.bool true, .int .i64 most, .int .i64 (↑used : Int), .slice (some ⟨g0, o0, none⟩) l.length c], row 43 2 (some ⟨g0, o0, none⟩) l.length c (List.flatMap objC l), star (List.map obRow l), .blk g1 28 [.int .i64 v.k, .int .i64 v.n, .string (mkS v.s)], .blk g2 28 [.int .i64 x.k, .int .i64 x.n, .string (mkS x.s)]] [] (by kernel_rfl) (by kernel_rfl) trivial ?_
      refine wpr_nil (nx_then (wpc_seq ?_))
      refine wpc_block ?_
      refine wpc_seq ?_
      refine wpc_region [0, 1, 2] (by kernel_rfl) ?_
      refine wpr_run (l₂ := []) true [0, 1, 2] [] ([(17, .bool false), (10, .int .i64 0), (9, .pointer (some ⟨g0, o0 + v.n.toNat * 2, none⟩)), (8, .int .i64 0), (7, .pointer (some ⟨g2, 0, none⟩)), (0, .pointer (some ⟨g, 0, none⟩)), (2, .int .i64 i)]) [.blk g 59 [.bool true, .int .i64 most, .int .i64 (↑used : Int), .slice (some ⟨g0, o0, none⟩) l.length c], row 43 2 (some ⟨g0, o0, none⟩) l.length c (List.flatMap objC l), star (List.map obRow l), .blk g1 28 [.int .i64 v.k, .int .i64 v.n, .string (mkS v.s)], .blk g2 28 [.int .i64 x.k, .int .i64 x.n, .string (mkS x.s)]] [] (by kernel_rfl) (by kernel_rfl) trivial ?_
      refine wpr_nil (nx_then ?_)
      refine wpc_false (by kernel_rfl) ?_
      refine wpc_seq ?_
      refine wpc_draw (by kernel_rfl) [.blk g 59 [.bool true, .int .i64 most, .int .i64 (↑used : Int), .slice (some ⟨g0, o0, none⟩) l.length c]] (sub_of [0] (by kernel_rfl)) 14 (by kernel_rfl) ?_
      refine wpa_take true [(0, [])] ([(22, .pointer (some ⟨g2, 0, none⟩)), (9, .pointer (some ⟨g0, o0 + v.n.toNat * 2, none⟩)), (8, .int .i64 0), (7, .pointer (some ⟨g2, 0, none⟩)), (0, .pointer (some ⟨g, 0, none⟩)), (2, .int .i64 i)]) (#[true, false, false, false, false, false, false, false, false, false, false, false, false, false]) [] (n := 13) (by kernel_rfl) (by kernel_rfl) (by kernel_rfl) trivial ?_
      refine wpa_one (n := 12) true 1 [4] ([(23, .int .i64 x.k), (9, .pointer (some ⟨g0, o0 + v.n.toNat * 2, none⟩)), (8, .int .i64 0), (7, .pointer (some ⟨g2, 0, none⟩)), (0, .pointer (some ⟨g, 0, none⟩)), (2, .int .i64 i)]) [.blk g 59 [.bool true, .int .i64 most, .int .i64 (↑used : Int), .slice (some ⟨g0, o0, none⟩) l.length c], row 43 2 (some ⟨g0, o0, none⟩) l.length c (List.flatMap objC l), star (List.map obRow l), .blk g1 28 [.int .i64 v.k, .int .i64 v.n, .string (mkS v.s)], .blk g2 28 [.int .i64 x.k, .int .i64 x.n, .string (mkS x.s)]] [] (by kernel_rfl) (by kernel_rfl) (by kernel_rfl) trivial (sub_of [0] (by kernel_rfl)) ?_
      refine wpa_take true [(2, []), (3, [])] ([(25, .bool (x.k == 0)), (9, .pointer (some ⟨g0, o0 + v.n.toNat * 2, none⟩)), (8, .int .i64 0), (7, .pointer (some ⟨g2, 0, none⟩)), (0, .pointer (some ⟨g, 0, none⟩)), (2, .int .i64 i)]) (#[true, true, true, true, false, false, false, false, false, false, false, false, false, false]) [] (n := 10) (by kernel_rfl) (by kernel_rfl) (by kernel_rfl) trivial ?_
      refine wpa_ent (ent_set 25 (.bool (x.k == 0)) (.bool true) (by kernel_rfl) (congrArg _ (by simp only [bne_iff_ne, beq_iff_eq, ne_eq]; omega))) ?_
      refine wpa_take true [(4, []), (5, []), (6, []), (7, []), (8, []), (9, []), (10, []), (11, []), (12, []), (13, [])] ([(21, .bool true), (9, .pointer (some ⟨g0, o0 + v.n.toNat * 2, none⟩)), (8, .int .i64 0), (7, .pointer (some ⟨g2, 0, none⟩)), (2, .int .i64 i)]) (#[true, true, true, true, true, true, true, true, true, true, true, true, true, true]) [] (n := 0) (by kernel_rfl) (by kernel_rfl) (by kernel_rfl) trivial ?_
      refine wpa_done 0 (by kernel_rfl) ?_
      refine nx_then ?_
      refine wpc_true (by kernel_rfl) ?_
      refine wpc_seq ?_
      refine wpc_region [0] (by kernel_rfl) ?_
      refine wpr_run (l₂ := []) true [0] [] ([(8, .int .i64 2), (9, .pointer (some ⟨g0, o0 + v.n.toNat * 2, none⟩)), (7, .pointer (some ⟨g2, 0, none⟩)), (2, .int .i64 i)]) [.blk g 59 [.bool true, .int .i64 most, .int .i64 (↑used : Int), .slice (some ⟨g0, o0, none⟩) l.length c], row 43 2 (some ⟨g0, o0, none⟩) l.length c (List.flatMap objC l), star (List.map obRow l), .blk g1 28 [.int .i64 v.k, .int .i64 v.n, .string (mkS v.s)], .blk g2 28 [.int .i64 x.k, .int .i64 x.n, .string (mkS x.s)]] [] (by kernel_rfl) (by kernel_rfl) trivial ?_
      refine wpr_nil (nx_then ?_)
      refine wpc_ret ?_
      refine nx_block_ret ?_
      refine nx_then_ret ?_
      refine nx_end (hp' := [.blk g 59 [.bool true, .int .i64 most, .int .i64 (↑used : Int), .slice (some ⟨g0, o0, none⟩) l.length c], row 43 2 (some ⟨g0, o0, none⟩) l.length c (List.flatMap objC l), star (List.map obRow l)]) (rest := [.blk g1 28 [.int .i64 v.k, .int .i64 v.n, .string (mkS v.s)], .blk g2 28 [.int .i64 x.k, .int .i64 x.n, .string (mkS x.s)]]) [] ((.int .i64 2)) (by kernel_rfl) (by kernel_rfl) (give [0, 0, 0] (by kernel_rfl)) (by first | ((repeat (first | exact trivial | refine ⟨trivial, ?_⟩)); done) | assumption) ?_ (.inr rfl)
      rw [setR_no (by rw [hcx]; simp)]
      exact ⟨rfl, l, rfl, rfl⟩
    · refine wpr_run (l₂ := []) true [3, 4, 5, 6, 7] [] ([(10, .int .i64 0), (9, .pointer (some ⟨g0, o0 + v.n.toNat * 2, none⟩)), (8, .int .i64 0), (7, .pointer (some ⟨g2, 0, none⟩)), (0, .pointer (some ⟨g, 0, none⟩)), (2, .int .i64 i)]) [.blk g 59 [.bool true, .int .i64 most, .int .i64 (↑used : Int), .slice (some ⟨g0, o0, none⟩) l.length c], row 43 2 (some ⟨g0, o0, none⟩) l.length c (List.flatMap objC l), star (List.map obRow l), .blk g1 28 [.int .i64 v.k, .int .i64 v.n, .string (mkS v.s)], .blk g2 28 [.int .i64 x.k, .int .i64 x.n, .string (mkS x.s)]] [] (by kernel_rfl) (by kernel_rfl) trivial ?_
      refine wpr_nil (nx_then (wpc_seq ?_))
      refine wpc_block ?_
      refine wpc_seq ?_
      refine wpc_region [0, 1, 2] (by kernel_rfl) ?_
      refine wpr_run (l₂ := []) true [0, 1, 2] [] ([(17, .bool false), (10, .int .i64 0), (9, .pointer (some ⟨g0, o0 + v.n.toNat * 2, none⟩)), (8, .int .i64 0), (7, .pointer (some ⟨g2, 0, none⟩)), (0, .pointer (some ⟨g, 0, none⟩)), (2, .int .i64 i)]) [.blk g 59 [.bool true, .int .i64 most, .int .i64 (↑used : Int), .slice (some ⟨g0, o0, none⟩) l.length c], row 43 2 (some ⟨g0, o0, none⟩) l.length c (List.flatMap objC l), star (List.map obRow l), .blk g1 28 [.int .i64 v.k, .int .i64 v.n, .string (mkS v.s)], .blk g2 28 [.int .i64 x.k, .int .i64 x.n, .string (mkS x.s)]] [] (by kernel_rfl) (by kernel_rfl) trivial ?_
      refine wpr_nil (nx_then ?_)
      refine wpc_false (by kernel_rfl) ?_
      refine wpc_seq ?_
      refine wpc_draw (by kernel_rfl) [.blk g 59 [.bool true, .int .i64 most, .int .i64 (↑used : Int), .slice (some ⟨g0, o0, none⟩) l.length c]] (sub_of [0] (by kernel_rfl)) 14 (by kernel_rfl) ?_
      refine wpa_take true [(0, [])] ([(22, .pointer (some ⟨g2, 0, none⟩)), (9, .pointer (some ⟨g0, o0 + v.n.toNat * 2, none⟩)), (8, .int .i64 0), (7, .pointer (some ⟨g2, 0, none⟩)), (0, .pointer (some ⟨g, 0, none⟩)), (2, .int .i64 i)]) (#[true, false, false, false, false, false, false, false, false, false, false, false, false, false]) [] (n := 13) (by kernel_rfl) (by kernel_rfl) (by kernel_rfl) trivial ?_
      refine wpa_one (n := 12) true 1 [4] ([(23, .int .i64 x.k), (9, .pointer (some ⟨g0, o0 + v.n.toNat * 2, none⟩)), (8, .int .i64 0), (7, .pointer (some ⟨g2, 0, none⟩)), (0, .pointer (some ⟨g, 0, none⟩)), (2, .int .i64 i)]) [.blk g 59 [.bool true, .int .i64 most, .int .i64 (↑used : Int), .slice (some ⟨g0, o0, none⟩) l.length c], row 43 2 (some ⟨g0, o0, none⟩) l.length c (List.flatMap objC l), star (List.map obRow l), .blk g1 28 [.int .i64 v.k, .int .i64 v.n, .string (mkS v.s)], .blk g2 28 [.int .i64 x.k, .int .i64 x.n, .string (mkS x.s)]] [] (by kernel_rfl) (by kernel_rfl) (by kernel_rfl) trivial (sub_of [0] (by kernel_rfl)) ?_
      refine wpa_take true [(2, []), (3, [])] ([(25, .bool (x.k == 0)), (9, .pointer (some ⟨g0, o0 + v.n.toNat * 2, none⟩)), (8, .int .i64 0), (7, .pointer (some ⟨g2, 0, none⟩)), (0, .pointer (some ⟨g, 0, none⟩)), (2, .int .i64 i)]) (#[true, true, true, true, false, false, false, false, false, false, false, false, false, false]) [] (n := 10) (by kernel_rfl) (by kernel_rfl) (by kernel_rfl) trivial ?_
      refine wpa_ent (ent_set 25 (.bool (x.k == 0)) (.bool false) (by kernel_rfl) (congrArg _ (by simp only [bne_eq_false_iff_eq, beq_eq_false_iff_ne, ne_eq]; omega))) ?_
      refine wpa_take true [(5, []), (6, []), (7, []), (8, [0]), (9, [])] ([(31, .int .i64 (↑l.length : Int)), (25, .bool false), (9, .pointer (some ⟨g0, o0 + v.n.toNat * 2, none⟩)), (8, .int .i64 0), (7, .pointer (some ⟨g2, 0, none⟩)), (2, .int .i64 i)]) (#[true, true, true, true, false, true, true, true, true, true, false, false, false, false]) [] (n := 5) (by kernel_rfl) (by kernel_rfl) (by kernel_rfl) trivial ?_
      refine wpa_one (n := 4) true 4 [4, 4, 4] ([(26, .agg #[.int .i64 x.k, .int .i64 x.n, .string (mkS x.s)]), (31, .int .i64 (↑l.length : Int)), (25, .bool false), (9, .pointer (some ⟨g0, o0 + v.n.toNat * 2, none⟩)), (8, .int .i64 0), (7, .pointer (some ⟨g2, 0, none⟩)), (2, .int .i64 i)]) [.blk g 59 [.bool true, .int .i64 most, .int .i64 (↑used : Int), .slice (some ⟨g0, o0, none⟩) l.length c], row 43 2 (some ⟨g0, o0, none⟩) l.length c (List.flatMap objC l), star (List.map obRow l), .blk g1 28 [.int .i64 v.k, .int .i64 v.n, .string (mkS v.s)], .blk g2 28 [.int .i64 x.k, .int .i64 x.n, .string (mkS x.s)]] [] (by kernel_rfl) (by kernel_rfl) (by kernel_rfl) trivial (sub_of [0] (by kernel_rfl)) ?_
      refine wpa_call (i := 10) (n := 3) (dst := some 32) (rest := [.blk g 59 [.bool true, .int .i64 most, .int .i64 (↑used : Int), .slice (some ⟨g0, o0, none⟩) l.length c], row 43 2 (some ⟨g0, o0, none⟩) l.length c (List.flatMap objC l), star (List.map obRow l), .blk g1 28 [.int .i64 v.k, .int .i64 v.n, .string (mkS v.s)], .blk g2 28 [.int .i64 x.k, .int .i64 x.n, .string (mkS x.s)]]) (by kernel_rfl) (by kernel_rfl) (hck) (give [] (by kernel_rfl)) (sub_of [0] (by kernel_rfl)) ?_
      rintro r _ ⟨rfl, rfl⟩
      cases hrx : rightB x l.length with
      | false =>
        have hcx : cellB l.length x = false := by simp [cellB, hrx]
        refine wpa_take true [(11, []), (12, []), (13, [])] ([(21, .bool true), (9, .pointer (some ⟨g0, o0 + v.n.toNat * 2, none⟩)), (8, .int .i64 0), (7, .pointer (some ⟨g2, 0, none⟩)), (2, .int .i64 i)]) (#[true, true, true, true, true, true, true, true, true, true, true, true, true, true]) [] (n := 0) (by kernel_rfl) (by kernel_rfl) (by kernel_rfl) trivial ?_
        refine wpa_done 0 (by kernel_rfl) ?_
        refine nx_then ?_
        refine wpc_true (by kernel_rfl) ?_
        refine wpc_seq ?_
        refine wpc_region [0] (by kernel_rfl) ?_
        refine wpr_run (l₂ := []) true [0] [] ([(8, .int .i64 2), (9, .pointer (some ⟨g0, o0 + v.n.toNat * 2, none⟩)), (7, .pointer (some ⟨g2, 0, none⟩)), (2, .int .i64 i)]) [.blk g 59 [.bool true, .int .i64 most, .int .i64 (↑used : Int), .slice (some ⟨g0, o0, none⟩) l.length c], row 43 2 (some ⟨g0, o0, none⟩) l.length c (List.flatMap objC l), star (List.map obRow l), .blk g1 28 [.int .i64 v.k, .int .i64 v.n, .string (mkS v.s)], .blk g2 28 [.int .i64 x.k, .int .i64 x.n, .string (mkS x.s)]] [] (by kernel_rfl) (by kernel_rfl) trivial ?_
        refine wpr_nil (nx_then ?_)
        refine wpc_ret ?_
        refine nx_block_ret ?_
        refine nx_then_ret ?_
        refine nx_end (hp' := [.blk g 59 [.bool true, .int .i64 most, .int .i64 (↑used : Int), .slice (some ⟨g0, o0, none⟩) l.length c], row 43 2 (some ⟨g0, o0, none⟩) l.length c (List.flatMap objC l), star (List.map obRow l)]) (rest := [.blk g1 28 [.int .i64 v.k, .int .i64 v.n, .string (mkS v.s)], .blk g2 28 [.int .i64 x.k, .int .i64 x.n, .string (mkS x.s)]]) [] ((.int .i64 2)) (by kernel_rfl) (by kernel_rfl) (give [0, 0, 0] (by kernel_rfl)) (by first | ((repeat (first | exact trivial | refine ⟨trivial, ?_⟩)); done) | assumption) ?_ (.inr rfl)
        rw [setR_no (by rw [hcx]; simp)]
        exact ⟨rfl, l, rfl, rfl⟩
      | true =>
        have hcx : cellB l.length x = true := by simp [cellB, hrx, hk]
        by_cases h0 : 0 ≤ i
        · by_cases h1 : i < l[v.n.toNat].cells.length
          · obtain ⟨j, rfl⟩ : ∃ j : Nat, i = j := ⟨i.toNat, by omega⟩
            have hi2 : j < l[v.n.toNat].cells.length := by omega
            refine wpa_fact (fun w h => star_addr h 2 rfl (obRow_in hq) (by omega)) ?_
            rintro ⟨gc, oc, hac⟩
            refine wpa_take true [(11, []), (12, []), (13, [])] ([(21, .bool false), (9, .pointer (some ⟨g0, o0 + v.n.toNat * 2, none⟩)), (8, .int .i64 0), (7, .pointer (some ⟨g2, 0, none⟩)), (2, .int .i64 (↑j : Int))]) (#[true, true, true, true, true, true, true, true, true, true, true, true, true, true]) [] (n := 0) (by kernel_rfl) (by kernel_rfl) (by kernel_rfl) trivial ?_
            refine wpa_done 0 (by kernel_rfl) ?_
            refine nx_then ?_
            refine wpc_false (by kernel_rfl) ?_
            refine wpc_seq ?_
            refine wpc_region [0, 1, 2, 3, 4, 5, 6, 7, 8, 9, 10, 11] (by kernel_rfl) ?_
            refine wpr_run (l₂ := [7, 8, 9, 10, 11]) true [0, 1, 2, 3, 4, 5, 6] [] ([(42, .pointer (some ⟨g0, o0 + v.n.toNat * 2 + 1, none⟩)), (39, .int .i64 (↑j : Int)), (38, .bool false), (9, .pointer (some ⟨g0, o0 + v.n.toNat * 2, none⟩)), (8, .int .i64 0), (7, .pointer (some ⟨g2, 0, none⟩)), (2, .int .i64 (↑j : Int))]) [.blk g 59 [.bool true, .int .i64 most, .int .i64 (↑used : Int), .slice (some ⟨g0, o0, none⟩) l.length c], row 43 2 (some ⟨g0, o0, none⟩) l.length c (List.flatMap objC l), star (List.map obRow l), .blk g1 28 [.int .i64 v.k, .int .i64 v.n, .string (mkS v.s)], .blk g2 28 [.int .i64 x.k, .int .i64 x.n, .string (mkS x.s)]] [] (by kernel_rfl) (by kernel_rfl) trivial ?_
            refine wpr_eq (ld (t := 25) (a := ⟨g0, o0 + v.n.toNat * 2 + 1, none⟩) (dst := some 43) (by kernel_rfl) false 1 (by kernel_rfl) (by simp) [.slice l[v.n.toNat].a l[v.n.toNat].cells.length l[v.n.toNat].c] rfl (fun w h => ld_row h 1 rfl (v.n.toNat * 2 + 1) (obj_cells hq))) ?_
            refine wpr_run (l₂ := []) true [8, 9, 10, 11] [] ([(35, .bool (decide ((↑j : Int) ≥ (↑l[v.n.toNat].cells.length : Int)))), (9, .pointer (some ⟨g0, o0 + v.n.toNat * 2, none⟩)), (8, .int .i64 0), (7, .pointer (some ⟨g2, 0, none⟩)), (2, .int .i64 (↑j : Int))]) [.blk g 59 [.bool true, .int .i64 most, .int .i64 (↑used : Int), .slice (some ⟨g0, o0, none⟩) l.length c], row 43 2 (some ⟨g0, o0, none⟩) l.length c (List.flatMap objC l), star (List.map obRow l), .blk g1 28 [.int .i64 v.k, .int .i64 v.n, .string (mkS v.s)], .blk g2 28 [.int .i64 x.k, .int .i64 x.n, .string (mkS x.s)]] [] (by kernel_rfl) (by kernel_rfl) trivial ?_
            refine wpr_nil (nx_then ?_)
            refine wpc_ent (ent_set 35 (.bool (decide ((↑j : Int) ≥ (↑l[v.n.toNat].cells.length : Int)))) (.bool false) (by kernel_rfl) (congrArg _ (decide_eq_false (by omega)))) ?_
            refine wpc_false (by kernel_rfl) ?_
            refine wpc_skip ?_
            refine nx_block (nx_then (wpc_seq ?_))
            refine wpc_draw (by kernel_rfl) [row 43 2 (some ⟨g0, o0, none⟩) l.length c (List.flatMap objC l), .blk g2 28 [.int .i64 x.k, .int .i64 x.n, .string (mkS x.s)]] (sub_of [1, 4] (by kernel_rfl)) 8 (by kernel_rfl) ?_
            refine wpa_take true [(0, []), (1, []), (2, []), (4, []), (5, [1, 1, 1])] ([(52, .agg #[.int .i64 x.k, .int .i64 x.n, .string (mkS x.s)]), (51, .int .i64 (↑j : Int)), (49, .pointer (some ⟨g0, o0 + v.n.toNat * 2 + 1, none⟩)), (8, .int .i64 0)]) (#[true, true, true, false, true, true, false, false]) [] (n := 3) (by kernel_rfl) (by kernel_rfl) (by kernel_rfl) trivial ?_
            refine wpa_qld (i := 3) (n := 2) (by kernel_rfl) (by kernel_rfl) (by kernel_rfl) (t := 25) (a := ⟨g0, o0 + v.n.toNat * 2 + 1, none⟩) (dst := some 50) (by kernel_rfl) false 1 (by kernel_rfl) (by simp) [.slice (some ⟨gc, oc, none⟩) l[v.n.toNat].cells.length l[v.n.toNat].c] rfl (fun w h => ld_rowL h 0 rfl (v.n.toNat * 2 + 1) ((obj_cells hq).trans (by rw [hac]))) ?_
            refine wpa_take true [(6, [])] ([(53, .pointer (some ⟨gc, oc + j * 3, none⟩)), (52, .agg #[.int .i64 x.k, .int .i64 x.n, .string (mkS x.s)]), (8, .int .i64 0)]) (#[true, true, true, true, true, true, true, false]) [(0 : Int) ≤ (↑j : Int) ∧ (↑j : Int) < (↑l[v.n.toNat].cells.length : Int)] (n := 1) (by kernel_rfl) (by kernel_rfl) (by kernel_rfl) ⟨by first | omega | decide | (simp; done), trivial⟩ ?_
            refine wpa_ent (Ent.trans (ent_perm (List.perm_middle (l₁ := [_, _]))) (ent_star_take v.n.toNat (obRow_at hq hac))) ?_
            refine wpa_eq (i := 7) (n := 0) (by kernel_rfl) (stq' (t := 28) (g := gc) (off := oc) (q := (j * 3)) (v := (.agg #[.int .i64 x.k, .int .i64 x.n, .string (mkS x.s)])) (dst := none) (by kernel_rfl) 0 (T := 28) (sz := 3) (n := (l[v.n.toNat].cells.length)) (cap := (l[v.n.toNat].c)) (xs := (List.flatMap valC l[v.n.toNat].cells)) (by kernel_rfl) [.int .i64 x.k, .int .i64 x.n, .string (mkS x.s)] (by kernel_rfl) (by kernel_rfl) (by simp [Go.Sx.One, Value.oneCell']) (by rw [vals_len]; show _ + 3 ≤ _; omega) (xs' := ((l[v.n.toNat].cells.set j x).flatMap valC)) (by rw [vals_set hi2, List.append_assoc]; rfl)) (sub_of [3, 5] (by kernel_rfl)) ?_
            refine wpa_done 0 (by kernel_rfl) ?_
            refine nx_then (wpc_seq ?_)
            refine wpc_region [0] (by kernel_rfl) ?_
            refine wpr_run (l₂ := []) true [0] [] [(8, .int .i64 0)] [row 28 3 (some ⟨gc, oc, none⟩) l[v.n.toNat].cells.length l[v.n.toNat].c (List.flatMap valC (l[v.n.toNat].cells.set j x)), star ((List.map obRow l).eraseIdx v.n.toNat), .blk g 59 [.bool true, .int .i64 most, .int .i64 (↑used : Int), .slice (some ⟨g0, o0, none⟩) l.length c], row 43 2 (some ⟨g0, o0, none⟩) l.length c (List.flatMap objC l), .blk g1 28 [.int .i64 v.k, .int .i64 v.n, .string (mkS v.s)], .blk g2 28 [.int .i64 x.k, .int .i64 x.n, .string (mkS x.s)]] [] (by kernel_rfl) (by kernel_rfl) trivial ?_
            refine wpr_nil (nx_then ?_)
            refine wpc_ret ?_
            obtain ⟨o', ho'⟩ : ∃ o', o' = Ob.mk l[v.n.toNat].tag l[v.n.toNat].a l[v.n.toNat].c (l[v.n.toNat].cells.set j x) := ⟨_, rfl⟩
            have hrow : row 28 3 (some (Addr.mk gc oc none)) l[v.n.toNat].cells.length l[v.n.toNat].c ((l[v.n.toNat].cells.set j x).flatMap valC) = obRow o' := by
              rw [ho']; unfold obRow; dsimp only; rw [List.length_set, hac]
            have hobj : objC o' = objC l[v.n.toNat] := by rw [ho']; unfold objC; dsimp only; rw [List.length_set]
            rw [hrow]
            refine nx_ent (ent_star_put v.n.toNat (by rw [List.length_map]; exact hq) trivial) ?_
            rw [← List.map_set]
            refine nx_end (hp' := [.blk g 59 [.bool true, .int .i64 most, .int .i64 (↑used : Int), .slice (some ⟨g0, o0, none⟩) l.length c], row 43 2 (some ⟨g0, o0, none⟩) l.length c (List.flatMap objC l), star (List.map obRow (l.set v.n.toNat o'))]) (rest := [.blk g1 28 [.int .i64 v.k, .int .i64 v.n, .string (mkS v.s)], .blk g2 28 [.int .i64 x.k, .int .i64 x.n, .string (mkS x.s)]]) [] ((.int .i64 0)) (by kernel_rfl) (by kernel_rfl) (give [1, 1, 0] (by kernel_rfl)) (by first | ((repeat (first | exact trivial | refine ⟨trivial, ?_⟩)); done) | assumption) ?_ (.inr rfl)
            rw [setR_in hr hcx hq hi2, ← ho']
            exact ⟨rfl, l.set v.n.toNat o', rfl, by rw [List.length_set, objs_set hq hobj]⟩
          · have hin : inB i l[v.n.toNat].cells.length = false := by simp [inB, h1]
            refine wpa_take true [(11, []), (12, []), (13, [])] ([(21, .bool false), (9, .pointer (some ⟨g0, o0 + v.n.toNat * 2, none⟩)), (8, .int .i64 0), (7, .pointer (some ⟨g2, 0, none⟩)), (2, .int .i64 i)]) (#[true, true, true, true, true, true, true, true, true, true, true, true, true, true]) [] (n := 0) (by kernel_rfl) (by kernel_rfl) (by kernel_rfl) trivial ?_
            refine wpa_done 0 (by kernel_rfl) ?_
            refine nx_then ?_
            refine wpc_false (by kernel_rfl) ?_
            refine wpc_seq ?_
            refine wpc_region [0, 1, 2, 3, 4, 5, 6, 7, 8, 9, 10, 11] (by kernel_rfl) ?_
            refine wpr_run (l₂ := [3, 4, 5, 6, 7, 8, 9, 10, 11]) true [0, 1, 2] [] ([(38, .bool (decide (i < 0))), (9, .pointer (some ⟨g0, o0 + v.n.toNat * 2, none⟩)), (8, .int .i64 0), (7, .pointer (some ⟨g2, 0, none⟩)), (2, .int .i64 i)]) [.blk g 59 [.bool true, .int .i64 most, .int .i64 (↑used : Int), .slice (some ⟨g0, o0, none⟩) l.length c], row 43 2 (some ⟨g0, o0, none⟩) l.length c (List.flatMap objC l), star (List.map obRow l), .blk g1 28 [.int .i64 v.k, .int .i64 v.n, .string (mkS v.s)], .blk g2 28 [.int .i64 x.k, .int .i64 x.n, .string (mkS x.s)]] [] (by kernel_rfl) (by kernel_rfl) trivial ?_
            refine wpr_ent (ent_set 38 (.bool (decide (i < 0))) (.bool false) (by kernel_rfl) (congrArg _ (decide_eq_false (by omega)))) ?_
            refine wpr_run (l₂ := [7, 8, 9, 10, 11]) true [3, 4, 5, 6] [] ([(42, .pointer (some ⟨g0, o0 + v.n.toNat * 2 + 1, none⟩)), (39, .int .i64 i), (38, .bool false), (9, .pointer (some ⟨g0, o0 + v.n.toNat * 2, none⟩)), (8, .int .i64 0), (7, .pointer (some ⟨g2, 0, none⟩)), (2, .int .i64 i)]) [.blk g 59 [.bool true, .int .i64 most, .int .i64 (↑used : Int), .slice (some ⟨g0, o0, none⟩) l.length c], row 43 2 (some ⟨g0, o0, none⟩) l.length c (List.flatMap objC l), star (List.map obRow l), .blk g1 28 [.int .i64 v.k, .int .i64 v.n, .string (mkS v.s)], .blk g2 28 [.int .i64 x.k, .int .i64 x.n, .string (mkS x.s)]] [] (by kernel_rfl) (by kernel_rfl) trivial ?_
            refine wpr_eq (ld (t := 25) (a := ⟨g0, o0 + v.n.toNat * 2 + 1, none⟩) (dst := some 43) (by kernel_rfl) false 1 (by kernel_rfl) (by simp) [.slice l[v.n.toNat].a l[v.n.toNat].cells.length l[v.n.toNat].c] rfl (fun w h => ld_row h 1 rfl (v.n.toNat * 2 + 1) (obj_cells hq))) ?_
            refine wpr_run (l₂ := []) true [8, 9, 10, 11] [] ([(35, .bool (decide (i ≥ (↑l[v.n.toNat].cells.length : Int)))), (9, .pointer (some ⟨g0, o0 + v.n.toNat * 2, none⟩)), (8, .int .i64 0), (7, .pointer (some ⟨g2, 0, none⟩)), (2, .int .i64 i)]) [.blk g 59 [.bool true, .int .i64 most, .int .i64 (↑used : Int), .slice (some ⟨g0, o0, none⟩) l.length c], row 43 2 (some ⟨g0, o0, none⟩) l.length c (List.flatMap objC l), star (List.map obRow l), .blk g1 28 [.int .i64 v.k, .int .i64 v.n, .string (mkS v.s)], .blk g2 28 [.int .i64 x.k, .int .i64 x.n, .string (mkS x.s)]] [] (by kernel_rfl) (by kernel_rfl) trivial ?_
            refine wpr_nil (nx_then ?_)
            refine wpc_ent (ent_set 35 (.bool (decide (i ≥ (↑l[v.n.toNat].cells.length : Int)))) (.bool true) (by kernel_rfl) (congrArg _ (decide_eq_true (by omega)))) ?_
            refine wpc_true (by kernel_rfl) ?_
            refine wpc_seq ?_
            refine wpc_region [0] (by kernel_rfl) ?_
            refine wpr_run (l₂ := []) true [0] [] ([(8, .int .i64 10), (9, .pointer (some ⟨g0, o0 + v.n.toNat * 2, none⟩)), (7, .pointer (some ⟨g2, 0, none⟩)), (2, .int .i64 i)]) [.blk g 59 [.bool true, .int .i64 most, .int .i64 (↑used : Int), .slice (some ⟨g0, o0, none⟩) l.length c], row 43 2 (some ⟨g0, o0, none⟩) l.length c (List.flatMap objC l), star (List.map obRow l), .blk g1 28 [.int .i64 v.k, .int .i64 v.n, .string (mkS v.s)], .blk g2 28 [.int .i64 x.k, .int .i64 x.n, .string (mkS x.s)]] [] (by kernel_rfl) (by kernel_rfl) trivial ?_
            refine wpr_nil (nx_then ?_)
            refine wpc_ret ?_
            refine nx_block_ret ?_
            refine nx_then_ret ?_
            refine nx_end (hp' := [.blk g 59 [.bool true, .int .i64 most, .int .i64 (↑used : Int), .slice (some ⟨g0, o0, none⟩) l.length c], row 43 2 (some ⟨g0, o0, none⟩) l.length c (List.flatMap objC l), star (List.map obRow l)]) (rest := [.blk g1 28 [.int .i64 v.k, .int .i64 v.n, .string (mkS v.s)], .blk g2 28 [.int .i64 x.k, .int .i64 x.n, .string (mkS x.s)]]) [] ((.int .i64 10)) (by kernel_rfl) (by kernel_rfl) (give [0, 0, 0] (by kernel_rfl)) (by first | ((repeat (first | exact trivial | refine ⟨trivial, ?_⟩)); done) | assumption) ?_ (.inr rfl)
            rw [setR_out hr hcx hq hin]
            exact ⟨rfl, l, rfl, rfl⟩
        · have hin : inB i l[v.n.toNat].cells.length = false := by simp [inB, h0]
          refine wpa_take true [(11, []), (12, []), (13, [])] ([(21, .bool false), (9, .pointer (some ⟨g0, o0 + v.n.toNat * 2, none⟩)), (8, .int .i64 0), (7, .pointer (some ⟨g2, 0, none⟩)), (2, .int .i64 i)]) (#[true, true, true, true, true, true, true, true, true, true, true, true, true, true]) [] (n := 0) (by kernel_rfl) (by kernel_rfl) (by kernel_rfl) trivial ?_
          refine wpa_done 0 (by kernel_rfl) ?_
          refine nx_then ?_
          refine wpc_false (by kernel_rfl) ?_
          refine wpc_seq ?_
          refine wpc_region [0, 1, 2, 3, 4, 5, 6, 7, 8, 9, 10, 11] (by kernel_rfl) ?_
          refine wpr_run (l₂ := [3, 4, 5, 6, 7, 8, 9, 10, 11]) true [0, 1, 2] [] ([(38, .bool (decide (i < 0))), (9, .pointer (some ⟨g0, o0 + v.n.toNat * 2, none⟩)), (8, .int .i64 0), (7, .pointer (some ⟨g2, 0, none⟩)), (2, .int .i64 i)]) [.blk g 59 [.bool true, .int .i64 most, .int .i64 (↑used : Int), .slice (some ⟨g0, o0, none⟩) l.length c], row 43 2 (some ⟨g0, o0, none⟩) l.length c (List.flatMap objC l), star (List.map obRow l), .blk g1 28 [.int .i64 v.k, .int .i64 v.n, .string (mkS v.s)], .blk g2 28 [.int .i64 x.k, .int .i64 x.n, .string (mkS x.s)]] [] (by kernel_rfl) (by kernel_rfl) trivial ?_
          refine wpr_ent (ent_set 38 (.bool (decide (i < 0))) (.bool true) (by kernel_rfl) (congrArg _ (decide_eq_true (by omega)))) ?_
          refine wpr_run (l₂ := []) true [3, 4, 5, 6, 7, 8, 9, 10, 11] [] ([(35, .bool true), (9, .pointer (some ⟨g0, o0 + v.n.toNat * 2, none⟩)), (8, .int .i64 0), (7, .pointer (some ⟨g2, 0, none⟩)), (2, .int .i64 i)]) [.blk g 59 [.bool true, .int .i64 most, .int .i64 (↑used : Int), .slice (some ⟨g0, o0, none⟩) l.length c], row 43 2 (some ⟨g0, o0, none⟩) l.length c (List.flatMap objC l), star (List.map obRow l), .blk g1 28 [.int .i64 v.k, .int .i64 v.n, .string (mkS v.s)], .blk g2 28 [.int .i64 x.k, .int .i64 x.n, .string (mkS x.s)]] [] (by kernel_rfl) (by kernel_rfl) trivial ?_
          refine wpr_nil (nx_then ?_)
          refine wpc_true (by kernel_rfl) ?_
          refine wpc_seq ?_
          refine wpc_region [0] (by kernel_rfl) ?_
          refine wpr_run (l₂ := []) true [0] [] ([(8, .int .i64 10), (9, .pointer (some ⟨g0, o0 + v.n.toNat * 2, none⟩)), (7, .pointer (some ⟨g2, 0, none⟩)), (2, .int .i64 i)]) [.blk g 59 [.bool true, .int .i64 most, .int .i64 (↑used : Int), .slice (some ⟨g0, o0, none⟩) l.length c], row 43 2 (some ⟨g0, o0, none⟩) l.length c (List.flatMap objC l), star (List.map obRow l), .blk g1 28 [.int .i64 v.k, .int .i64 v.n, .string (mkS v.s)], .blk g2 28 [.int .i64 x.k, .int .i64 x.n, .string (mkS x.s)]] [] (by kernel_rfl) (by kernel_rfl) trivial ?_
          refine wpr_nil (nx_then ?_)
          refine wpc_ret ?_
          refine nx_block_ret ?_
          refine nx_then_ret ?_
          refine nx_end (hp' := [.blk g 59 [.bool true, .int .i64 most, .int .i64 (↑used : Int), .slice (some ⟨g0, o0, none⟩) l.length c], row 43 2 (some ⟨g0, o0, none⟩) l.length c (List.flatMap objC l), star (List.map obRow l)]) (rest := [.blk g1 28 [.int .i64 v.k, .int .i64 v.n, .string (mkS v.s)], .blk g2 28 [.int .i64 x.k, .int .i64 x.n, .string (mkS x.s)]]) [] ((.int .i64 10)) (by kernel_rfl) (by kernel_rfl) (give [0, 0, 0] (by kernel_rfl)) (by first | ((repeat (first | exact trivial | refine ⟨trivial, ?_⟩)); done) | assumption) ?_ (.inr rfl)
          rw [setR_out hr hcx hq hin]
          exact ⟨rfl, l, rfl, rfl⟩
end Go.Proofs.YtpfhleghgkeemaaGreatDoor
