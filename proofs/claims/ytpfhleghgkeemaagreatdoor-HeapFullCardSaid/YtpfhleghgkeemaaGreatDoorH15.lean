import Derived.Test.YtpfhleghgkeemaaGreatDoorH14
import Derived.Test.YtpfhleghgkeemaaGreatDoorX16
namespace Go.Proofs.YtpfhleghgkeemaaGreatDoor
open Go Go.Sx
set_option linter.unusedSimpArgs false

def inB (i : Int) (n : Nat) : Bool := decide (0 ≤ i) && decide (i < n)
def getR (l : List O) (v : V) (i : Int) : V × Int :=
  if refB v l.length then if inB i (objAt l v).2.length then ((objAt l v).2.getD i.toNat noV, 0) else (noV, 10) else (noV, 2)
theorem val_at {l : List V} {q : Nat} (hq : q < l.length) : l.getD q noV = l[q] := by
  rw [List.getD_eq_getElem?_getD, List.getElem?_eq_getElem hq]; rfl
theorem obRow_in {l : List Ob} {q : Nat} (hq : q < l.length) : row 28 3 l[q].a l[q].cells.length l[q].c (l[q].cells.flatMap valC) ∈ l.map obRow :=
  List.mem_map.2 ⟨l[q], List.getElem_mem hq, rfl⟩
theorem getR_no {l : List Ob} {v : V} {i : Int} (hr : refB v l.length = false) : getR (l.map Ob.o) v i = (noV, 2) := by
  unfold getR; rw [List.length_map, hr]; rfl
theorem getR_out {l : List Ob} {v : V} {i : Int} (hr : refB v l.length = true) (hq : v.n.toNat < l.length) (h : inB i l[v.n.toNat].cells.length = false) : getR (l.map Ob.o) v i = (noV, 10) := by
  unfold getR; rw [List.length_map, hr, objAt_map hq, if_pos rfl]; show (if inB i l[v.n.toNat].cells.length = true then _ else _) = _; rw [h]; rfl
theorem getR_in {l : List Ob} {v : V} {j : Nat} (hr : refB v l.length = true) (hq : v.n.toNat < l.length) (h : j < l[v.n.toNat].cells.length) : getR (l.map Ob.o) v j = (l[v.n.toNat].cells[j], 0) := by
  have hin : inB (j : Int) l[v.n.toNat].cells.length = true := by simp [inB, h]
  unfold getR; rw [List.length_map, hr, objAt_map hq, if_pos rfl]; show (if inB (j : Int) l[v.n.toNat].cells.length = true then (l[v.n.toNat].cells.getD _ noV, (0 : Int)) else _) = _
  rw [hin, if_pos rfl, Int.toNat_natCast, val_at h]
theorem Get_spec (g : Nat) (most : Int) (used : Nat) (a : Option Addr) (c : Nat) (l : List Ob) (v : V) (i : Int) (hl : l.length ≤ 4096) (hv : v.sm) :
    Does Tryz.prog 25 [.pointer (some ⟨g, 0, none⟩), valV v, .int .i64 i] (Hp3 g most used a c l)
      (fun r hp' => r = .tuple #[valV (getR (l.map Ob.o) v i).1, .int .i64 (getR (l.map Ob.o) v i).2] ∧ hp' = Hp3 g most used a c l) := by
  have hob := object_spec g most used a c l v hl hv
  unfold heapB heapR at hob
  unfold Hp3 heapB heapR heapS
  refine fn_enter Tryz.func25 rfl 41 rfl fun w0 h0 => ?_
  refine wpc_seq ?_
  refine wpc_region [0, 1, 2] (by kernel_rfl) ?_
  refine wpr_new (l₂ := [1, 2]) true [0] [] (fun g1 => [(4, .pointer (some ⟨g1, 0, none⟩)), (0, .pointer (some ⟨g, 0, none⟩)), (2, .int .i64 i)]) (fun g1 => [.blk g 59 [.bool true, .int .i64 most, .int .i64 (↑used : Int), .slice a l.length c], row 43 2 a l.length c (List.flatMap objC l), star (List.map obRow l), .blk g1 28 [.int .i64 v.k, .int .i64 v.n, .string (mkS v.s)]]) (fun g1 => []) (fun g1 => by kernel_rfl) (fun g1 => by kernel_rfl) (fun g1 => trivial) fun g1 => ?_
  refine wpr_new (l₂ := [2]) true [1] [] (fun g2 => [(6, .pointer (some ⟨g2, 0, none⟩)), (4, .pointer (some ⟨g1, 0, none⟩)), (0, .pointer (some ⟨g, 0, none⟩)), (2, .int .i64 i)]) (fun g2 => [.blk g 59 [.bool true, .int .i64 most, .int .i64 (↑used : Int), .slice a l.length c], row 43 2 a l.length c (List.flatMap objC l), star (List.map obRow l), .blk g1 28 [.int .i64 v.k, .int .i64 v.n, .string (mkS v.s)], .blk g2 28 [.int .i64 0, .int .i64 0, .string ⟨#[]⟩]]) (fun g2 => []) (fun g2 => by kernel_rfl) (fun g2 => by kernel_rfl) (fun g2 => trivial) fun g2 => ?_
  refine wpr_run (l₂ := []) true [2] [] [(7, .int .i64 0), (6, .pointer (some ⟨g2, 0, none⟩)), (4, .pointer (some ⟨g1, 0, none⟩)), (0, .pointer (some ⟨g, 0, none⟩)), (2, .int .i64 i)] [.blk g 59 [.bool true, .int .i64 most, .int .i64 (↑used : Int), .slice a l.length c], row 43 2 a l.length c (List.flatMap objC l), star (List.map obRow l), .blk g1 28 [.int .i64 v.k, .int .i64 v.n, .string (mkS v.s)], .blk g2 28 [.int .i64 0, .int .i64 0, .string ⟨#[]⟩]] [] (by kernel_rfl) (by kernel_rfl) trivial ?_
  refine wpr_nil (nx_then (wpc_seq ?_))
  refine wpc_region [0, 1, 2, 3, 4, 5, 6, 7] (by kernel_rfl) ?_
  refine wpr_run (l₂ := [2, 3, 4, 5, 6, 7]) true [0, 1] [3, 3, 3] [(12, .agg #[.int .i64 v.k, .int .i64 v.n, .string (mkS v.s)]), (11, .pointer (some ⟨g, 0, none⟩)), (7, .int .i64 0), (6, .pointer (some ⟨g2, 0, none⟩)), (2, .int .i64 i)] [.blk g 59 [.bool true, .int .i64 most, .int .i64 (↑used : Int), .slice a l.length c], row 43 2 a l.length c (List.flatMap objC l), star (List.map obRow l), .blk g1 28 [.int .i64 v.k, .int .i64 v.n, .string (mkS v.s)], .blk g2 28 [.int .i64 0, .int .i64 0, .string ⟨#[]⟩]] [] (by kernel_rfl) (by kernel_rfl) trivial ?_
  refine wpr_call (dst := some 13) (rest := [star (List.map obRow l), .blk g1 28 [.int .i64 v.k, .int .i64 v.n, .string (mkS v.s)], .blk g2 28 [.int .i64 0, .int .i64 0, .string ⟨#[]⟩]]) (by kernel_rfl) (hob) (give [0, 0] (by kernel_rfl)) ?_
  rintro r _ ⟨h, rfl⟩
  cases hr : refB v l.length with
  | false =>
    rw [hr] at h
    obtain rfl := h
    refine wpr_run (l₂ := []) true [3, 4, 5, 6, 7] [] [(9, .int .i64 2), (8, .pointer none), (7, .int .i64 0), (6, .pointer (some ⟨g2, 0, none⟩)), (2, .int .i64 i)] [.blk g 59 [.bool true, .int .i64 most, .int .i64 (↑used : Int), .slice a l.length c], row 43 2 a l.length c (List.flatMap objC l), star (List.map obRow l), .blk g1 28 [.int .i64 v.k, .int .i64 v.n, .string (mkS v.s)], .blk g2 28 [.int .i64 0, .int .i64 0, .string ⟨#[]⟩]] [] (by kernel_rfl) (by kernel_rfl) trivial ?_
    refine wpr_nil (nx_then (wpc_seq ?_))
    refine wpc_block ?_
    refine wpc_seq ?_
    refine wpc_region [0, 1, 2] (by kernel_rfl) ?_
    refine wpr_run (l₂ := []) true [0, 1, 2] [] [(16, .bool true), (9, .int .i64 2), (8, .pointer none), (7, .int .i64 0), (6, .pointer (some ⟨g2, 0, none⟩)), (2, .int .i64 i)] [.blk g 59 [.bool true, .int .i64 most, .int .i64 (↑used : Int), .slice a l.length c], row 43 2 a l.length c (List.flatMap objC l), star (List.map obRow l), .blk g1 28 [.int .i64 v.k, .int .i64 v.n, .string (mkS v.s)], .blk g2 28 [.int .i64 0, .int .i64 0, .string ⟨#[]⟩]] [] (by kernel_rfl) (by kernel_rfl) trivial ?_
    refine wpr_nil (nx_then ?_)
    refine wpc_true (by kernel_rfl) ?_
    refine wpc_seq ?_
    refine wpc_region [0, 1, 2, 3] (by kernel_rfl) ?_
    refine wpr_run (l₂ := []) true [0, 1, 2, 3] [4, 4, 4] [(7, .int .i64 2), (8, .pointer none), (6, .pointer (some ⟨g2, 0, none⟩)), (2, .int .i64 i)] [.blk g 59 [.bool true, .int .i64 most, .int .i64 (↑used : Int), .slice a l.length c], row 43 2 a l.length c (List.flatMap objC l), star (List.map obRow l), .blk g1 28 [.int .i64 v.k, .int .i64 v.n, .string (mkS v.s)], .blk g2 28 [.int .i64 0, .int .i64 0, .string ⟨#[]⟩]] [] (by kernel_rfl) (by kernel_rfl) trivial ?_
    refine wpr_nil (nx_then ?_)
    refine wpc_ret ?_
    refine nx_block_ret ?_
    refine nx_then_ret ?_
    refine nx_end (hp' := [.blk g 59 [.bool true, .int .i64 most, .int .i64 (↑used : Int), .slice a l.length c], row 43 2 a l.length c (List.flatMap objC l), star (List.map obRow l)]) (rest := [.blk g1 28 [.int .i64 v.k, .int .i64 v.n, .string (mkS v.s)], .blk g2 28 [.int .i64 0, .int .i64 0, .string ⟨#[]⟩]]) [4, 4, 4] ((Value.tuple #[.agg #[.int .i64 0, .int .i64 0, .string ⟨#[]⟩], .int .i64 2])) (by kernel_rfl) (by kernel_rfl) (give [0, 0, 0] (by kernel_rfl)) (by first | ((repeat (first | exact trivial | refine ⟨trivial, ?_⟩)); done) | assumption) ?_ (.inr rfl)
    rw [getR_no hr]
    exact ⟨rfl, rfl⟩
  | true =>
    rw [hr, if_pos rfl] at h
    obtain ⟨g0, o0, rfl, rfl⟩ := h
    obtain ⟨_, hs0, hn0, hnl⟩ := refB_lt hr
    have hq : v.n.toNat < l.length := by omega
    by_cases h0 : 0 ≤ i
    · by_cases h1 : i < l[v.n.toNat].cells.length
      · have hi2 : i.toNat < l[v.n.toNat].cells.length := by omega
        obtain ⟨j, rfl⟩ : ∃ j : Nat, i = j := ⟨i.toNat, by omega⟩
        rw [Int.toNat_natCast] at hi2
        refine wpr_fact (fun w h => star_addr h 2 rfl (obRow_in hq) (by omega)) ?_
        rintro ⟨gc, oc, hac⟩
        refine wpr_run (l₂ := []) true [3, 4, 5, 6, 7] [] ([(9, .int .i64 0), (8, .pointer (some ⟨g0, o0 + v.n.toNat * 2, none⟩)), (7, .int .i64 0), (6, .pointer (some ⟨g2, 0, none⟩)), (2, .int .i64 (↑j : Int))]) [.blk g 59 [.bool true, .int .i64 most, .int .i64 (↑used : Int), .slice (some ⟨g0, o0, none⟩) l.length c], row 43 2 (some ⟨g0, o0, none⟩) l.length c (List.flatMap objC l), star (List.map obRow l), .blk g1 28 [.int .i64 v.k, .int .i64 v.n, .string (mkS v.s)], .blk g2 28 [.int .i64 0, .int .i64 0, .string ⟨#[]⟩]] [] (by kernel_rfl) (by kernel_rfl) trivial ?_
        refine wpr_nil (nx_then (wpc_seq ?_))
        refine wpc_block ?_
        refine wpc_seq ?_
        refine wpc_region [0, 1, 2] (by kernel_rfl) ?_
        refine wpr_run (l₂ := []) true [0, 1, 2] [] ([(16, .bool false), (9, .int .i64 0), (8, .pointer (some ⟨g0, o0 + v.n.toNat * 2, none⟩)), (7, .int .i64 0), (6, .pointer (some ⟨g2, 0, none⟩)), (2, .int .i64 (↑j : Int))]) [.blk g 59 [.bool true, .int .i64 most, .int .i64 (↑used : Int), .slice (some ⟨g0, o0, none⟩) l.length c], row 43 2 (some ⟨g0, o0, none⟩) l.length c (List.flatMap objC l), star (List.map obRow l), .blk g1 28 [.int .i64 v.k, .int .i64 v.n, .string (mkS v.s)], .blk g2 28 [.int .i64 0, .int .i64 0, .string ⟨#[]⟩]] [] (by kernel_rfl) (by kernel_rfl) trivial ?_
        refine wpr_nil (nx_then ?_)
        refine wpc_false (by kernel_rfl) ?_
        refine wpc_seq ?_
        refine wpc_region [0, 1, 2, 3, 4, 5, 6, 7, 8, 9, 10, 11] (by kernel_rfl) ?_
        refine wpr_run (l₂ := [7, 8, 9, 10, 11]) true [0, 1, 2, 3, 4, 5, 6] [] ([(28, .pointer (some ⟨g0, o0 + v.n.toNat * 2 + 1, none⟩)), (25, .int .i64 (↑j : Int)), (24, .bool false), (8, .pointer (some ⟨g0, o0 + v.n.toNat * 2, none⟩)), (7, .int .i64 0), (6, .pointer (some ⟨g2, 0, none⟩)), (2, .int .i64 (↑j : Int))]) [.blk g 59 [.bool true, .int .i64 most, .int .i64 (↑used : Int), .slice (some ⟨g0, o0, none⟩) l.length c], row 43 2 (some ⟨g0, o0, none⟩) l.length c (List.flatMap objC l), star (List.map obRow l), .blk g1 28 [.int .i64 v.k, .int .i64 v.n, .string (mkS v.s)], .blk g2 28 [.int .i64 0, .int .i64 0, .string ⟨#[]⟩]] [] (by kernel_rfl) (by kernel_rfl) trivial ?_
        refine wpr_eq (ld (t := 25) (a := ⟨g0, o0 + v.n.toNat * 2 + 1, none⟩) (dst := some 29) (by kernel_rfl) false 1 (by kernel_rfl) (by simp) [.slice l[v.n.toNat].a l[v.n.toNat].cells.length l[v.n.toNat].c] rfl (fun w h => ld_row h 1 rfl (v.n.toNat * 2 + 1) (obj_cells hq))) ?_
        refine wpr_run (l₂ := []) true [8, 9, 10, 11] [] ([(21, .bool (decide ((↑j : Int) ≥ (↑l[v.n.toNat].cells.length : Int)))), (8, .pointer (some ⟨g0, o0 + v.n.toNat * 2, none⟩)), (7, .int .i64 0), (6, .pointer (some ⟨g2, 0, none⟩)), (2, .int .i64 (↑j : Int))]) [.blk g 59 [.bool true, .int .i64 most, .int .i64 (↑used : Int), .slice (some ⟨g0, o0, none⟩) l.length c], row 43 2 (some ⟨g0, o0, none⟩) l.length c (List.flatMap objC l), star (List.map obRow l), .blk g1 28 [.int .i64 v.k, .int .i64 v.n, .string (mkS v.s)], .blk g2 28 [.int .i64 0, .int .i64 0, .string ⟨#[]⟩]] [] (by kernel_rfl) (by kernel_rfl) trivial ?_
        refine wpr_nil (nx_then ?_)
        refine wpc_ent (ent_set 21 (.bool (decide ((↑j : Int) ≥ (↑l[v.n.toNat].cells.length : Int)))) (.bool false) (by kernel_rfl) (congrArg _ (decide_eq_false (by omega)))) ?_
        refine wpc_false (by kernel_rfl) ?_
        refine wpc_skip ?_
        refine nx_block (nx_then (wpc_seq ?_))
        refine wpc_region [0, 1, 2, 3, 4, 5, 6, 7, 8] (by kernel_rfl) ?_
        refine wpr_run (l₂ := [3, 4, 5, 6, 7, 8]) true [0, 1, 2] [] ([(36, .pointer (some ⟨g0, o0 + v.n.toNat * 2 + 1, none⟩)), (7, .int .i64 0), (6, .pointer (some ⟨g2, 0, none⟩)), (2, .int .i64 (↑j : Int))]) [.blk g 59 [.bool true, .int .i64 most, .int .i64 (↑used : Int), .slice (some ⟨g0, o0, none⟩) l.length c], row 43 2 (some ⟨g0, o0, none⟩) l.length c (List.flatMap objC l), star (List.map obRow l), .blk g1 28 [.int .i64 v.k, .int .i64 v.n, .string (mkS v.s)], .blk g2 28 [.int .i64 0, .int .i64 0, .string ⟨#[]⟩]] [] (by kernel_rfl) (by kernel_rfl) trivial ?_
        refine wpr_eq (ld (t := 25) (a := ⟨g0, o0 + v.n.toNat * 2 + 1, none⟩) (dst := some 37) (by kernel_rfl) false 1 (by kernel_rfl) (by simp) [.slice (some ⟨gc, oc, none⟩) l[v.n.toNat].cells.length l[v.n.toNat].c] rfl (fun w h => ld_row h 1 rfl (v.n.toNat * 2 + 1) ((obj_cells hq).trans (by rw [hac])))) ?_
        refine wpr_run (l₂ := [6, 7, 8]) true [4, 5] [] ([(39, .pointer (some ⟨gc, oc + j * 3, none⟩)), (7, .int .i64 0), (6, .pointer (some ⟨g2, 0, none⟩))]) [.blk g 59 [.bool true, .int .i64 most, .int .i64 (↑used : Int), .slice (some ⟨g0, o0, none⟩) l.length c], row 43 2 (some ⟨g0, o0, none⟩) l.length c (List.flatMap objC l), star (List.map obRow l), .blk g1 28 [.int .i64 v.k, .int .i64 v.n, .string (mkS v.s)], .blk g2 28 [.int .i64 0, .int .i64 0, .string ⟨#[]⟩]] [(0 : Int) ≤ (↑j : Int) ∧ (↑j : Int) < (↑l[v.n.toNat].cells.length : Int)] (by kernel_rfl) (by kernel_rfl) ⟨by first | omega | decide | (simp; done), trivial⟩ ?_
        refine wpr_eq (ld (t := 28) (a := ⟨gc, oc + j * 3, none⟩) (dst := some 40) (by kernel_rfl) true 3 (by kernel_rfl) (by simp) (valC l[v.n.toNat].cells[j]) rfl (fun w h => ld_star h 2 rfl (hac ▸ obRow_in hq) (j * 3) (vals_at hi2))) ?_
        refine wpr_run (l₂ := []) true [7, 8] [4, 4, 4] [(7, .int .i64 0), (6, .pointer (some ⟨g2, 0, none⟩))] [.blk g 59 [.bool true, .int .i64 most, .int .i64 (↑used : Int), .slice (some ⟨g0, o0, none⟩) l.length c], row 43 2 (some ⟨g0, o0, none⟩) l.length c (List.flatMap objC l), star (List.map obRow l), .blk g1 28 [.int .i64 v.k, .int .i64 v.n, .string (mkS v.s)], .blk g2 28 [.int .i64 l[v.n.toNat].cells[j].k, .int .i64 l[v.n.toNat].cells[j].n, .string (mkS l[v.n.toNat].cells[j].s)]] [] (by kernel_rfl) (by kernel_rfl) trivial ?_
        refine wpr_nil (nx_then ?_)
        refine wpc_ret ?_
        refine nx_end (hp' := [.blk g 59 [.bool true, .int .i64 most, .int .i64 (↑used : Int), .slice (some ⟨g0, o0, none⟩) l.length c], row 43 2 (some ⟨g0, o0, none⟩) l.length c (List.flatMap objC l), star (List.map obRow l)]) (rest := [.blk g1 28 [.int .i64 v.k, .int .i64 v.n, .string (mkS v.s)], .blk g2 28 [.int .i64 l[v.n.toNat].cells[j].k, .int .i64 l[v.n.toNat].cells[j].n, .string (mkS l[v.n.toNat].cells[j].s)]]) [4, 4, 4] ((Value.tuple #[.agg #[.int .i64 l[v.n.toNat].cells[j].k, .int .i64 l[v.n.toNat].cells[j].n, .string (mkS l[v.n.toNat].cells[j].s)], .int .i64 0])) (by kernel_rfl) (by kernel_rfl) (give [0, 0, 0] (by kernel_rfl)) (by first | ((repeat (first | exact trivial | refine ⟨trivial, ?_⟩)); done) | assumption) ?_ (.inr rfl)
        rw [getR_in hr hq hi2]
        exact ⟨rfl, rfl⟩
      · have hin : inB i l[v.n.toNat].cells.length = false := by simp [inB, h1]
        refine wpr_run (l₂ := []) true [3, 4, 5, 6, 7] [] ([(9, .int .i64 0), (8, .pointer (some ⟨g0, o0 + v.n.toNat * 2, none⟩)), (7, .int .i64 0), (6, .pointer (some ⟨g2, 0, none⟩)), (2, .int .i64 i)]) [.blk g 59 [.bool true, .int .i64 most, .int .i64 (↑used : Int), .slice (some ⟨g0, o0, none⟩) l.length c], row 43 2 (some ⟨g0, o0, none⟩) l.length c (List.flatMap objC l), star (List.map obRow l), .blk g1 28 [.int .i64 v.k, .int .i64 v.n, .string (mkS v.s)], .blk g2 28 [.int .i64 0, .int .i64 0, .string ⟨#[]⟩]] [] (by kernel_rfl) (by kernel_rfl) trivial ?_
        refine wpr_nil (nx_then (wpc_seq ?_))
        refine wpc_block ?_
        refine wpc_seq ?_
        refine wpc_region [0, 1, 2] (by kernel_rfl) ?_
        refine wpr_run (l₂ := []) true [0, 1, 2] [] ([(16, .bool false), (9, .int .i64 0), (8, .pointer (some ⟨g0, o0 + v.n.toNat * 2, none⟩)), (7, .int .i64 0), (6, .pointer (some ⟨g2, 0, none⟩)), (2, .int .i64 i)]) [.blk g 59 [.bool true, .int .i64 most, .int .i64 (↑used : Int), .slice (some ⟨g0, o0, none⟩) l.length c], row 43 2 (some ⟨g0, o0, none⟩) l.length c (List.flatMap objC l), star (List.map obRow l), .blk g1 28 [.int .i64 v.k, .int .i64 v.n, .string (mkS v.s)], .blk g2 28 [.int .i64 0, .int .i64 0, .string ⟨#[]⟩]] [] (by kernel_rfl) (by kernel_rfl) trivial ?_
        refine wpr_nil (nx_then ?_)
        refine wpc_false (by kernel_rfl) ?_
        refine wpc_seq ?_
        refine wpc_region [0, 1, 2, 3, 4, 5, 6, 7, 8, 9, 10, 11] (by kernel_rfl) ?_
        refine wpr_run (l₂ := [3, 4, 5, 6, 7, 8, 9, 10, 11]) true [0, 1, 2] [] ([(24, .bool (decide (i < 0))), (8, .pointer (some ⟨g0, o0 + v.n.toNat * 2, none⟩)), (7, .int .i64 0), (6, .pointer (some ⟨g2, 0, none⟩)), (2, .int .i64 i)]) [.blk g 59 [.bool true, .int .i64 most, .int .i64 (↑used : Int), .slice (some ⟨g0, o0, none⟩) l.length c], row 43 2 (some ⟨g0, o0, none⟩) l.length c (List.flatMap objC l), star (List.map obRow l), .blk g1 28 [.int .i64 v.k, .int .i64 v.n, .string (mkS v.s)], .blk g2 28 [.int .i64 0, .int .i64 0, .string ⟨#[]⟩]] [] (by kernel_rfl) (by kernel_rfl) trivial ?_
        refine wpr_ent (ent_set 24 (.bool (decide (i < 0))) (.bool false) (by kernel_rfl) (congrArg _ (decide_eq_false (by omega)))) ?_
        refine wpr_run (l₂ := [7, 8, 9, 10, 11]) true [3, 4, 5, 6] [] ([(28, .pointer (some ⟨g0, o0 + v.n.toNat * 2 + 1, none⟩)), (25, .int .i64 i), (24, .bool false), (8, .pointer (some ⟨g0, o0 + v.n.toNat * 2, none⟩)), (7, .int .i64 0), (6, .pointer (some ⟨g2, 0, none⟩)), (2, .int .i64 i)]) [.blk g 59 [.bool true, .int .i64 most, .int .i64 (↑used : Int), .slice (some ⟨g0, o0, none⟩) l.length c], row 43 2 (some ⟨g0, o0, none⟩) l.length c (List.flatMap objC l), star (List.map obRow l), .blk g1 28 [.int .i64 v.k, .int .i64 v.n, .string (mkS v.s)], .blk g2 28 [.int .i64 0, .int .i64 0, .string ⟨#[]⟩]] [] (by kernel_rfl) (by kernel_rfl) trivial ?_
        refine wpr_eq (ld (t := 25) (a := ⟨g0, o0 + v.n.toNat * 2 + 1, none⟩) (dst := some 29) (by kernel_rfl) false 1 (by kernel_rfl) (by simp) [.slice l[v.n.toNat].a l[v.n.toNat].cells.length l[v.n.toNat].c] rfl (fun w h => ld_row h 1 rfl (v.n.toNat * 2 + 1) (obj_cells hq))) ?_
        refine wpr_run (l₂ := []) true [8, 9, 10, 11] [] ([(21, .bool (decide (i ≥ (↑l[v.n.toNat].cells.length : Int)))), (8, .pointer (some ⟨g0, o0 + v.n.toNat * 2, none⟩)), (7, .int .i64 0), (6, .pointer (some ⟨g2, 0, none⟩)), (2, .int .i64 i)]) [.blk g 59 [.bool true, .int .i64 most, .int .i64 (↑used : Int), .slice (some ⟨g0, o0, none⟩) l.length c], row 43 2 (some ⟨g0, o0, none⟩) l.length c (List.flatMap objC l), star (List.map obRow l), .blk g1 28 [.int .i64 v.k, .int .i64 v.n, .string (mkS v.s)], .blk g2 28 [.int .i64 0, .int .i64 0, .string ⟨#[]⟩]] [] (by kernel_rfl) (by kernel_rfl) trivial ?_
        refine wpr_nil (nx_then ?_)
        refine wpc_ent (ent_set 21 (.bool (decide (i ≥ (↑l[v.n.toNat].cells.length : Int)))) (.bool true) (by kernel_rfl) (congrArg _ (decide_eq_true (by omega)))) ?_
        refine wpc_true (by kernel_rfl) ?_
        refine wpc_seq ?_
        refine wpc_region [0, 1, 2] (by kernel_rfl) ?_
        refine wpr_run (l₂ := []) true [0, 1, 2] [4, 4, 4] ([(7, .int .i64 10), (8, .pointer (some ⟨g0, o0 + v.n.toNat * 2, none⟩)), (6, .pointer (some ⟨g2, 0, none⟩)), (2, .int .i64 i)]) [.blk g 59 [.bool true, .int .i64 most, .int .i64 (↑used : Int), .slice (some ⟨g0, o0, none⟩) l.length c], row 43 2 (some ⟨g0, o0, none⟩) l.length c (List.flatMap objC l), star (List.map obRow l), .blk g1 28 [.int .i64 v.k, .int .i64 v.n, .string (mkS v.s)], .blk g2 28 [.int .i64 0, .int .i64 0, .string ⟨#[]⟩]] [] (by kernel_rfl) (by kernel_rfl) trivial ?_
        refine wpr_nil (nx_then ?_)
        refine wpc_ret ?_
        refine nx_block_ret ?_
        refine nx_then_ret ?_
        refine nx_end (hp' := [.blk g 59 [.bool true, .int .i64 most, .int .i64 (↑used : Int), .slice (some ⟨g0, o0, none⟩) l.length c], row 43 2 (some ⟨g0, o0, none⟩) l.length c (List.flatMap objC l), star (List.map obRow l)]) (rest := [.blk g1 28 [.int .i64 v.k, .int .i64 v.n, .string (mkS v.s)], .blk g2 28 [.int .i64 0, .int .i64 0, .string ⟨#[]⟩]]) [4, 4, 4] ((Value.tuple #[.agg #[.int .i64 0, .int .i64 0, .string ⟨#[]⟩], .int .i64 10])) (by kernel_rfl) (by kernel_rfl) (give [0, 0, 0] (by kernel_rfl)) (by first | ((repeat (first | exact trivial | refine ⟨trivial, ?_⟩)); done) | assumption) ?_ (.inr rfl)
        rw [getR_out hr hq hin]
        exact ⟨rfl, rfl⟩
    · have hin : inB i l[v.n.toNat].cells.length = false := by simp [inB, h0]
      refine wpr_run (l₂ := []) true [3, 4, 5, 6, 7] [] ([(9, .int .i64 0), (8, .pointer (some ⟨g0, o0 + v.n.toNat * 2, none⟩)), (7, .int .i64 0), (6, .pointer (some ⟨g2, 0, none⟩)), (2, .int .i64 i)]) [.blk g 59 [.bool true, .int .i64 most, .int .i64 (↑used : Int), .slice (some ⟨g0, o0, none⟩) l.length c], row 43 2 (some ⟨g0, o0, none⟩) l.length c (List.flatMap objC l), star (List.map obRow l), .blk g1 28 [.int .i64 v.k, .int .i64 v.n, .string (mkS v.s)], .blk g2 28 [.int .i64 0, .int .i64 0, .string ⟨#[]⟩]] [] (by kernel_rfl) (by kernel_rfl) trivial ?_
      refine wpr_nil (nx_then (wpc_seq ?_))
      refine wpc_block ?_
      refine wpc_seq ?_
      refine wpc_region [0, 1, 2] (by kernel_rfl) ?_
      refine wpr_run (l₂ := []) true [0, 1, 2] [] ([(16, .bool false), (9, .int .i64 0), (8, .pointer (some ⟨g0, o0 + v.n.toNat * 2, none⟩)), (7, .int .i64 0), (6, .pointer (some ⟨g2, 0, none⟩)), (2, .int .i64 i)]) [.blk g 59 [.bool true, .int .i64 most, .int .i64 (↑used : Int), .slice (some ⟨g0, o0, none⟩) l.length c], row 43 2 (some ⟨g0, o0, none⟩) l.length c (List.flatMap objC l), star (List.map obRow l), .blk g1 28 [.int .i64 v.k, .int .i64 v.n, .string (mkS v.s)], .blk g2 28 [.int .i64 0, .int .i64 0, .string ⟨#[]⟩]] [] (by kernel_rfl) (by kernel_rfl) trivial ?_
      refine wpr_nil (nx_then ?_)
      refine wpc_false (by kernel_rfl) ?_
      refine wpc_seq ?_
      refine wpc_region [0, 1, 2, 3, 4, 5, 6, 7, 8, 9, 10, 11] (by kernel_rfl) ?_
      refine wpr_run (l₂ := [3, 4, 5, 6, 7, 8, 9, 10, 11]) true [0, 1, 2] [] ([(24, .bool (decide (i < 0))), (8, .pointer (some ⟨g0, o0 + v.n.toNat * 2, none⟩)), (7, .int .i64 0), (6, .pointer (some ⟨g2, 0, none⟩)), (2, .int .i64 i)]) [.blk g 59 [.bool true, .int .i64 most, .int .i64 (↑used : Int), .slice (some ⟨g0, o0, none⟩) l.length c], row 43 2 (some ⟨g0, o0, none⟩) l.length c (List.flatMap objC l), star (List.map obRow l), .blk g1 28 [.int .i64 v.k, .int .i64 v.n, .string (mkS v.s)], .blk g2 28 [.int .i64 0, .int .i64 0, .string ⟨#[]⟩]] [] (by kernel_rfl) (by kernel_rfl) trivial ?_
      refine wpr_ent (ent_set 24 (.bool (decide (i < 0))) (.bool true) (by kernel_rfl) (congrArg _ (decide_eq_true (by omega)))) ?_
      refine wpr_run (l₂ := []) true [3, 4, 5, 6, 7, 8, 9, 10, 11] [] ([(21, .bool true), (8, .pointer (some ⟨g0, o0 + v.n.toNat * 2, none⟩)), (7, .int .i64 0), (6, .pointer (some ⟨g2, 0, none⟩)), (2, .int .i64 i)]) [.blk g 59 [.bool true, .int .i64 most, .int .i64 (↑used : Int), .slice (some ⟨g0, o0, none⟩) l.length c], row 43 2 (some ⟨g0, o0, none⟩) l.length c (List.flatMap objC l), star (List.map obRow l), .blk g1 28 [.int .i64 v.k, .int .i64 v.n, .string (mkS v.s)], .blk g2 28 [.int .i64 0, .int .i64 0, .string ⟨#[]⟩]] [] (by kernel_rfl) (by kernel_rfl) trivial ?_
      refine wpr_nil (nx_then ?_)
      refine wpc_true (by kernel_rfl) ?_
      refine wpc_seq ?_
      refine wpc_region [0, 1, 2] (by kernel_rfl) ?_
      refine wpr_run (l₂ := []) true [0, 1, 2] [4, 4, 4] ([(7, .int .i64 10), (8, .pointer (some ⟨g0, o0 + v.n.toNat * 2, none⟩)), (6, .pointer (some ⟨g2, 0, none⟩)), (2, .int .i64 i)]) [.blk g 59 [.bool true, .int .i64 most, .int .i64 (↑used : Int), .slice (some ⟨g0, o0, none⟩) l.length c], row 43 2 (some ⟨g0, o0, none⟩) l.length c (List.flatMap objC l), star (List.map obRow l), .blk g1 28 [.int .i64 v.k, .int .i64 v.n, .string (mkS v.s)], .blk g2 28 [.int .i64 0, .int .i64 0, .string ⟨#[]⟩]] [] (by kernel_rfl) (by kernel_rfl) trivial ?_
      refine wpr_nil (nx_then ?_)
      refine wpc_ret ?_
      refine nx_block_ret ?_
      refine nx_then_ret ?_
      refine nx_end (hp' := [.blk g 59 [.bool true, .int .i64 most, .int .i64 (↑used : Int), .slice (some ⟨g0, o0, none⟩) l.length c], row 43 2 (some ⟨g0, o0, none⟩) l.length c (List.flatMap objC l), star (List.map obRow l)]) (rest := [.blk g1 28 [.int .i64 v.k, .int .i64 v.n, .string (mkS v.s)], .blk g2 28 [.int .i64 0, .int .i64 0, .string ⟨#[]⟩]]) [4, 4, 4] ((Value.tuple #[.agg #[.int .i64 0, .int .i64 0, .string ⟨#[]⟩], .int .i64 10])) (by kernel_rfl) (by kernel_rfl) (give [0, 0, 0] (by kernel_rfl)) (by first | ((repeat (first | exact trivial | refine ⟨trivial, ?_⟩)); done) | assumption) ?_ (.inr rfl)
      rw [getR_out hr hq hin]
      exact ⟨rfl, rfl⟩
end Go.Proofs.YtpfhleghgkeemaaGreatDoor
