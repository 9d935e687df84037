import Derived.Test.YtpfhleghgkeemaaGreatDoorH14
import Derived.Test.YtpfhleghgkeemaaGreatDoorY2
namespace Go.Proofs.YtpfhleghgkeemaaGreatDoor
open Go Go.Sx
set_option linter.unusedVariables false
set_option linter.unusedSimpArgs false

def inB (i : Int) (n : Nat) : Bool := decide (0 ≤ i) && decide (i < n)
def getR (l : List O) (v : V) (i : Int) : V × Int :=
  if refB v l.length then if inB i (objAt l v).2.length then ((objAt l v).2.getD i.toNat noV, 0) else (noV, 10) else (noV, 2)
theorem val_at {l : List V} {q : Nat} (hq : q < l.length) : l.getD q noV = l[q] := by
  rw [List.getD_eq_getElem?_getD, List.getElem?_eq_getElem hq]; rfl
theorem obRow_in {l : List Ob} {q : Nat} (hq : q < l.length) : row 28 3 l[q].a l[q].cells.length l[q].c (l[q].cells.flatMap valC) ∈ l.map obRow :=
  List.mem_map.2 ⟨l[q], List.getElem_mem hq, rfl⟩
theorem getR_no {l : List Ob} {v : V} {i : Int} (hr : refB v l.length = false) : getR (l.map Ob.o) v i = (noV, 2) := by
  unfold getR; rw [List.length_map, hr]; rfl
theorem getR_out {l : List Ob} {v : V} {i : Int} (hr : refB v l.length = true) (hq : v.n.toNat < l.length) (h : inB i l[v.n.toNat].cells.length = false) : getR (l.map Ob.o) v i = (noV, 10) := by
  unfold getR; rw [List.length_map, hr, objAt_map hq, if_pos rfl]; show (if inB i l[v.n.toNat].cells.length = true then _ else _) = _; rw [h]; rfl
theorem getR_in {l : List Ob} {v : V} {j : Nat} (hr : refB v l.length = true) (hq : v.n.toNat < l.length) (h : j < l[v.n.toNat].cells.length) : getR (l.map Ob.o) v j = (l[v.n.toNat].cells[j], 0) := by
  have hin : inB (j : Int) l[v.n.toNat].cells.length = true := by simp [inB, h]
  unfold getR; rw [List.length_map, hr, objAt_map hq, if_pos rfl]; show (if inB (j : Int) l[v.n.toNat].cells.length = true then (l[v.n.toNat].cells.getD _ noV, (0 : Int)) else _) = _
  rw [hin, if_pos rfl, Int.toNat_natCast, val_at h]
theorem Get_spec (g : Nat) (most : Int) (used : Nat) (a : Option Addr) (c : Nat) (l : List Ob) (v : V) (i : Int) (hl : l.length ≤ 4096) (hv : v.sm) :
    Does Tryz.prog 25 [.pointer (some ⟨g, 0, none⟩), valV v, .int .i64 i] (Hp3 g most used a c l)
      (fun r hp' => r = .tuple #[valV (getR (l.map Ob.o) v i).1, .int .i64 (getR (l.map Ob.o) v i).2] ∧ hp' = Hp3 g most used a c l) := by
  have hob := object_spec g most used a c l v hl hv
  unfold heapB heapR at hob
  unfold Hp3 heapB heapR heapS
  refine fn_enter Tryz.func25 rfl 41 rfl fun w0 h0 => ?_
  refine SQ (RG ?_)
  refine RP [] (.d .a) 4 (.k (.d (.k .a))) (.i (.blk g 59 [.bool true, .int .i64 most, .int .i64 (↑used : Int), .slice a l.length c]) (.d (.k .a))) 28 [.int .i64 v.k, .int .i64 v.n, .string (mkS v.s)] fun g1 => ?_
  refine RP [] (.d .a) 6 .a (.i (.blk g 59 [.bool true, .int .i64 most, .int .i64 (↑used : Int), .slice a l.length c]) (.d (.k (.k (.i (.blk g1 28 [.int .i64 v.k, .int .i64 v.n, .string (mkS v.s)]) .z))))) 28 [.int .i64 0, .int .i64 0, .string ⟨#[]⟩] fun g2 => ?_
  refine RR [] .z (.i 7 (.int .i64 0) .a) (.i (.blk g 59 [.bool true, .int .i64 most, .int .i64 (↑used : Int), .slice a l.length c]) (.d (.k (.k (.i (.blk g1 28 [.int .i64 v.k, .int .i64 v.n, .string (mkS v.s)]) (.i (.blk g2 28 [.int .i64 0, .int .i64 0, .string ⟨#[]⟩]) .z)))))) ?_
  refine RZ (NT (SQ (RG ?_)))
  refine RR [3, 3, 3] (.d (.d .a)) (.i 12 (.agg #[.int .i64 v.k, .int .i64 v.n, .string (mkS v.s)]) (.i 11 (.pointer (some ⟨g, 0, none⟩)) (.k (.k (.d (.d (.k .a))))))) (.i (.blk g 59 [.bool true, .int .i64 most, .int .i64 (↑used : Int), .slice a l.length c]) (.d (.k (.k (.i (.blk g1 28 [.int .i64 v.k, .int .i64 v.n, .string (mkS v.s)]) (.i (.blk g2 28 [.int .i64 0, .int .i64 0, .string ⟨#[]⟩]) .z)))))) ?_
  refine RC (dst := some 13) [0, 0] (.d (.d (.k (.i (.blk g1 28 [.int .i64 v.k, .int .i64 v.n, .string (mkS v.s)]) (.i (.blk g2 28 [.int .i64 0, .int .i64 0, .string ⟨#[]⟩]) .z))))) (hob) ?_
  rintro r _ ⟨h, rfl⟩
  cases hr : refB v l.length with
  | false =>
    rw [hr] at h
    obtain rfl := h
    refine RR [] .z (.i 9 (.int .i64 2) (.i 8 (.pointer none) (.d (.d (.d (.k .a)))))) (.i (.blk g 59 [.bool true, .int .i64 most, .int .i64 (↑used : Int), .slice a l.length c]) (.d (.k (.k (.i (.blk g1 28 [.int .i64 v.k, .int .i64 v.n, .string (mkS v.s)]) (.i (.blk g2 28 [.int .i64 0, .int .i64 0, .string ⟨#[]⟩]) .z)))))) ?_
    refine RZ (NT (SQ (BK (SQ (RG ?_)))))
    refine RR [] .z (.i 16 (.bool true) .a) (.i (.blk g 59 [.bool true, .int .i64 most, .int .i64 (↑used : Int), .slice a l.length c]) (.d (.k (.k (.i (.blk g1 28 [.int .i64 v.k, .int .i64 v.n, .string (mkS v.s)]) (.i (.blk g2 28 [.int .i64 0, .int .i64 0, .string ⟨#[]⟩]) .z)))))) ?_
    refine RZ (NT (CT (SQ (RG ?_))))
    refine RR [4, 4, 4] .z (.i 7 (.int .i64 2) (.d (.d (.k (.d (.k .a)))))) (.i (.blk g 59 [.bool true, .int .i64 most, .int .i64 (↑used : Int), .slice a l.length c]) (.d (.k (.k (.i (.blk g1 28 [.int .i64 v.k, .int .i64 v.n, .string (mkS v.s)]) (.i (.blk g2 28 [.int .i64 0, .int .i64 0, .string ⟨#[]⟩]) .z)))))) ?_
    refine RZ (NT (RE (BR (TR ?_))))
    refine NE [0, 0, 0] (.i (.blk g 59 [.bool true, .int .i64 most, .int .i64 (↑used : Int), .slice a l.length c]) (.d (.k (.k .z)))) (.i (.blk g1 28 [.int .i64 v.k, .int .i64 v.n, .string (mkS v.s)]) (.i (.blk g2 28 [.int .i64 0, .int .i64 0, .string ⟨#[]⟩]) .z)) [4, 4, 4] (.tuple #[.agg #[.int .i64 0, .int .i64 0, .string ⟨#[]⟩], .int .i64 2]) ?_
    rw [getR_no hr]
    exact ⟨rfl, rfl⟩
  | true =>
    rw [hr, if_pos rfl] at h
    obtain ⟨g0, o0, rfl, rfl⟩ := h
    obtain ⟨_, hs0, hn0, hnl⟩ := refB_lt hr
    have hq : v.n.toNat < l.length := by omega
    by_cases h0 : 0 ≤ i
    · by_cases h1 : i < l[v.n.toNat].cells.length
      · have hi2 : i.toNat < l[v.n.toNat].cells.length := by omega
        obtain ⟨j, rfl⟩ : ∃ j : Nat, i = j := ⟨i.toNat, by omega⟩
        rw [Int.toNat_natCast] at hi2
        refine wpr_fact (fun w h => star_addr h 2 rfl (obRow_in hq) (by omega)) ?_
        rintro ⟨gc, oc, hac⟩
        refine RR [] .z (.i 9 (.int .i64 0) (.i 8 (.pointer (some ⟨g0, o0 + v.n.toNat * 2, none⟩)) (.d (.d (.d (.k .a)))))) (.i (.blk g 59 [.bool true, .int .i64 most, .int .i64 (↑used : Int), .slice (some ⟨g0, o0, none⟩) l.length c]) (.d (.k (.k (.i (.blk g1 28 [.int .i64 v.k, .int .i64 v.n, .string (mkS v.s)]) (.i (.blk g2 28 [.int .i64 0, .int .i64 0, .string ⟨#[]⟩]) .z)))))) ?_
        refine RZ (NT (SQ (BK (SQ (RG ?_)))))
        refine RR [] .z (.i 16 (.bool false) .a) (.i (.blk g 59 [.bool true, .int .i64 most, .int .i64 (↑used : Int), .slice (some ⟨g0, o0, none⟩) l.length c]) (.d (.k (.k (.i (.blk g1 28 [.int .i64 v.k, .int .i64 v.n, .string (mkS v.s)]) (.i (.blk g2 28 [.int .i64 0, .int .i64 0, .string ⟨#[]⟩]) .z)))))) ?_
        refine RZ (NT (CF (SQ (RG ?_))))
        refine RR [] (.d (.d (.d (.d (.d (.d (.d .a))))))) (.i 28 (.pointer (some ⟨g0, o0 + v.n.toNat * 2 + 1, none⟩)) (.i 25 (.int .i64 (↑j : Int)) (.i 24 (.bool false) (.d (.d (.k .a)))))) (.i (.blk g 59 [.bool true, .int .i64 most, .int .i64 (↑used : Int), .slice (some ⟨g0, o0, none⟩) l.length c]) (.d (.k (.k (.i (.blk g1 28 [.int .i64 v.k, .int .i64 v.n, .string (mkS v.s)]) (.i (.blk g2 28 [.int .i64 0, .int .i64 0, .string ⟨#[]⟩]) .z)))))) ?_
        refine wpr_eq (ld (t := 25) (a := ⟨g0, o0 + v.n.toNat * 2 + 1, none⟩) (dst := some 29) (by kernel_rfl) false 1 (by kernel_rfl) (by simp) [.slice l[v.n.toNat].a l[v.n.toNat].cells.length l[v.n.toNat].c] rfl (fun w h => ld_row h 1 rfl (v.n.toNat * 2 + 1) (obj_cells hq))) ?_
        refine RR [] .z (.i 21 (.bool (decide ((↑j : Int) ≥ (↑l[v.n.toNat].cells.length : Int)))) (.d (.d (.d (.d (.k .a)))))) (.i (.blk g 59 [.bool true, .int .i64 most, .int .i64 (↑used : Int), .slice (some ⟨g0, o0, none⟩) l.length c]) (.d (.k (.k (.i (.blk g1 28 [.int .i64 v.k, .int .i64 v.n, .string (mkS v.s)]) (.i (.blk g2 28 [.int .i64 0, .int .i64 0, .string ⟨#[]⟩]) .z)))))) ?_
        refine RZ (NT ?_)
        refine SC 21 (decide ((↑j : Int) ≥ (↑l[v.n.toNat].cells.length : Int))) false (decide_eq_false (by omega)) ?_
        refine CF (SK (BN (NT (SQ (RG ?_)))))
        refine RR [] (.d (.d (.d .a))) (.i 36 (.pointer (some ⟨g0, o0 + v.n.toNat * 2 + 1, none⟩)) (.d (.d (.d (.k .a))))) (.i (.blk g 59 [.bool true, .int .i64 most, .int .i64 (↑used : Int), .slice (some ⟨g0, o0, none⟩) l.length c]) (.d (.k (.k (.i (.blk g1 28 [.int .i64 v.k, .int .i64 v.n, .string (mkS v.s)]) (.i (.blk g2 28 [.int .i64 0, .int .i64 0, .string ⟨#[]⟩]) .z)))))) ?_
        refine wpr_eq (ld (t := 25) (a := ⟨g0, o0 + v.n.toNat * 2 + 1, none⟩) (dst := some 37) (by kernel_rfl) false 1 (by kernel_rfl) (by simp) [.slice (some ⟨gc, oc, none⟩) l[v.n.toNat].cells.length l[v.n.toNat].c] rfl (fun w h => ld_row h 1 rfl (v.n.toNat * 2 + 1) ((obj_cells hq).trans (by rw [hac])))) ?_
        refine RV true [] (.d (.d .a)) (.i 39 (.pointer (some ⟨gc, oc + j * 3, none⟩)) (.d (.d (.k (.k .z))))) (.i (.blk g 59 [.bool true, .int .i64 most, .int .i64 (↑used : Int), .slice (some ⟨g0, o0, none⟩) l.length c]) (.d (.k (.k (.i (.blk g1 28 [.int .i64 v.k, .int .i64 v.n, .string (mkS v.s)]) (.i (.blk g2 28 [.int .i64 0, .int .i64 0, .string ⟨#[]⟩]) .z)))))) [(0 : Int) ≤ (↑j : Int) ∧ (↑j : Int) < (↑l[v.n.toNat].cells.length : Int)] ⟨by first | omega | decide | (simp; done), trivial⟩ ?_
        refine wpr_eq (ld (t := 28) (a := ⟨gc, oc + j * 3, none⟩) (dst := some 40) (by kernel_rfl) true 3 (by kernel_rfl) (by simp) (valC l[v.n.toNat].cells[j]) rfl (fun w h => ld_star h 2 rfl (hac ▸ obRow_in hq) (j * 3) (vals_at hi2))) ?_
        refine RR [4, 4, 4] .z (.d (.d (.k .a))) (.i (.blk g 59 [.bool true, .int .i64 most, .int .i64 (↑used : Int), .slice (some ⟨g0, o0, none⟩) l.length c]) (.d (.k (.k (.i (.blk g1 28 [.int .i64 v.k, .int .i64 v.n, .string (mkS v.s)]) (.i (.blk g2 28 [.int .i64 l[v.n.toNat].cells[j].k, .int .i64 l[v.n.toNat].cells[j].n, .string (mkS l[v.n.toNat].cells[j].s)]) .z)))))) ?_
        refine RZ (NT (RE ?_))
        refine NE [0, 0, 0] (.i (.blk g 59 [.bool true, .int .i64 most, .int .i64 (↑used : Int), .slice (some ⟨g0, o0, none⟩) l.length c]) (.d (.k (.k .z)))) (.i (.blk g1 28 [.int .i64 v.k, .int .i64 v.n, .string (mkS v.s)]) (.i (.blk g2 28 [.int .i64 l[v.n.toNat].cells[j].k, .int .i64 l[v.n.toNat].cells[j].n, .string (mkS l[v.n.toNat].cells[j].s)]) .z)) [4, 4, 4] (.tuple #[.agg #[.int .i64 l[v.n.toNat].cells[j].k, .int .i64 l[v.n.toNat].cells[j].n, .string (mkS l[v.n.toNat].cells[j].s)], .int .i64 0]) ?_
        rw [getR_in hr hq hi2]
        exact ⟨rfl, rfl⟩
      · have hin : inB i l[v.n.toNat].cells.length = false := by simp [inB, h1]
        refine RR [] .z (.i 9 (.int .i64 0) (.i 8 (.pointer (some ⟨g0, o0 + v.n.toNat * 2, none⟩)) (.d (.d (.d (.k .a)))))) (.i (.blk g 59 [.bool true, .int .i64 most, .int .i64 (↑used : Int), .slice (some ⟨g0, o0, none⟩) l.length c]) (.d (.k (.k (.i (.blk g1 28 [.int .i64 v.k, .int .i64 v.n, .string (mkS v.s)]) (.i (.blk g2 28 [.int .i64 0, .int .i64 0, .string ⟨#[]⟩]) .z)))))) ?_
        refine RZ (NT (SQ (BK (SQ (RG ?_)))))
        refine RR [] .z (.i 16 (.bool false) .a) (.i (.blk g 59 [.bool true, .int .i64 most, .int .i64 (↑used : Int), .slice (some ⟨g0, o0, none⟩) l.length c]) (.d (.k (.k (.i (.blk g1 28 [.int .i64 v.k, .int .i64 v.n, .string (mkS v.s)]) (.i (.blk g2 28 [.int .i64 0, .int .i64 0, .string ⟨#[]⟩]) .z)))))) ?_
        refine RZ (NT (CF (SQ (RG ?_))))
        refine RR [] (.d (.d (.d .a))) (.i 24 (.bool (decide (i < 0))) (.d (.d (.k .a)))) (.i (.blk g 59 [.bool true, .int .i64 most, .int .i64 (↑used : Int), .slice (some ⟨g0, o0, none⟩) l.length c]) (.d (.k (.k (.i (.blk g1 28 [.int .i64 v.k, .int .i64 v.n, .string (mkS v.s)]) (.i (.blk g2 28 [.int .i64 0, .int .i64 0, .string ⟨#[]⟩]) .z)))))) ?_
        refine SR 24 (decide (i < 0)) false (decide_eq_false (by omega)) ?_
        refine RR [] (.d (.d (.d (.d .a)))) (.i 28 (.pointer (some ⟨g0, o0 + v.n.toNat * 2 + 1, none⟩)) (.i 25 (.int .i64 i) (.k (.d (.k .a))))) (.i (.blk g 59 [.bool true, .int .i64 most, .int .i64 (↑used : Int), .slice (some ⟨g0, o0, none⟩) l.length c]) (.d (.k (.k (.i (.blk g1 28 [.int .i64 v.k, .int .i64 v.n, .string (mkS v.s)]) (.i (.blk g2 28 [.int .i64 0, .int .i64 0, .string ⟨#[]⟩]) .z)))))) ?_
        refine wpr_eq (ld (t := 25) (a := ⟨g0, o0 + v.n.toNat * 2 + 1, none⟩) (dst := some 29) (by kernel_rfl) false 1 (by kernel_rfl) (by simp) [.slice l[v.n.toNat].a l[v.n.toNat].cells.length l[v.n.toNat].c] rfl (fun w h => ld_row h 1 rfl (v.n.toNat * 2 + 1) (obj_cells hq))) ?_
        refine RR [] .z (.i 21 (.bool (decide (i ≥ (↑l[v.n.toNat].cells.length : Int)))) (.d (.d (.d (.d (.k .a)))))) (.i (.blk g 59 [.bool true, .int .i64 most, .int .i64 (↑used : Int), .slice (some ⟨g0, o0, none⟩) l.length c]) (.d (.k (.k (.i (.blk g1 28 [.int .i64 v.k, .int .i64 v.n, .string (mkS v.s)]) (.i (.blk g2 28 [.int .i64 0, .int .i64 0, .string ⟨#[]⟩]) .z)))))) ?_
        refine RZ (NT ?_)
        refine SC 21 (decide (i ≥ (↑l[v.n.toNat].cells.length : Int))) true (decide_eq_true (by omega)) ?_
        refine CT (SQ (RG ?_))
        refine RR [4, 4, 4] .z (.i 7 (.int .i64 10) (.d (.d (.k (.d (.k .a)))))) (.i (.blk g 59 [.bool true, .int .i64 most, .int .i64 (↑used : Int), .slice (some ⟨g0, o0, none⟩) l.length c]) (.d (.k (.k (.i (.blk g1 28 [.int .i64 v.k, .int .i64 v.n, .string (mkS v.s)]) (.i (.blk g2 28 [.int .i64 0, .int .i64 0, .string ⟨#[]⟩]) .z)))))) ?_
        refine RZ (NT (RE (BR (TR ?_))))
        refine NE [0, 0, 0] (.i (.blk g 59 [.bool true, .int .i64 most, .int .i64 (↑used : Int), .slice (some ⟨g0, o0, none⟩) l.length c]) (.d (.k (.k .z)))) (.i (.blk g1 28 [.int .i64 v.k, .int .i64 v.n, .string (mkS v.s)]) (.i (.blk g2 28 [.int .i64 0, .int .i64 0, .string ⟨#[]⟩]) .z)) [4, 4, 4] (.tuple #[.agg #[.int .i64 0, .int .i64 0, .string ⟨#[]⟩], .int .i64 10]) ?_
        rw [getR_out hr hq hin]
        exact ⟨rfl, rfl⟩
    · have hin : inB i l[v.n.toNat].cells.length = false := by simp [inB, h0]
      refine RR [] .z (.i 9 (.int .i64 0) (.i 8 (.pointer (some ⟨g0, o0 + v.n.toNat * 2, none⟩)) (.d (.d (.d (.k .a)))))) (.i (.blk g 59 [.bool true, .int .i64 most, .int .i64 (↑used : Int), .slice (some ⟨g0, o0, none⟩) l.length c]) (.d (.k (.k (.i (.blk g1 28 [.int .i64 v.k, .int .i64 v.n, .string (mkS v.s)]) (.i (.blk g2 28 [.int .i64 0, .int .i64 0, .string ⟨#[]⟩]) .z)))))) ?_
      refine RZ (NT (SQ (BK (SQ (RG ?_)))))
      refine RR [] .z (.i 16 (.bool false) .a) (.i (.blk g 59 [.bool true, .int .i64 most, .int .i64 (↑used : Int), .slice (some ⟨g0, o0, none⟩) l.length c]) (.d (.k (.k (.i (.blk g1 28 [.int .i64 v.k, .int .i64 v.n, .string (mkS v.s)]) (.i (.blk g2 28 [.int .i64 0, .int .i64 0, .string ⟨#[]⟩]) .z)))))) ?_
      refine RZ (NT (CF (SQ (RG ?_))))
      refine RR [] (.d (.d (.d .a))) (.i 24 (.bool (decide (i < 0))) (.d (.d (.k .a)))) (.i (.blk g 59 [.bool true, .int .i64 most, .int .i64 (↑used : Int), .slice (some ⟨g0, o0, none⟩) l.length c]) (.d (.k (.k (.i (.blk g1 28 [.int .i64 v.k, .int .i64 v.n, .string (mkS v.s)]) (.i (.blk g2 28 [.int .i64 0, .int .i64 0, .string ⟨#[]⟩]) .z)))))) ?_
      refine SR 24 (decide (i < 0)) true (decide_eq_true (by omega)) ?_
      refine RR [] .z (.i 21 (.bool true) (.d (.d (.k .a)))) (.i (.blk g 59 [.bool true, .int .i64 most, .int .i64 (↑used : Int), .slice (some ⟨g0, o0, none⟩) l.length c]) (.d (.k (.k (.i (.blk g1 28 [.int .i64 v.k, .int .i64 v.n, .string (mkS v.s)]) (.i (.blk g2 28 [.int .i64 0, .int .i64 0, .string ⟨#[]⟩]) .z)))))) ?_
      refine RZ (NT (CT (SQ (RG ?_))))
      refine RR [4, 4, 4] .z (.i 7 (.int .i64 10) (.d (.k (.d (.k .a))))) (.i (.blk g 59 [.bool true, .int .i64 most, .int .i64 (↑used : Int), .slice (some ⟨g0, o0, none⟩) l.length c]) (.d (.k (.k (.i (.blk g1 28 [.int .i64 v.k, .int .i64 v.n, .string (mkS v.s)]) (.i (.blk g2 28 [.int .i64 0, .int .i64 0, .string ⟨#[]⟩]) .z)))))) ?_
      refine RZ (NT (RE (BR (TR ?_))))
      refine NE [0, 0, 0] (.i (.blk g 59 [.bool true, .int .i64 most, .int .i64 (↑used : Int), .slice (some ⟨g0, o0, none⟩) l.length c]) (.d (.k (.k .z)))) (.i (.blk g1 28 [.int .i64 v.k, .int .i64 v.n, .string (mkS v.s)]) (.i (.blk g2 28 [.int .i64 0, .int .i64 0, .string ⟨#[]⟩]) .z)) [4, 4, 4] (.tuple #[.agg #[.int .i64 0, .int .i64 0, .string ⟨#[]⟩], .int .i64 10]) ?_
      rw [getR_out hr hq hin]
      exact ⟨rfl, rfl⟩
end Go.Proofs.YtpfhleghgkeemaaGreatDoor
