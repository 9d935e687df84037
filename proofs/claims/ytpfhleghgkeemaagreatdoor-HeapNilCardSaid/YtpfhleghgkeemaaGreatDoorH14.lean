import Derived.Test.YtpfhleghgkeemaaGreatDoorH13
import Derived.Test.YtpfhleghgkeemaaGreatDoorY2
namespace Go.Proofs.YtpfhleghgkeemaaGreatDoor
open Go Go.Sx
set_option linter.unusedVariables false
set_option linter.unusedSimpArgs false

/-- Is a value a reference to one of so many objects? -/
def refB (v : V) (m : Nat) : Bool := decide (v.k = 4) && rightB v m
theorem refB_lt {v : V} {m : Nat} (h : refB v m = true) : v.k = 4 ∧ v.s = [] ∧ 0 ≤ v.n ∧ v.n < m := by
  unfold refB rightB at h
  simp only [Bool.and_eq_true, decide_eq_true_eq] at h
  obtain ⟨h1, h2⟩ := h
  rw [if_neg (by omega), if_neg (by omega), if_neg (by omega), if_neg (by omega), if_pos h1] at h2
  simp only [Bool.and_eq_true, decide_eq_true_eq] at h2
  exact ⟨h1, h2.1.1, h2.1.2, h2.2⟩
theorem object_spec (g : Nat) (most : Int) (used : Nat) (a : Option Addr) (c : Nat) (l : List Ob) (v : V) (hl : l.length ≤ 4096) (hv : v.sm) :
    Does Tryz.prog 52 [.pointer (some ⟨g, 0, none⟩), valV v] [heapB g most used a l.length c, heapR a c l]
      (fun r hp' => (if refB v l.length then ∃ g0 o0, a = some ⟨g0, o0, none⟩ ∧ r = .tuple #[.pointer (some ⟨g0, o0 + v.n.toNat * 2, none⟩), .int .i64 0] else r = .tuple #[.pointer none, .int .i64 2]) ∧ hp' = [heapB g most used a l.length c, heapR a c l]) := by
  have hck := Check_spec v l.length hv
  unfold heapB heapR
  by_cases hk : v.k = 4
  · have hR : refB v l.length = rightB v l.length := by unfold refB; rw [decide_eq_true hk]; rfl
    have hlt := @refB_lt v l.length
    rw [hR] at hlt ⊢
    obtain ⟨k, n, s⟩ := v
    dsimp only at hk hlt
    subst hk
    unfold valV at hck ⊢
    dsimp only at hck ⊢
    refine fn_enter Tryz.func52 rfl 31 rfl fun w0 h0 => ?_
    refine SQ (RG ?_)
    refine RP [] (.d .a) 3 (.k .z) (.i (.blk g 59 [.bool true, .int .i64 most, .int .i64 (↑used : Int), .slice a l.length c]) (.d (.k .a))) 28 [.int .i64 4, .int .i64 n, .string (mkS s)] fun g1 => ?_
    refine RR [] .z (.i 5 (.int .i64 0) (.i 4 (.pointer none) .a)) (.i (.blk g 59 [.bool true, .int .i64 most, .int .i64 (↑used : Int), .slice a l.length c]) (.d (.k (.i (.blk g1 28 [.int .i64 4, .int .i64 n, .string (mkS s)]) .z)))) ?_
    refine RZ (NT (SQ (BK (SQ (RG ?_)))))
    refine RR [] (.d .a) (.i 7 (.pointer (some ⟨g, 0, none⟩)) .a) (.i (.blk g 59 [.bool true, .int .i64 most, .int .i64 (↑used : Int), .slice a l.length c]) (.d (.k (.i (.blk g1 28 [.int .i64 4, .int .i64 n, .string (mkS s)]) .z)))) ?_
    refine RC (dst := some 8) [0] (.d (.k (.i (.blk g1 28 [.int .i64 4, .int .i64 n, .string (mkS s)]) .z))) (is_spec g (.int .i64 most) (.int .i64 used) (.slice a l.length c)) ?_
    rintro v _ ⟨rfl, rfl⟩
    refine RR [] .z (.i 6 (.bool false) (.d (.d (.k .a)))) (.i (.blk g 59 [.bool true, .int .i64 most, .int .i64 (↑used : Int), .slice a l.length c]) (.d (.k (.i (.blk g1 28 [.int .i64 4, .int .i64 n, .string (mkS s)]) .z)))) ?_
    refine RZ (NT (CF (SQ ?_)))
    refine wpc_draw (by kernel_rfl) [.blk g 59 [.bool true, .int .i64 most, .int .i64 (↑used : Int), .slice a l.length c], .blk g1 28 [.int .i64 4, .int .i64 n, .string (mkS s)]] (sub_of [0, 2] (by kernel_rfl)) 14 (by kernel_rfl) ?_
    refine TK 4 [(0, []), (1, [1]), (2, []), (3, []), (4, [1, 1, 1]), (5, []), (6, []), (7, []), (8, [0]), (9, [])] (.i 20 (.int .i64 (↑l.length : Int)) (.i 15 (.agg #[.int .i64 4, .int .i64 n, .string (mkS s)]) (.i 14 (.bool false) (.d (.k .a))))) (#[true, true, true, true, true, true, true, true, true, true, false, false, false, false]) ?_
    refine AC (dst := some 21) 3 10 (.i (.blk g 59 [.bool true, .int .i64 most, .int .i64 (↑used : Int), .slice a l.length c]) (.d (.k (.i (.blk g1 28 [.int .i64 4, .int .i64 n, .string (mkS s)]) .z)))) (hck) (GI []) [0, 2] ?_
    rintro v _ ⟨rfl, rfl⟩
    cases hr : rightB (V.mk 4 n s) l.length with
    | false =>
      refine TK 0 [(11, []), (12, []), (13, [])] (.i 10 (.bool true) (.d (.d (.d (.d (.k .a)))))) (#[true, true, true, true, true, true, true, true, true, true, true, true, true, true]) ?_
      refine wpa_done 0 (by kernel_rfl) ?_
      refine NT (CT (SQ (RG ?_)))
      refine RR [] .z (.i 5 (.int .i64 2) (.d (.d (.k .a)))) (.i (.blk g 59 [.bool true, .int .i64 most, .int .i64 (↑used : Int), .slice a l.length c]) (.d (.k (.i (.blk g1 28 [.int .i64 4, .int .i64 n, .string (mkS s)]) .z)))) ?_
      refine RZ (NT (RE (BR (TR ?_))))
      refine NE [0, 0] (.i (.blk g 59 [.bool true, .int .i64 most, .int .i64 (↑used : Int), .slice a l.length c]) (.d (.k .z))) (.i (.blk g1 28 [.int .i64 4, .int .i64 n, .string (mkS s)]) .z) [] (.tuple #[.pointer none, .int .i64 2]) ?_
      exact ⟨rfl, rfl⟩
    | true =>
      obtain ⟨_, hs0, hn0, hnl⟩ := hlt hr
      refine wpa_fact (fun w h => row_addr h 1 rfl (by omega)) ?_
      rintro ⟨g0, o0, rfl⟩
      refine TK 0 [(11, []), (12, []), (13, [])] (.i 10 (.bool false) (.d (.d (.d (.d (.k .a)))))) (#[true, true, true, true, true, true, true, true, true, true, true, true, true, true]) ?_
      refine wpa_done 0 (by kernel_rfl) ?_
      refine NT (CF (SK (BN (NT (SQ ?_)))))
      refine wpc_draw (by kernel_rfl) [.blk g 59 [.bool true, .int .i64 most, .int .i64 (↑used : Int), .slice (some ⟨g0, o0, none⟩) l.length c], row 43 2 (some ⟨g0, o0, none⟩) l.length c (List.flatMap objC l), .blk g1 28 [.int .i64 4, .int .i64 n, .string (mkS s)]] (sub_of [0, 1, 2] (by kernel_rfl)) 9 (by kernel_rfl) ?_
      refine wpa_take true [(0, []), (1, []), (2, []), (3, [0]), (4, []), (5, [2]), (6, []), (7, []), (8, [])] ([(5, .int .i64 0), (4, .pointer (some ⟨g0, o0 + n.toNat * 2, none⟩))]) (#[true, true, true, true, true, true, true, true, true]) [(0 : Int) ≤ n ∧ n < (↑l.length : Int)] (n := 0) (by kernel_rfl) (by kernel_rfl) (by kernel_rfl) ⟨by first | omega | decide | (simp; done), trivial⟩ ?_
      refine wpa_done 0 (by kernel_rfl) ?_
      refine NT (RE ?_)
      refine NE [0, 0] (.i (.blk g 59 [.bool true, .int .i64 most, .int .i64 (↑used : Int), .slice (some ⟨g0, o0, none⟩) l.length c]) (.d (.k .z))) (.i (.blk g1 28 [.int .i64 4, .int .i64 n, .string (mkS s)]) .z) [] (.tuple #[.pointer (some ⟨g0, o0 + n.toNat * 2, none⟩), .int .i64 0]) ?_
      exact ⟨⟨g0, o0, rfl, rfl⟩, rfl⟩
  · have hR : refB v l.length = false := by unfold refB; rw [decide_eq_false hk]; rfl
    rw [hR]
    obtain ⟨k, n, s⟩ := v
    dsimp only at hk
    unfold valV
    dsimp only
    refine fn_enter Tryz.func52 rfl 31 rfl fun w0 h0 => ?_
    refine SQ (RG ?_)
    refine RP [] (.d .a) 3 (.k .z) (.i (.blk g 59 [.bool true, .int .i64 most, .int .i64 (↑used : Int), .slice a l.length c]) (.d (.k .a))) 28 [.int .i64 k, .int .i64 n, .string (mkS s)] fun g1 => ?_
    refine RR [] .z (.i 5 (.int .i64 0) (.i 4 (.pointer none) .a)) (.i (.blk g 59 [.bool true, .int .i64 most, .int .i64 (↑used : Int), .slice a l.length c]) (.d (.k (.i (.blk g1 28 [.int .i64 k, .int .i64 n, .string (mkS s)]) .z)))) ?_
    refine RZ (NT (SQ (BK (SQ (RG ?_)))))
    refine RR [] (.d .a) (.i 7 (.pointer (some ⟨g, 0, none⟩)) .a) (.i (.blk g 59 [.bool true, .int .i64 most, .int .i64 (↑used : Int), .slice a l.length c]) (.d (.k (.i (.blk g1 28 [.int .i64 k, .int .i64 n, .string (mkS s)]) .z)))) ?_
    refine RC (dst := some 8) [0] (.d (.k (.i (.blk g1 28 [.int .i64 k, .int .i64 n, .string (mkS s)]) .z))) (is_spec g (.int .i64 most) (.int .i64 used) (.slice a l.length c)) ?_
    rintro v _ ⟨rfl, rfl⟩
    refine RR [] .z (.i 6 (.bool false) (.d (.d (.k .a)))) (.i (.blk g 59 [.bool true, .int .i64 most, .int .i64 (↑used : Int), .slice a l.length c]) (.d (.k (.i (.blk g1 28 [.int .i64 k, .int .i64 n, .string (mkS s)]) .z)))) ?_
    refine RZ (NT (CF (SQ ?_)))
    refine wpc_draw (by kernel_rfl) [.blk g 59 [.bool true, .int .i64 most, .int .i64 (↑used : Int), .slice a l.length c], .blk g1 28 [.int .i64 k, .int .i64 n, .string (mkS s)]] (sub_of [0, 2] (by kernel_rfl)) 14 (by kernel_rfl) ?_
    refine TK 10 [(0, []), (1, [1]), (2, []), (3, [])] (.i 14 (.bool (k != 4)) (.d (.k .a))) (#[true, true, true, true, false, false, false, false, false, false, false, false, false, false]) ?_
    refine SA 14 (k != 4) true (by simp only [bne_iff_ne, beq_iff_eq, ne_eq]; omega) ?_
    refine TK 0 [(4, []), (5, []), (6, []), (7, []), (8, []), (9, []), (10, []), (11, []), (12, []), (13, [])] (.i 10 (.bool true) (.d (.d (.k .a)))) (#[true, true, true, true, true, true, true, true, true, true, true, true, true, true]) ?_
    refine wpa_done 0 (by kernel_rfl) ?_
    refine NT (CT (SQ (RG ?_)))
    refine RR [] .z (.i 5 (.int .i64 2) (.d (.d (.k .a)))) (.i (.blk g 59 [.bool true, .int .i64 most, .int .i64 (↑used : Int), .slice a l.length c]) (.d (.k (.i (.blk g1 28 [.int .i64 k, .int .i64 n, .string (mkS s)]) .z)))) ?_
    refine RZ (NT (RE (BR (TR ?_))))
    refine NE [0, 0] (.i (.blk g 59 [.bool true, .int .i64 most, .int .i64 (↑used : Int), .slice a l.length c]) (.d (.k .z))) (.i (.blk g1 28 [.int .i64 k, .int .i64 n, .string (mkS s)]) .z) [] (.tuple #[.pointer none, .int .i64 2]) ?_
    exact ⟨rfl, rfl⟩
theorem obj_tag {l : List Ob} {q : Nat} (hq : q < l.length) : ((l.flatMap objC).drop (q * 2)).take 1 = [.string (mkS l[q].tag)] := by
  have := congrArg (List.take 1) (objs_at hq)
  rw [List.take_take] at this; exact this
theorem obj_cells {l : List Ob} {q : Nat} (hq : q < l.length) : ((l.flatMap objC).drop (q * 2 + 1)).take 1 = [.slice l[q].a l[q].cells.length l[q].c] := by
  have := congrArg (List.drop 1) (objs_at hq)
  rw [List.drop_take, List.drop_drop] at this
  exact this
def emptyO : O := ([], [])
/-- The object of a reference. -/
def objAt (l : List O) (v : V) : O := l.getD v.n.toNat emptyO
def Hp3 (g : Nat) (most : Int) (used : Nat) (a : Option Addr) (c : Nat) (l : List Ob) : Hp := [heapB g most used a l.length c, heapR a c l, heapS l]
theorem objAt_map {l : List Ob} {v : V} (h : v.n.toNat < l.length) : objAt (l.map Ob.o) v = l[v.n.toNat].o := by
  unfold objAt
  rw [List.getD_eq_getElem?_getD, List.getElem?_map, List.getElem?_eq_getElem h]; rfl
def lenR (l : List O) (v : V) : Int × Int := if refB v l.length then (((objAt l v).2.length : Nat), 0) else (0, 2)
def tagR (l : List O) (v : V) : List UInt8 × Int := if refB v l.length then ((objAt l v).1, 0) else ([], 2)
theorem Len_spec (g : Nat) (most : Int) (used : Nat) (a : Option Addr) (c : Nat) (l : List Ob) (v : V) (hl : l.length ≤ 4096) (hv : v.sm) :
    Does Tryz.prog 34 [.pointer (some ⟨g, 0, none⟩), valV v] (Hp3 g most used a c l)
      (fun r hp' => r = .tuple #[.int .i64 (lenR (l.map Ob.o) v).1, .int .i64 (lenR (l.map Ob.o) v).2] ∧ hp' = Hp3 g most used a c l) := by
  have hob := object_spec g most used a c l v hl hv
  unfold heapB heapR at hob
  unfold lenR
  rw [List.length_map]
  unfold Hp3 heapB heapR heapS
  refine fn_enter Tryz.func34 rfl 22 rfl fun w0 h0 => ?_
  refine SQ (RG ?_)
  refine RP [] (.d .a) 3 (.k .z) (.i (.blk g 59 [.bool true, .int .i64 most, .int .i64 (↑used : Int), .slice a l.length c]) (.d (.k .a))) 28 [.int .i64 v.k, .int .i64 v.n, .string (mkS v.s)] fun g1 => ?_
  refine RR [] .z (.i 5 (.int .i64 0) (.i 4 (.int .i64 0) .a)) (.i (.blk g 59 [.bool true, .int .i64 most, .int .i64 (↑used : Int), .slice a l.length c]) (.d (.k (.k (.i (.blk g1 28 [.int .i64 v.k, .int .i64 v.n, .string (mkS v.s)]) .z))))) ?_
  refine RZ (NT (SQ (RG ?_)))
  refine RR [3, 3, 3] (.d (.d .a)) (.i 10 (.agg #[.int .i64 v.k, .int .i64 v.n, .string (mkS v.s)]) (.i 9 (.pointer (some ⟨g, 0, none⟩)) (.k (.k .z)))) (.i (.blk g 59 [.bool true, .int .i64 most, .int .i64 (↑used : Int), .slice a l.length c]) (.d (.k (.k (.i (.blk g1 28 [.int .i64 v.k, .int .i64 v.n, .string (mkS v.s)]) .z))))) ?_
  refine RC (dst := some 11) [0, 0] (.d (.d (.k (.i (.blk g1 28 [.int .i64 v.k, .int .i64 v.n, .string (mkS v.s)]) .z)))) (hob) ?_
  rintro r _ ⟨h, rfl⟩
  cases hr : refB v l.length with
  | false =>
    rw [hr] at h
    obtain rfl := h
    refine RR [] .z (.i 7 (.int .i64 2) (.i 6 (.pointer none) (.d (.d (.d (.k .a)))))) (.i (.blk g 59 [.bool true, .int .i64 most, .int .i64 (↑used : Int), .slice a l.length c]) (.d (.k (.k (.i (.blk g1 28 [.int .i64 v.k, .int .i64 v.n, .string (mkS v.s)]) .z))))) ?_
    refine RZ (NT (SQ (SQ (RG ?_))))
    refine RR [] .z (.i 15 (.bool true) .a) (.i (.blk g 59 [.bool true, .int .i64 most, .int .i64 (↑used : Int), .slice a l.length c]) (.d (.k (.k (.i (.blk g1 28 [.int .i64 v.k, .int .i64 v.n, .string (mkS v.s)]) .z))))) ?_
    refine RZ (NT (CT (SQ (RG ?_))))
    refine RR [] .z (.i 5 (.int .i64 2) (.i 4 (.int .i64 0) (.d (.d (.k .z))))) (.i (.blk g 59 [.bool true, .int .i64 most, .int .i64 (↑used : Int), .slice a l.length c]) (.d (.k (.k (.i (.blk g1 28 [.int .i64 v.k, .int .i64 v.n, .string (mkS v.s)]) .z))))) ?_
    refine RZ (NT (RE (TR ?_)))
    refine NE [0, 0, 0] (.i (.blk g 59 [.bool true, .int .i64 most, .int .i64 (↑used : Int), .slice a l.length c]) (.d (.k (.k .z)))) (.i (.blk g1 28 [.int .i64 v.k, .int .i64 v.n, .string (mkS v.s)]) .z) [] (.tuple #[.int .i64 0, .int .i64 2]) ?_
    exact ⟨rfl, rfl⟩
  | true =>
    rw [hr, if_pos rfl] at h
    obtain ⟨g0, o0, rfl, rfl⟩ := h
    obtain ⟨_, hs0, hn0, hnl⟩ := refB_lt hr
    have hq : v.n.toNat < l.length := by omega
    refine RR [] .z (.i 7 (.int .i64 0) (.i 6 (.pointer (some ⟨g0, o0 + v.n.toNat * 2, none⟩)) (.d (.d (.d (.k .a)))))) (.i (.blk g 59 [.bool true, .int .i64 most, .int .i64 (↑used : Int), .slice (some ⟨g0, o0, none⟩) l.length c]) (.d (.k (.k (.i (.blk g1 28 [.int .i64 v.k, .int .i64 v.n, .string (mkS v.s)]) .z))))) ?_
    refine RZ (NT (SQ (SQ (RG ?_))))
    refine RR [] .z (.i 15 (.bool false) .a) (.i (.blk g 59 [.bool true, .int .i64 most, .int .i64 (↑used : Int), .slice (some ⟨g0, o0, none⟩) l.length c]) (.d (.k (.k (.i (.blk g1 28 [.int .i64 v.k, .int .i64 v.n, .string (mkS v.s)]) .z))))) ?_
    refine RZ (NT (CF (SK (NT (SQ (RG ?_))))))
    refine RR [] (.d (.d (.d .a))) (.i 19 (.pointer (some ⟨g0, o0 + v.n.toNat * 2 + 1, none⟩)) (.d (.d (.d (.k .a))))) (.i (.blk g 59 [.bool true, .int .i64 most, .int .i64 (↑used : Int), .slice (some ⟨g0, o0, none⟩) l.length c]) (.d (.k (.k (.i (.blk g1 28 [.int .i64 v.k, .int .i64 v.n, .string (mkS v.s)]) .z))))) ?_
    refine wpr_eq (ld (t := 25) (a := ⟨g0, o0 + v.n.toNat * 2 + 1, none⟩) (dst := some 20) (by kernel_rfl) false 1 (by kernel_rfl) (by simp) [.slice l[v.n.toNat].a l[v.n.toNat].cells.length l[v.n.toNat].c] rfl (fun w h => ld_row h 1 rfl (v.n.toNat * 2 + 1) (obj_cells hq))) ?_
    refine RR [] .z (.d (.d (.k (.i 4 (.int .i64 (↑l[v.n.toNat].cells.length : Int)) .z)))) (.i (.blk g 59 [.bool true, .int .i64 most, .int .i64 (↑used : Int), .slice (some ⟨g0, o0, none⟩) l.length c]) (.d (.k (.k (.i (.blk g1 28 [.int .i64 v.k, .int .i64 v.n, .string (mkS v.s)]) .z))))) ?_
    refine RZ (NT (RE ?_))
    refine NE [0, 0, 0] (.i (.blk g 59 [.bool true, .int .i64 most, .int .i64 (↑used : Int), .slice (some ⟨g0, o0, none⟩) l.length c]) (.d (.k (.k .z)))) (.i (.blk g1 28 [.int .i64 v.k, .int .i64 v.n, .string (mkS v.s)]) .z) [] (.tuple #[.int .i64 (↑l[v.n.toNat].cells.length : Int), .int .i64 0]) ?_
    rw [objAt_map hq]
    exact ⟨rfl, rfl⟩
theorem Tag_spec (g : Nat) (most : Int) (used : Nat) (a : Option Addr) (c : Nat) (l : List Ob) (v : V) (hl : l.length ≤ 4096) (hv : v.sm) :
    Does Tryz.prog 35 [.pointer (some ⟨g, 0, none⟩), valV v] (Hp3 g most used a c l)
      (fun r hp' => r = .tuple #[.string (mkS (tagR (l.map Ob.o) v).1), .int .i64 (tagR (l.map Ob.o) v).2] ∧ hp' = Hp3 g most used a c l) := by
  have hob := object_spec g most used a c l v hl hv
  unfold heapB heapR at hob
  unfold tagR
  rw [List.length_map]
  unfold Hp3 heapB heapR heapS
  refine fn_enter Tryz.func35 rfl 21 rfl fun w0 h0 => ?_
  refine SQ (RG ?_)
  refine RP [] (.d .a) 3 (.k .z) (.i (.blk g 59 [.bool true, .int .i64 most, .int .i64 (↑used : Int), .slice a l.length c]) (.d (.k .a))) 28 [.int .i64 v.k, .int .i64 v.n, .string (mkS v.s)] fun g1 => ?_
  refine RR [] .z (.i 5 (.int .i64 0) (.i 4 (.string ⟨#[]⟩) .a)) (.i (.blk g 59 [.bool true, .int .i64 most, .int .i64 (↑used : Int), .slice a l.length c]) (.d (.k (.k (.i (.blk g1 28 [.int .i64 v.k, .int .i64 v.n, .string (mkS v.s)]) .z))))) ?_
  refine RZ (NT (SQ (RG ?_)))
  refine RR [3, 3, 3] (.d (.d .a)) (.i 10 (.agg #[.int .i64 v.k, .int .i64 v.n, .string (mkS v.s)]) (.i 9 (.pointer (some ⟨g, 0, none⟩)) (.k (.k .z)))) (.i (.blk g 59 [.bool true, .int .i64 most, .int .i64 (↑used : Int), .slice a l.length c]) (.d (.k (.k (.i (.blk g1 28 [.int .i64 v.k, .int .i64 v.n, .string (mkS v.s)]) .z))))) ?_
  refine RC (dst := some 11) [0, 0] (.d (.d (.k (.i (.blk g1 28 [.int .i64 v.k, .int .i64 v.n, .string (mkS v.s)]) .z)))) (hob) ?_
  rintro r _ ⟨h, rfl⟩
  cases hr : refB v l.length with
  | false =>
    rw [hr] at h
    obtain rfl := h
    refine RR [] .z (.i 7 (.int .i64 2) (.i 6 (.pointer none) (.d (.d (.d (.k .a)))))) (.i (.blk g 59 [.bool true, .int .i64 most, .int .i64 (↑used : Int), .slice a l.length c]) (.d (.k (.k (.i (.blk g1 28 [.int .i64 v.k, .int .i64 v.n, .string (mkS v.s)]) .z))))) ?_
    refine RZ (NT (SQ (SQ (RG ?_))))
    refine RR [] .z (.i 15 (.bool true) .a) (.i (.blk g 59 [.bool true, .int .i64 most, .int .i64 (↑used : Int), .slice a l.length c]) (.d (.k (.k (.i (.blk g1 28 [.int .i64 v.k, .int .i64 v.n, .string (mkS v.s)]) .z))))) ?_
    refine RZ (NT (CT (SQ (RG ?_))))
    refine RR [] .z (.i 5 (.int .i64 2) (.i 4 (.string ⟨#[]⟩) (.d (.d (.k .z))))) (.i (.blk g 59 [.bool true, .int .i64 most, .int .i64 (↑used : Int), .slice a l.length c]) (.d (.k (.k (.i (.blk g1 28 [.int .i64 v.k, .int .i64 v.n, .string (mkS v.s)]) .z))))) ?_
    refine RZ (NT (RE (TR ?_)))
    refine NE [0, 0, 0] (.i (.blk g 59 [.bool true, .int .i64 most, .int .i64 (↑used : Int), .slice a l.length c]) (.d (.k (.k .z)))) (.i (.blk g1 28 [.int .i64 v.k, .int .i64 v.n, .string (mkS v.s)]) .z) [] (.tuple #[.string ⟨#[]⟩, .int .i64 2]) ?_
    exact ⟨rfl, rfl⟩
  | true =>
    rw [hr, if_pos rfl] at h
    obtain ⟨g0, o0, rfl, rfl⟩ := h
    obtain ⟨_, hs0, hn0, hnl⟩ := refB_lt hr
    have hq : v.n.toNat < l.length := by omega
    refine RR [] .z (.i 7 (.int .i64 0) (.i 6 (.pointer (some ⟨g0, o0 + v.n.toNat * 2, none⟩)) (.d (.d (.d (.k .a)))))) (.i (.blk g 59 [.bool true, .int .i64 most, .int .i64 (↑used : Int), .slice (some ⟨g0, o0, none⟩) l.length c]) (.d (.k (.k (.i (.blk g1 28 [.int .i64 v.k, .int .i64 v.n, .string (mkS v.s)]) .z))))) ?_
    refine RZ (NT (SQ (SQ (RG ?_))))
    refine RR [] .z (.i 15 (.bool false) .a) (.i (.blk g 59 [.bool true, .int .i64 most, .int .i64 (↑used : Int), .slice (some ⟨g0, o0, none⟩) l.length c]) (.d (.k (.k (.i (.blk g1 28 [.int .i64 v.k, .int .i64 v.n, .string (mkS v.s)]) .z))))) ?_
    refine RZ (NT (CF (SK (NT (SQ (RG ?_))))))
    refine RR [] (.d (.d (.d .a))) (.i 19 (.pointer (some ⟨g0, o0 + v.n.toNat * 2, none⟩)) (.d (.d (.d (.k .a))))) (.i (.blk g 59 [.bool true, .int .i64 most, .int .i64 (↑used : Int), .slice (some ⟨g0, o0, none⟩) l.length c]) (.d (.k (.k (.i (.blk g1 28 [.int .i64 v.k, .int .i64 v.n, .string (mkS v.s)]) .z))))) ?_
    refine wpr_eq (ld (t := 9) (a := ⟨g0, o0 + v.n.toNat * 2, none⟩) (dst := some 20) (by kernel_rfl) false 1 (by kernel_rfl) (by simp) [.string (mkS l[v.n.toNat].tag)] rfl (fun w h => ld_row h 1 rfl (v.n.toNat * 2) (obj_tag hq))) ?_
    refine RR [] .z (.d (.d (.k (.i 4 (.string (mkS l[v.n.toNat].tag)) .z)))) (.i (.blk g 59 [.bool true, .int .i64 most, .int .i64 (↑used : Int), .slice (some ⟨g0, o0, none⟩) l.length c]) (.d (.k (.k (.i (.blk g1 28 [.int .i64 v.k, .int .i64 v.n, .string (mkS v.s)]) .z))))) ?_
    refine RZ (NT (RE ?_))
    refine NE [0, 0, 0] (.i (.blk g 59 [.bool true, .int .i64 most, .int .i64 (↑used : Int), .slice (some ⟨g0, o0, none⟩) l.length c]) (.d (.k (.k .z)))) (.i (.blk g1 28 [.int .i64 v.k, .int .i64 v.n, .string (mkS v.s)]) .z) [] (.tuple #[.string (mkS l[v.n.toNat].tag), .int .i64 0]) ?_
    rw [objAt_map hq]
    exact ⟨rfl, rfl⟩
theorem Used_spec (g : Nat) (most : Int) (used : Nat) (s : Value) :
    Does Tryz.prog 20 [.pointer (some ⟨g, 0, none⟩)] [.blk g 59 [.bool true, .int .i64 most, .int .i64 used, s]]
      (fun r hp' => r = .int .i64 used ∧ hp' = [.blk g 59 [.bool true, .int .i64 most, .int .i64 used, s]]) := by
  refine fn_enter Tryz.func20 rfl 10 rfl fun w0 h0 => ?_
  refine SQ (RG ?_)
  refine RR [] .z (.i 2 (.int .i64 0) .a) (.i (.blk g 59 [.bool true, .int .i64 most, .int .i64 (↑used : Int), s]) .z) ?_
  refine RZ (NT (SQ (SQ (RG ?_))))
  refine RR [] (.d .a) (.i 3 (.pointer (some ⟨g, 0, none⟩)) .a) (.i (.blk g 59 [.bool true, .int .i64 most, .int .i64 (↑used : Int), s]) .z) ?_
  refine RCA (dst := some 4) (is_spec g (.int .i64 most) (.int .i64 used) s) ?_
  rintro v _ ⟨rfl, rfl⟩
  refine RR [] .z (.i 5 (.bool false) (.d (.d (.k .a)))) (.i (.blk g 59 [.bool true, .int .i64 most, .int .i64 (↑used : Int), s]) .z) ?_
  refine RZ (NT (CF (SK (NT (SQ (RG ?_))))))
  refine RR [0] .z (.i 2 (.int .i64 (↑used : Int)) .z) (.i (.blk g 59 [.bool true, .int .i64 most, .int .i64 (↑used : Int), s]) .z) ?_
  refine RZ (NT (RE ?_))
  refine NE [0] (.i (.blk g 59 [.bool true, .int .i64 most, .int .i64 (↑used : Int), s]) .z) .z [] (.int .i64 (↑used : Int)) ?_
  exact ⟨rfl, rfl⟩
end Go.Proofs.YtpfhleghgkeemaaGreatDoor
