import Derived.Test.YtpfhleghgkeemaaGreatDoorH11
import Derived.Test.YtpfhleghgkeemaaGreatDoorY3
import Derived.Test.YtpfhleghgkeemaaGreatDoorY2
namespace Go.Proofs.YtpfhleghgkeemaaGreatDoor
open Go Go.Sx
set_option linter.unusedVariables false
set_option linter.unusedSimpArgs false

/-- How much is used. -/
def usedN (l : List Nat) : Nat := (l.map (· + 1)).sum
def Ob.n (o : Ob) : Nat := o.cells.length
theorem usedN_snoc (l : List Nat) (n : Nat) : usedN (l ++ [n]) = usedN l + (n + 1) := by simp [usedN]
/-- A heap as it lies. -/
def heapB (g : Nat) (most : Int) (used : Nat) (a : Option Addr) (n c : Nat) : Ch := .blk g 59 [.bool true, .int .i64 most, .int .i64 used, .slice a n c]
def heapR (a : Option Addr) (c : Nat) (l : List Ob) : Ch := row 43 2 a l.length c (l.flatMap objC)
def heapS (l : List Ob) : Ch := star (l.map obRow)
def mostI (m : Int) : Int := if (if 4096 < m then 4096 else m) > 0 then if 4096 < m then 4096 else m else 0
theorem mostI_le (m : Int) : 0 ≤ mostI m ∧ mostI m ≤ 4096 := by
  unfold mostI; split <;> split <;> omega
theorem New_spec (m : Int) : Does Tryz.prog 16 [.int .i64 m] [] (fun v hp' => ∃ g, v = .pointer (some ⟨g, 0, none⟩) ∧ hp' = [.blk g 59 [.bool true, .int .i64 (mostI m), .int .i64 0, .slice none 0 0]]) := by
  refine fn_enter Tryz.func16 rfl 8 rfl fun w0 h0 => ?_
  refine SQ (RG ?_)
  refine RR [] .z (.i 2 (.pointer none) .a) .a ?_
  refine RZ (NT (SQ (RG ?_)))
  refine RP [] (.d (.d (.d (.d (.d .a))))) 7 (.k .z) .a 59 [.bool true, .int .i64 (if (if 4096 < m then 4096 else m) > 0 then if 4096 < m then 4096 else m else 0), .int .i64 0, .slice none 0 0] fun g1 => ?_
  refine RR [] .z (.i 2 (.pointer (some ⟨g1, 0, none⟩)) .z) (.i (.blk g1 59 [.bool true, .int .i64 (if (if 4096 < m then 4096 else m) > 0 then if 4096 < m then 4096 else m else 0), .int .i64 0, .slice none 0 0]) .z) ?_
  refine RZ (NT (RE ?_))
  refine NE [0] (.i (.blk g1 59 [.bool true, .int .i64 (if (if 4096 < m then 4096 else m) > 0 then if 4096 < m then 4096 else m else 0), .int .i64 0, .slice none 0 0]) .z) .z [] (.pointer (some ⟨g1, 0, none⟩)) ?_
  exact ⟨g1, rfl, rfl⟩
theorem is_spec (g : Nat) (x y : Value) (s : Value) : Does Tryz.prog 47 [.pointer (some ⟨g, 0, none⟩)] [.blk g 59 [.bool true, x, y, s]] (fun v hp' => v = .bool true ∧ hp' = [.blk g 59 [.bool true, x, y, s]]) := by
  refine fn_enter Tryz.func47 rfl 11 rfl fun w0 h0 => ?_
  refine SQ (RG ?_)
  refine RR [] .z (.i 2 (.bool false) .a) (.i (.blk g 59 [.bool true, x, y, s]) .z) ?_
  refine RZ (NT (SQ (RG ?_)))
  refine RR [0] .z (.i 2 (.bool true) .z) (.i (.blk g 59 [.bool true, x, y, s]) .z) ?_
  refine RZ (NT (RE ?_))
  refine NE [0] (.i (.blk g 59 [.bool true, x, y, s]) .z) .z [] (.bool true) ?_
  exact ⟨rfl, rfl⟩
theorem isRo_spec (g : Nat) (x y : Value) (s : Value) : Does Tryz.prog 47 [.pointer (some ⟨g, 0, none⟩)] [ro (some ⟨g, 0, none⟩) [.bool true, x, y, s]] (fun v hp' => v = .bool true ∧ hp' = []) := by
  refine fn_enter Tryz.func47 rfl 11 rfl fun w0 h0 => ?_
  refine SQ (RG ?_)
  refine RR [] .z (.i 2 (.bool false) .a) .a ?_
  refine RZ (NT (SQ (RG ?_)))
  refine RR [] (.d (.d (.d (.d (.d (.d .a)))))) (.i 8 (.pointer (some ⟨g, 0, none⟩)) (.i 5 (.bool true) (.k .z))) .a ?_
  refine wpr_eq (ld (t := 4) (a := ⟨g, 0, none⟩) (dst := some 9) (by kernel_rfl) false 1 (by kernel_rfl) (by simp) [.bool true] rfl (fun w h => ld_ro h 0 rfl 0 rfl)) ?_
  refine RR [] .z (.i 2 (.bool true) .z) .a ?_
  refine RZ (NT (RE ?_))
  refine NE [] .z .a [] (.bool true) ?_
  exact ⟨rfl, rfl⟩
theorem isNil_spec : Does Tryz.prog 47 [.pointer none] [] (fun v hp' => v = .bool false ∧ hp' = []) := by
  refine fn_enter Tryz.func47 rfl 11 rfl fun w0 h0 => ?_
  refine SQ (RG ?_)
  refine RR [] .z (.i 2 (.bool false) .a) .a ?_
  refine RZ (NT (SQ (RG ?_)))
  refine RR [] .z (.k .z) .a ?_
  refine RZ (NT (RE ?_))
  refine NE [] .a .a [] (.bool false) ?_
  exact ⟨rfl, rfl⟩
theorem isNot_spec (g : Nat) (x y : Value) (s : Value) : Does Tryz.prog 47 [.pointer (some ⟨g, 0, none⟩)] [.blk g 59 [.bool false, x, y, s]] (fun v hp' => v = .bool false ∧ hp' = [.blk g 59 [.bool false, x, y, s]]) := by
  refine fn_enter Tryz.func47 rfl 11 rfl fun w0 h0 => ?_
  refine SQ (RG ?_)
  refine RR [] .z (.i 2 (.bool false) .a) (.i (.blk g 59 [.bool false, x, y, s]) .z) ?_
  refine RZ (NT (SQ (RG ?_)))
  refine RR [0] .z (.k .z) (.i (.blk g 59 [.bool false, x, y, s]) .z) ?_
  refine RZ (NT (RE ?_))
  refine NE [0] (.i (.blk g 59 [.bool false, x, y, s]) .z) .z [] (.bool false) ?_
  exact ⟨rfl, rfl⟩
theorem CloneV_spec (a : Option Addr) (c : Nat) (l : List V) (ha : a = none → l = []) (hl : l.length ≤ 1048576) :
    Does Tryz.prog 51 [.slice a l.length c] [ro a (l.flatMap valC)] (fun r hp' => ∃ a' c', r = .slice a' l.length c' ∧ hp' = [row 28 3 a' l.length c' (l.flatMap valC)]) := by
  cases a with
  | none =>
    obtain rfl := ha rfl
    refine fn_enter Tryz.func51 rfl 8 rfl fun w0 h0 => ?_
    refine SQ (RG ?_)
    refine RR [] .z (.i 2 (.slice none 0 0) (.i 0 (.slice none 0 c) .z)) .a ?_
    refine RZ (NT (SQ (SQ (RG ?_))))
    refine RR [] .z (.i 4 (.bool true) .a) .a ?_
    refine RZ (NT (CT (SQ (RG ?_))))
    refine RR [] .z (.d (.k .a)) .a ?_
    refine RZ (NT (RE (TR ?_)))
    refine nx_ent (ent_nil 28 3) ?_
    refine NE [0] (.k .z) (.d (.k .a)) [] (.slice none 0 0) ?_
    exact ⟨none, 0, rfl, rfl⟩
  | some ad =>
    refine fn_enter Tryz.func51 rfl 8 rfl fun w0 h0 => ?_
    refine SQ (RG ?_)
    refine RR [] .z (.i 2 (.slice none 0 0) .a) .a ?_
    refine RZ (NT (SQ (SQ (RG ?_))))
    refine RR [] .z (.i 4 (.bool false) .a) .a ?_
    refine RZ (NT (CF (SK (NT (SQ (RG ?_))))))
    refine RN [] (.d .a) 5 (fun g1 => (.slice (some ⟨g1, 0, none⟩) 0 0)) (.d (.k .a)) .a 28 [] fun g1 => ?_
    refine RR [] (.d .a) (.i 6 (.slice (some ad) l.length c) (.k (.k .z))) (.k (.i (.blk g1 28 []) .z)) ?_
    refine wpr_ent (ent_turn 1 (row 28 3 (some ⟨g1, 0, none⟩) 0 0 []) rfl (turn_blk rfl (by intro u hu; cases hu) (by simp)) rfl) ?_
    refine wpr_app (a := (some ⟨g1, 0, none⟩)) (n := 0) (cap := 0) (x := (.slice (some ad) l.length c)) (t := 25) (xt := 25) (dst := some 7) (by kernel_rfl) (e := 28) (sz := 3) (bytes := 32) (by kernel_rfl) 1 (xs := []) (by kernel_rfl) (m := (l.length)) (news := (l.flatMap valC)) (fun w h => src_ro h 0 rfl (vals_len l) (fun e => by cases e)) (by unfold maxLen; omega) (by omega) ?_
    intro a1 c1 hn
    simp only [List.nil_append, Nat.zero_add]
    refine RR [] .z (.i 2 (.slice a1 l.length c1) .z) .a ?_
    refine RZ (NT (RE ?_))
    refine NE [1] (.d (.k .a)) (.k .z) [] (.slice a1 l.length c1) ?_
    exact ⟨a1, c1, rfl, rfl⟩
theorem objs_snoc (l : List Ob) (o : Ob) : l.flatMap objC ++ objC o = (l ++ [o]).flatMap objC := by simp
theorem objs_n1 (l : List Ob) (o : Ob) : l.length + 1 = (l ++ [o]).length := by simp
theorem obj_one (o : Ob) : Sx.One (objC o) := by have := objs_one [o]; simpa using this
theorem put_spec (g : Nat) (most : Int) (a : Option Addr) (c : Nat) (l : List Ob) (tag : List UInt8) (cells : List V) (oa : Option Addr) (oc : Nat) (hm : 0 ≤ most ∧ most ≤ 4096) (hu : (usedN (l.map Ob.n) : Int) ≤ most) (hl : l.length ≤ 4096) (ha : oa = none → cells = []) (hlc : cells.length ≤ oc) (hcl : cells.length ≤ 1048576) :
    Does Tryz.prog 49 [.pointer (some ⟨g, 0, none⟩), .agg #[.string (mkS tag), .slice oa cells.length oc]] [heapB g most (usedN (l.map Ob.n)) a l.length c, heapR a c l, heapS l, ro oa (cells.flatMap valC)]
      (fun v hp' => if (cells.length : Int) < most - usedN (l.map Ob.n) then ∃ a' c' o, v = .bool true ∧ o.tag = tag ∧ o.cells = cells ∧ hp' = [heapB g most (usedN ((l ++ [o]).map Ob.n)) a' (l ++ [o]).length c', heapR a' c' (l ++ [o]), heapS (l ++ [o])]
        else v = .bool false ∧ hp' = [heapB g most (usedN (l.map Ob.n)) a l.length c, heapR a c l, heapS l]) := by
  unfold heapB heapR heapS
  by_cases hf : (cells.length : Int) < most - usedN (l.map Ob.n)
  · refine fn_enter Tryz.func49 rfl 47 rfl fun w0 h0 => ?_
    refine SQ (RG ?_)
    refine RP [] (.d .a) 3 (.k .z) (.i (.blk g 59 [.bool true, .int .i64 most, .int .i64 (↑(usedN (List.map Ob.n l)) : Int), .slice a l.length c]) (.d (.k .a))) 43 [.string (mkS tag), .slice oa cells.length oc] fun g1 => ?_
    refine RR [] .z (.i 4 (.bool false) .a) (.i (.blk g 59 [.bool true, .int .i64 most, .int .i64 (↑(usedN (List.map Ob.n l)) : Int), .slice a l.length c]) (.d (.k (.k (.k (.i (.blk g1 43 [.string (mkS tag), .slice oa cells.length oc]) .z)))))) ?_
    refine RZ (NT (SQ (RG ?_)))
    refine RR [4] .z (.i 5 (.int .i64 (↑cells.length : Int)) .a) (.i (.blk g 59 [.bool true, .int .i64 most, .int .i64 (↑(usedN (List.map Ob.n l)) : Int), .slice a l.length c]) (.d (.k (.k (.k (.i (.blk g1 43 [.string (mkS tag), .slice oa cells.length oc]) .z)))))) ?_
    refine RZ (NT (SQ (SQ ?_)))
    refine wpc_draw (by kernel_rfl) [.blk g 59 [.bool true, .int .i64 most, .int .i64 (↑(usedN (List.map Ob.n l)) : Int), .slice a l.length c], row 43 2 a l.length c (List.flatMap objC l), star (List.map obRow l), ro oa (List.flatMap valC cells), .blk g1 43 [.string (mkS tag), .slice oa cells.length oc]] (sub_of [0, 1, 2, 3, 4] (by kernel_rfl)) 11 (by kernel_rfl) ?_
    refine wpa_take true [(0, []), (1, []), (2, []), (3, []), (4, [0]), (5, []), (6, []), (7, []), (8, [0]), (9, []), (10, [])] [(19, .bool (decide ((↑cells.length : Int) ≥ most - (↑(usedN (List.map Ob.n l)) : Int)))), (5, .int .i64 (↑cells.length : Int)), (4, .bool false), (3, .pointer (some ⟨g1, 0, none⟩)), (0, .pointer (some ⟨g, 0, none⟩))] (#[true, true, true, true, true, true, true, true, true, true, true]) [inI64 (most - (↑(usedN (List.map Ob.n l)) : Int))] (n := 0) (by kernel_rfl) (by kernel_rfl) (by kernel_rfl) ⟨by unfold inI64; omega, trivial⟩ ?_
    refine wpa_done 0 (by kernel_rfl) ?_
    refine NT ?_
    refine SC 19 (decide ((↑cells.length : Int) ≥ most - (↑(usedN (List.map Ob.n l)) : Int))) false (decide_eq_false (by omega)) ?_
    refine CF (SK (NT (SQ ?_)))
    refine wpc_draw (by kernel_rfl) [.blk g1 43 [.string (mkS tag), .slice oa cells.length oc]] (sub_of [4] (by kernel_rfl)) 19 (by kernel_rfl) ?_
    refine wpa_take true [(0, []), (1, []), (2, []), (3, []), (5, []), (6, [0]), (7, []), (8, [0]), (9, []), (10, []), (11, [])] [(31, .slice oa cells.length cells.length), (26, .string (mkS tag)), (23, .pointer (some ⟨g, 3, none⟩)), (20, .pointer (some ⟨g, 0, none⟩)), (5, .int .i64 (↑cells.length : Int)), (4, .bool false), (0, .pointer (some ⟨g, 0, none⟩))] (#[true, true, true, true, false, true, true, true, true, true, true, true, false, false, false, false, false, false, false]) [(0 : Int) ≤ (↑cells.length : Int) ∧ (↑cells.length : Int) ≤ (↑oc : Int), (0 : Int) ≤ (↑cells.length : Int) ∧ (↑cells.length : Int) ≤ (↑cells.length : Int)] (n := 8) (by kernel_rfl) (by kernel_rfl) (by kernel_rfl) ⟨by first | omega | decide | (simp; done), by first | omega | decide | (simp; done), trivial⟩ ?_
    refine wpa_joinx (X := {y : Option Addr × Nat × Ob // y.2.2.tag = tag ∧ y.2.2.cells = cells}) (fun y => St.mk [(5, .int .i64 cells.length), (4, .bool false), (0, .pointer (some ⟨g, 0, none⟩))]
      [.blk g 59 [.bool true, .int .i64 most, .int .i64 (usedN (l.map Ob.n) : Nat), .slice y.1.1 (l ++ [y.1.2.2]).length y.1.2.1], row 43 2 y.1.1 (l ++ [y.1.2.2]).length y.1.2.1 ((l ++ [y.1.2.2]).flatMap objC), star (l.map obRow), row 28 3 y.1.2.2.a y.1.2.2.cells.length y.1.2.2.c (y.1.2.2.cells.flatMap valC)]) (fun Q1 hQ1 hk => ?_) ?_
    · refine wpa_two (i := 4) (j := 12) (n := 7) (by kernel_rfl) ?_ ?_
      · refine wpi_one (n := 7) true 4 [0] [(24, .slice a l.length c), (31, .slice oa cells.length cells.length), (26, .string (mkS tag)), (20, .pointer (some ⟨g, 0, none⟩)), (5, .int .i64 (↑cells.length : Int)), (4, .bool false), (0, .pointer (some ⟨g, 0, none⟩))] [.blk g 59 [.bool true, .int .i64 most, .int .i64 (↑(usedN (List.map Ob.n l)) : Int), .slice a l.length c], row 43 2 a l.length c (List.flatMap objC l), star (List.map obRow l), ro oa (List.flatMap valC cells), .blk g1 43 [.string (mkS tag), .slice oa cells.length oc]] [] (by kernel_rfl) (by kernel_rfl) trivial (sub_of [4] (by kernel_rfl)) ?_
        refine AC (dst := some 32) 6 12 (.i (.blk g 59 [.bool true, .int .i64 most, .int .i64 (↑(usedN (List.map Ob.n l)) : Int), .slice a l.length c]) (.d (.k (.k (.k (.i (.blk g1 43 [.string (mkS tag), .slice oa cells.length oc]) .z)))))) (CloneV_spec oa cells.length cells ha hcl) (GV (GI []) 3 view_ro) [4] ?_
        rintro v _ ⟨a1, c1, rfl, rfl⟩
        refine TK 5 [(13, [])] (.i 33 (.agg #[.string (mkS tag), .slice a1 cells.length c1]) (.d (.k (.d (.d (.k .a)))))) (#[true, true, true, true, true, true, true, true, true, true, true, true, true, true, false, false, false, false, false]) ?_
        refine wpa_new (n := 4) true 14 [] (fun g2 => [(34, .slice (some ⟨g2, 0, none⟩) 1 1), (24, .slice a l.length c), (20, .pointer (some ⟨g, 0, none⟩)), (5, .int .i64 (↑cells.length : Int)), (4, .bool false), (0, .pointer (some ⟨g, 0, none⟩))]) (fun g2 => [row 28 3 a1 cells.length c1 (List.flatMap valC cells), .blk g 59 [.bool true, .int .i64 most, .int .i64 (↑(usedN (List.map Ob.n l)) : Int), .slice a l.length c], row 43 2 a l.length c (List.flatMap objC l), star (List.map obRow l), ro oa (List.flatMap valC cells), .blk g1 43 [.string (mkS tag), .slice oa cells.length oc], .blk g2 43 [.string (mkS tag), .slice a1 cells.length c1]]) (fun g2 => []) (by kernel_rfl) (fun g2 => by kernel_rfl) (fun g2 => by kernel_rfl) (fun g2 => trivial) (fun g2 => sub_of [5] (by kernel_rfl)) fun g2 => ?_
        refine wpa_ent (ent_turn 6 (ro (some ⟨g2, 0, none⟩) (objC (Ob.mk tag a1 c1 cells))) rfl (turn_rblk (l := objC (Ob.mk tag a1 c1 cells)) (obj_one _)) rfl) ?_
        refine wpa_app (i := 15) (nf := 3) (by kernel_rfl) (a := a) (n := l.length) (cap := c) (x := (.slice (some ⟨g2, 0, none⟩) 1 1)) (t := 37) (xt := 37) (dst := some 35) (by kernel_rfl) (e := 43) (sz := 2) (bytes := 40) (by kernel_rfl) 2 (xs := (List.flatMap objC l)) (by kernel_rfl) (m := 1) (news := (objC (Ob.mk tag a1 c1 cells))) (fun w h => src_ro h 6 rfl rfl (fun e => by cases e)) (by unfold maxLen; omega) (by omega) [4] (by kernel_rfl) ?_
        intro a2 c2 hn
        rw [objs_snoc, objs_n1 l (Ob.mk tag a1 c1 cells)]
        refine TK 1 [(16, []), (17, [])] (.i 37 (.pointer (some ⟨g, 3, none⟩)) (.k (.d (.d (.d (.k .a)))))) (#[true, true, true, true, true, true, true, true, true, true, true, true, true, true, true, true, true, true, false]) ?_
        refine AO 0 18 [1] (.d (.d (.k .a))) (.k (.i (.blk g 59 [.bool true, .int .i64 most, .int .i64 (↑(usedN (List.map Ob.n l)) : Int), .slice a2 (l ++ [Ob.mk tag a1 c1 cells]).length c2]) (.d (.k (.k (.k (.i (.blk g1 43 [.string (mkS tag), .slice oa cells.length oc]) (.d (.k .a))))))))) [5] ?_
        refine wpa_done 0 (by kernel_rfl) ?_
        exact nx_ent (ent_hp [1, 1, 1, 0] rfl) (nx_ent (ent_fr (by kernel_rfl)) (hk ⟨(a2, c2, (Ob.mk tag a1 c1 cells)), rfl, rfl⟩))
      · refine wpi_call (i := 12) (dst := some 32) (rest := [.blk g 59 [.bool true, .int .i64 most, .int .i64 (↑(usedN (List.map Ob.n l)) : Int), .slice a l.length c], row 43 2 a l.length c (List.flatMap objC l), star (List.map obRow l), ro oa (List.flatMap valC cells), .blk g1 43 [.string (mkS tag), .slice oa cells.length oc]]) (by kernel_rfl) (CloneV_spec oa cells.length cells ha hcl) (Give.view (c := (ro oa (List.flatMap valC cells))) (give (pre := []) (rest := [.blk g 59 [.bool true, .int .i64 most, .int .i64 (↑(usedN (List.map Ob.n l)) : Int), .slice a l.length c], row 43 2 a l.length c (List.flatMap objC l), star (List.map obRow l), ro oa (List.flatMap valC cells), .blk g1 43 [.string (mkS tag), .slice oa cells.length oc]]) [] (by kernel_rfl)) 3 (by kernel_rfl) view_ro) (sub_of [4] (by kernel_rfl)) ?_
        rintro v _ ⟨a1, c1, rfl, rfl⟩
        refine TK 6 [(13, [])] (.i 33 (.agg #[.string (mkS tag), .slice a1 cells.length c1]) (.d (.d (.d (.k .a))))) (#[true, true, true, true, false, true, true, true, true, true, true, true, true, true, false, false, false, false, false]) ?_
        refine wpa_two (i := 4) (j := 14) (n := 5) (by kernel_rfl) ?_ ?_
        · refine wpi_one (n := 5) true 4 [1] [(24, .slice a l.length c), (33, .agg #[.string (mkS tag), .slice a1 cells.length c1]), (20, .pointer (some ⟨g, 0, none⟩)), (5, .int .i64 (↑cells.length : Int)), (4, .bool false), (0, .pointer (some ⟨g, 0, none⟩))] [row 28 3 a1 cells.length c1 (List.flatMap valC cells), .blk g 59 [.bool true, .int .i64 most, .int .i64 (↑(usedN (List.map Ob.n l)) : Int), .slice a l.length c], row 43 2 a l.length c (List.flatMap objC l), star (List.map obRow l), ro oa (List.flatMap valC cells), .blk g1 43 [.string (mkS tag), .slice oa cells.length oc]] [] (by kernel_rfl) (by kernel_rfl) trivial (sub_of [5] (by kernel_rfl)) ?_
          refine wpa_new (n := 4) true 14 [] (fun g2 => [(34, .slice (some ⟨g2, 0, none⟩) 1 1), (24, .slice a l.length c), (20, .pointer (some ⟨g, 0, none⟩)), (5, .int .i64 (↑cells.length : Int)), (4, .bool false), (0, .pointer (some ⟨g, 0, none⟩))]) (fun g2 => [row 28 3 a1 cells.length c1 (List.flatMap valC cells), .blk g 59 [.bool true, .int .i64 most, .int .i64 (↑(usedN (List.map Ob.n l)) : Int), .slice a l.length c], row 43 2 a l.length c (List.flatMap objC l), star (List.map obRow l), ro oa (List.flatMap valC cells), .blk g1 43 [.string (mkS tag), .slice oa cells.length oc], .blk g2 43 [.string (mkS tag), .slice a1 cells.length c1]]) (fun g2 => []) (by kernel_rfl) (fun g2 => by kernel_rfl) (fun g2 => by kernel_rfl) (fun g2 => trivial) (fun g2 => sub_of [5] (by kernel_rfl)) fun g2 => ?_
          refine wpa_ent (ent_turn 6 (ro (some ⟨g2, 0, none⟩) (objC (Ob.mk tag a1 c1 cells))) rfl (turn_rblk (l := objC (Ob.mk tag a1 c1 cells)) (obj_one _)) rfl) ?_
          refine wpa_app (i := 15) (nf := 3) (by kernel_rfl) (a := a) (n := l.length) (cap := c) (x := (.slice (some ⟨g2, 0, none⟩) 1 1)) (t := 37) (xt := 37) (dst := some 35) (by kernel_rfl) (e := 43) (sz := 2) (bytes := 40) (by kernel_rfl) 2 (xs := (List.flatMap objC l)) (by kernel_rfl) (m := 1) (news := (objC (Ob.mk tag a1 c1 cells))) (fun w h => src_ro h 6 rfl rfl (fun e => by cases e)) (by unfold maxLen; omega) (by omega) [4] (by kernel_rfl) ?_
          intro a2 c2 hn
          rw [objs_snoc, objs_n1 l (Ob.mk tag a1 c1 cells)]
          refine TK 1 [(16, []), (17, [])] (.i 37 (.pointer (some ⟨g, 3, none⟩)) (.k (.d (.d (.d (.k .a)))))) (#[true, true, true, true, true, true, true, true, true, true, true, true, true, true, true, true, true, true, false]) ?_
          refine AO 0 18 [1] (.d (.d (.k .a))) (.k (.i (.blk g 59 [.bool true, .int .i64 most, .int .i64 (↑(usedN (List.map Ob.n l)) : Int), .slice a2 (l ++ [Ob.mk tag a1 c1 cells]).length c2]) (.d (.k (.k (.k (.i (.blk g1 43 [.string (mkS tag), .slice oa cells.length oc]) (.d (.k .a))))))))) [5] ?_
          refine wpa_done 0 (by kernel_rfl) ?_
          exact nx_ent (ent_hp [1, 1, 1, 0] rfl) (nx_ent (ent_fr (by kernel_rfl)) (hk ⟨(a2, c2, (Ob.mk tag a1 c1 cells)), rfl, rfl⟩))
        · refine wpi_new (n := 5) true 14 [] (fun g2 => [(34, .slice (some ⟨g2, 0, none⟩) 1 1), (23, .pointer (some ⟨g, 3, none⟩)), (20, .pointer (some ⟨g, 0, none⟩)), (5, .int .i64 (↑cells.length : Int)), (4, .bool false), (0, .pointer (some ⟨g, 0, none⟩))]) (fun g2 => [row 28 3 a1 cells.length c1 (List.flatMap valC cells), .blk g 59 [.bool true, .int .i64 most, .int .i64 (↑(usedN (List.map Ob.n l)) : Int), .slice a l.length c], row 43 2 a l.length c (List.flatMap objC l), star (List.map obRow l), ro oa (List.flatMap valC cells), .blk g1 43 [.string (mkS tag), .slice oa cells.length oc], .blk g2 43 [.string (mkS tag), .slice a1 cells.length c1]]) (fun g2 => []) (fun g2 => by kernel_rfl) (fun g2 => by kernel_rfl) (fun g2 => trivial) (fun g2 => sub_of [5] (by kernel_rfl)) fun g2 => ?_
          refine AO 4 4 [1] (.i 24 (.slice a l.length c) (.k (.d (.k .a)))) (.k (.i (.blk g 59 [.bool true, .int .i64 most, .int .i64 (↑(usedN (List.map Ob.n l)) : Int), .slice a l.length c]) (.d (.k (.k (.k (.i (.blk g1 43 [.string (mkS tag), .slice oa cells.length oc]) (.i (.blk g2 43 [.string (mkS tag), .slice a1 cells.length c1]) .z)))))))) [5] ?_
          refine wpa_ent (ent_turn 6 (ro (some ⟨g2, 0, none⟩) (objC (Ob.mk tag a1 c1 cells))) rfl (turn_rblk (l := objC (Ob.mk tag a1 c1 cells)) (obj_one _)) rfl) ?_
          refine wpa_app (i := 15) (nf := 3) (by kernel_rfl) (a := a) (n := l.length) (cap := c) (x := (.slice (some ⟨g2, 0, none⟩) 1 1)) (t := 37) (xt := 37) (dst := some 35) (by kernel_rfl) (e := 43) (sz := 2) (bytes := 40) (by kernel_rfl) 2 (xs := (List.flatMap objC l)) (by kernel_rfl) (m := 1) (news := (objC (Ob.mk tag a1 c1 cells))) (fun w h => src_ro h 6 rfl rfl (fun e => by cases e)) (by unfold maxLen; omega) (by omega) [4] (by kernel_rfl) ?_
          intro a2 c2 hn
          rw [objs_snoc, objs_n1 l (Ob.mk tag a1 c1 cells)]
          refine TK 1 [(16, []), (17, [])] (.i 37 (.pointer (some ⟨g, 3, none⟩)) (.k (.d (.d (.d (.k .a)))))) (#[true, true, true, true, true, true, true, true, true, true, true, true, true, true, true, true, true, true, false]) ?_
          refine AO 0 18 [1] (.d (.d (.k .a))) (.k (.i (.blk g 59 [.bool true, .int .i64 most, .int .i64 (↑(usedN (List.map Ob.n l)) : Int), .slice a2 (l ++ [Ob.mk tag a1 c1 cells]).length c2]) (.d (.k (.k (.k (.i (.blk g1 43 [.string (mkS tag), .slice oa cells.length oc]) (.d (.k .a))))))))) [5] ?_
          refine wpa_done 0 (by kernel_rfl) ?_
          exact nx_ent (ent_hp [1, 1, 1, 0] rfl) (nx_ent (ent_fr (by kernel_rfl)) (hk ⟨(a2, c2, (Ob.mk tag a1 c1 cells)), rfl, rfl⟩))
    · rintro ⟨⟨a2, c2, o⟩, ht, hc⟩
      dsimp only at ht hc ⊢
      have hu2 : ((usedN ((l ++ [o]).map Ob.n) : Nat) : Int) = (usedN (l.map Ob.n) : Nat) + ((cells.length : Int) + 1) := by
        rw [List.map_append, List.map_singleton, usedN_snoc]
        simp only [Ob.n, hc]; omega
      refine NT (SQ (RG ?_))
      refine RV true [0, 0] .z (.d (.k .z)) (.i (.blk g 59 [.bool true, .int .i64 most, .int .i64 ((↑(usedN (List.map Ob.n l)) : Int) + ((↑cells.length : Int) + 1)), .slice a2 (l ++ [o]).length c2]) (.d (.k .a))) ([inI64 ((↑cells.length : Int) + (1 : Int)), inI64 ((↑(usedN (List.map Ob.n l)) : Int) + ((↑cells.length : Int) + (1 : Int)))]) ⟨by unfold inI64; omega, by unfold inI64; omega, trivial⟩ ?_
      refine RZ (NT (SQ (RG ?_)))
      refine RR [] .z (.i 4 (.bool true) .z) (.i (.blk g 59 [.bool true, .int .i64 most, .int .i64 ((↑(usedN (List.map Ob.n l)) : Int) + ((↑cells.length : Int) + 1)), .slice a2 (l ++ [o]).length c2]) (.d (.k .a))) ?_
      refine RZ (NT (RE ?_))
      rw [← hu2]
      refine nx_ent (Ent.trans (ent_perm (List.perm_append_comm (l₁ := [_, _]) (l₂ := [_, _]))) (ent_star_snoc trivial)) ?_
      refine NE [1, 1, 0] (.i (.blk g 59 [.bool true, .int .i64 most, .int .i64 (↑(usedN (List.map Ob.n (l ++ [o]))) : Int), .slice a2 (l ++ [o]).length c2]) (.i (row 43 2 a2 (l ++ [o]).length c2 (List.flatMap objC (l ++ [o]))) (.k .z))) .z [] (.bool true) ?_
      rw [if_pos hf]
      exact ⟨a2, c2, o, rfl, ht, hc, by rw [List.map_append (f := obRow)]; rfl⟩
  · refine fn_enter Tryz.func49 rfl 47 rfl fun w0 h0 => ?_
    refine SQ (RG ?_)
    refine RP [] (.d .a) 3 (.k .z) (.i (.blk g 59 [.bool true, .int .i64 most, .int .i64 (↑(usedN (List.map Ob.n l)) : Int), .slice a l.length c]) (.d (.k .a))) 43 [.string (mkS tag), .slice oa cells.length oc] fun g1 => ?_
    refine RR [] .z (.i 4 (.bool false) .a) (.i (.blk g 59 [.bool true, .int .i64 most, .int .i64 (↑(usedN (List.map Ob.n l)) : Int), .slice a l.length c]) (.d (.k (.k (.k (.i (.blk g1 43 [.string (mkS tag), .slice oa cells.length oc]) .z)))))) ?_
    refine RZ (NT (SQ (RG ?_)))
    refine RR [4] .z (.i 5 (.int .i64 (↑cells.length : Int)) .a) (.i (.blk g 59 [.bool true, .int .i64 most, .int .i64 (↑(usedN (List.map Ob.n l)) : Int), .slice a l.length c]) (.d (.k (.k (.k (.i (.blk g1 43 [.string (mkS tag), .slice oa cells.length oc]) .z)))))) ?_
    refine RZ (NT (SQ (SQ ?_)))
    refine wpc_draw (by kernel_rfl) [.blk g 59 [.bool true, .int .i64 most, .int .i64 (↑(usedN (List.map Ob.n l)) : Int), .slice a l.length c], row 43 2 a l.length c (List.flatMap objC l), star (List.map obRow l), ro oa (List.flatMap valC cells), .blk g1 43 [.string (mkS tag), .slice oa cells.length oc]] (sub_of [0, 1, 2, 3, 4] (by kernel_rfl)) 11 (by kernel_rfl) ?_
    refine wpa_take true [(0, []), (1, []), (2, []), (3, []), (4, [0]), (5, []), (6, []), (7, []), (8, [0]), (9, []), (10, [])] [(19, .bool (decide ((↑cells.length : Int) ≥ most - (↑(usedN (List.map Ob.n l)) : Int)))), (5, .int .i64 (↑cells.length : Int)), (4, .bool false), (3, .pointer (some ⟨g1, 0, none⟩)), (0, .pointer (some ⟨g, 0, none⟩))] (#[true, true, true, true, true, true, true, true, true, true, true]) [inI64 (most - (↑(usedN (List.map Ob.n l)) : Int))] (n := 0) (by kernel_rfl) (by kernel_rfl) (by kernel_rfl) ⟨by unfold inI64; omega, trivial⟩ ?_
    refine wpa_done 0 (by kernel_rfl) ?_
    refine NT ?_
    refine SC 19 (decide ((↑cells.length : Int) ≥ most - (↑(usedN (List.map Ob.n l)) : Int))) true (decide_eq_true (by omega)) ?_
    refine CT (SQ (RG ?_))
    refine RR [] .z (.i 4 (.bool false) (.d (.d (.k (.d (.k .a)))))) (.i (.blk g 59 [.bool true, .int .i64 most, .int .i64 (↑(usedN (List.map Ob.n l)) : Int), .slice a l.length c]) (.d (.k (.k (.k (.i (.blk g1 43 [.string (mkS tag), .slice oa cells.length oc]) .z)))))) ?_
    refine RZ (NT (RE (TR ?_)))
    refine NE [0, 0, 0] (.i (.blk g 59 [.bool true, .int .i64 most, .int .i64 (↑(usedN (List.map Ob.n l)) : Int), .slice a l.length c]) (.d (.k (.k .z)))) (.d (.d (.d (.k (.i (.blk g1 43 [.string (mkS tag), .slice oa cells.length oc]) .z))))) [] (.bool false) ?_
    rw [if_neg hf]
    exact ⟨rfl, rfl⟩
end Go.Proofs.YtpfhleghgkeemaaGreatDoor
