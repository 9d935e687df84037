import Derived.Test.YtpfhleghgkeemaaGreatDoorH16
import Derived.Test.YtpfhleghgkeemaaGreatDoorY2
namespace Go.Proofs.YtpfhleghgkeemaaGreatDoor
open Go Go.Sx
set_option linter.unusedVariables false
set_option linter.unusedSimpArgs false

theorem obRow_get {l : List Ob} {q : Nat} (hq : q < l.length) : (l.map obRow)[q]? = some (row 28 3 l[q].a l[q].cells.length l[q].c (l[q].cells.flatMap valC)) := by
  rw [List.getElem?_map, List.getElem?_eq_getElem hq]; rfl
theorem obRow_back {l : List Ob} {q : Nat} (hq : q < l.length) : (l.map obRow).set q (row 28 3 l[q].a l[q].cells.length l[q].c (l[q].cells.flatMap valC)) = l.map obRow := by
  show (l.map obRow).set q (obRow l[q]) = _
  rw [← List.map_set, List.set_getElem_self]
theorem obRo_in {l : List Ob} {q : Nat} (hq : q < l.length) : ro l[q].a (l[q].cells.flatMap valC) ∈ l.map obRo :=
  List.mem_map.2 ⟨l[q], List.getElem_mem hq, rfl⟩
theorem gob_nil {hp : Hp} {w : World} {i : Nat} {l : List Ob} {q : Nat} (h : HS hp w) (hi : hp[i]? = some (gBag l)) (hq : q < l.length) : l[q].a = none → l[q].cells = [] := fun hn => by
  rcases Nat.eq_zero_or_pos l[q].cells.length with h0 | h0
  · exact List.eq_nil_of_length_eq_zero h0
  · obtain ⟨g, off, e⟩ := bag_addr h i hi (obRo_in hq) (by rw [vals_len]; omega)
    rw [hn] at e; cases e
theorem take_snoc {α β : Type} (f : α → β) {l : List α} {i : Nat} (hi : i < l.length) : (l.take (i + 1)).map f = (l.take i).map f ++ [f l[i]] := by
  rw [← List.take_append_getElem hi, List.map_append]; rfl
/-- A heap that is read alone. -/
def heapG (g : Nat) (most : Int) (used : Nat) (a : Option Addr) (n c : Nat) : Ch := ro (some ⟨g, 0, none⟩) [.bool true, .int .i64 most, .int .i64 used, .slice a n c]
theorem All_spec (g : Nat) (most : Int) (used : Nat) (a : Option Addr) (c : Nat) (l : List Ob) (hl : l.length ≤ 4096) (hcl : ∀ o ∈ l, o.cells.length ≤ 1048576) :
    Does Tryz.prog 22 [.pointer (some ⟨g, 0, none⟩)] [ro (some ⟨g, 0, none⟩) [.bool true, .int .i64 most, .int .i64 used, .slice a l.length c], ro a (l.flatMap objC), gBag l]
      (fun r hp' => ∃ a' c' l', l'.map Ob.o = l.map Ob.o ∧ r = .slice a' l'.length c' ∧ hp' = [heapR a' c' l', heapS l']) := by
  unfold heapR heapS
  refine fn_enter Tryz.func22 rfl 29 rfl fun w0 h0 => ?_
  refine SQ (RG ?_)
  refine RR [] .z (.i 2 (.slice none 0 0) .a) .a ?_
  refine RZ (NT (SQ (SQ (RG ?_))))
  refine RR [] (.d .a) (.i 6 (.pointer (some ⟨g, 0, none⟩)) .a) .a ?_
  refine RCG (dst := some 7) .a (isRo_spec g (.int .i64 most) (.int .i64 used) (.slice a l.length c)) (GV (GI []) 0 view_ro) ?_
  rintro v _ ⟨rfl, rfl⟩
  refine RR [] .z (.i 8 (.bool false) (.d (.d (.k .a)))) .a ?_
  refine RZ (NT (CF (SK (NT (SQ (RG ?_))))))
  refine RR [] .z (.i 3 (.slice none 0 0) (.d (.k .a))) .a ?_
  refine RZ (NT (SQ (SQ (RG ?_))))
  refine RR [] (.d (.d (.d .a))) (.i 11 (.pointer (some ⟨g, 3, none⟩)) (.k (.k .z))) .a ?_
  refine wpr_eq (ld (t := 37) (a := ⟨g, 3, none⟩) (dst := some 12) (by kernel_rfl) false 1 (by kernel_rfl) (by simp) [.slice a l.length c] rfl (fun w h => ld_ro h 0 rfl 3 rfl)) ?_
  refine RR [] .z (.i 14 (.int .i64 0) (.i 13 (.int .i64 (↑l.length : Int)) (.i 12 (.slice a l.length c) (.d (.d (.k .a)))))) .a ?_
  refine RZ (NT (BK ?_))
  refine wpc_loop (X := {x : Nat × Option Addr × Nat × List Ob // x.1 ≤ l.length ∧ x.2.2.2.map Ob.o = (l.take x.1).map Ob.o}) (fun x => St.mk [(14, .int .i64 (x.1.1 : Int)), (13, .int .i64 l.length), (12, .slice a l.length c), (3, .slice x.1.2.1 x.1.2.2.2.length x.1.2.2.1)]
    [row 43 2 x.1.2.1 x.1.2.2.2.length x.1.2.2.1 (x.1.2.2.2.flatMap objC), star (x.1.2.2.2.map obRow), ro a (l.flatMap objC), gBag l]) (fun x => l.length - x.1.1) ⟨(0, none, 0, []), Nat.zero_le _, rfl⟩ ?_ ?_
  · exact Ent.trans (ent_star_nil) (Ent.trans (ent_nil 43 2) (Ent.trans (ent_hp [0, 0, 1, 1] rfl) (ent_fr (by kernel_rfl))))
  rintro ⟨⟨i, a1, c1, l1⟩, hi, hm⟩
  dsimp only at hi hm ⊢
  have hlen : l1.length = i := by have := congrArg List.length hm; simpa [List.length_take, Nat.min_eq_left hi] using this
  by_cases hlt : i < l.length
  · refine wpc_fact (fun w h => ro_addr h 2 rfl (by rw [objs_len]; omega)) ?_
    rintro ⟨g0, o0, rfl⟩
    refine wpc_fact (fun w h => gob_nil h (i := 3) rfl hlt) fun hnil => ?_
    refine SQ (RG ?_)
    refine RR [] .z (.i 15 (.bool (decide ((↑i : Int) < (↑l.length : Int)))) .a) .a ?_
    refine RZ (NT (SQ ?_))
    refine SC 15 (decide ((↑i : Int) < (↑l.length : Int))) true (decide_eq_true (by omega)) ?_
    refine CT (SK (NT (SQ (BK (SQ (RG ?_))))))
    refine RV true [] (.d .a) (.i 16 (.pointer (some ⟨g0, o0 + i * 2, none⟩)) (.d (.d (.k .a)))) .a [(0 : Int) ≤ (↑i : Int) ∧ (↑i : Int) < (↑l.length : Int)] ⟨by first | omega | decide | (simp; done), trivial⟩ ?_
    refine wpr_eq (ld (t := 43) (a := ⟨g0, o0 + i * 2, none⟩) (dst := some 17) (by kernel_rfl) true 2 (by kernel_rfl) (by simp) [.string (mkS l[i].tag), .slice l[i].a l[i].cells.length l[i].c] rfl (fun w h => ld_ro h 2 rfl (i * 2) (objs_at hlt))) ?_
    refine RP [] (.d .a) 5 (.i 17 (.agg #[.string (mkS l[i].tag), .slice l[i].2 l[i].cells.length l[i].c]) (.d (.d (.k .a)))) .a 43 [.string ⟨#[]⟩, .slice none 0 0] fun g1 => ?_
    refine RR [4, 4] .z (.k (.d (.k .a))) (.k (.k (.k (.k (.i (.blk g1 43 [.string (mkS l[i].tag), .slice l[i].2 l[i].cells.length l[i].c]) .z))))) ?_
    refine RZ (NT ?_)
    refine wpc_ent (ent_copy 3 (ro l[i].a (l[i].cells.flatMap valC)) rfl (fun h => h) (view_in (obRo_in hlt) view_ro)) ?_
    refine wpc_draw (by kernel_rfl) [.blk g1 43 [.string (mkS l[i].tag), .slice l[i].2 l[i].cells.length l[i].c]] (sub_of [5] (by kernel_rfl)) 10 (by kernel_rfl) ?_
    refine TK 5 [(0, []), (1, []), (2, [0]), (3, []), (4, [0])] (.i 22 (.slice l[i].2 l[i].cells.length l[i].c) (.i 20 (.string (mkS l[i].tag)) (.i 18 (.slice a1 l1.length c1) (.d (.k .a))))) (#[true, true, true, true, true, false, false, false, false, false]) ?_
    refine AC (dst := some 23) 4 5 (.k (.k (.k (.k (.k (.i (.blk g1 43 [.string (mkS l[i].tag), .slice l[i].2 l[i].cells.length l[i].c]) .z)))))) (CloneV_spec l[i].a l[i].c l[i].cells hnil (hcl _ (List.getElem_mem hlt))) (GV (GI []) 0 view_ro) [5] ?_
    rintro v _ ⟨a2, c2, rfl, rfl⟩
    refine TK 3 [(6, [])] (.i 24 (.agg #[.string (mkS l[i].tag), .slice a2 l[i].cells.length c2]) (.d (.d (.d (.k .a))))) (#[true, true, true, true, true, true, true, false, false, false]) ?_
    refine wpa_new (n := 2) true 7 [] (fun g2 => [(25, .slice (some ⟨g2, 0, none⟩) 1 1), (18, .slice a1 l1.length c1), (14, .int .i64 (↑i : Int)), (13, .int .i64 (↑l.length : Int)), (12, .slice (some ⟨g0, o0, none⟩) l.length c), (3, .slice a1 l1.length c1)]) (fun g2 => [row 28 3 a2 l[i].cells.length c2 (List.flatMap valC l[i].cells), ro l[i].a (List.flatMap valC l[i].cells), row 43 2 a1 l1.length c1 (List.flatMap objC l1), star (List.map obRow l1), ro (some ⟨g0, o0, none⟩) (List.flatMap objC l), gBag l, .blk g1 43 [.string (mkS l[i].tag), .slice l[i].2 l[i].cells.length l[i].c], .blk g2 43 [.string (mkS l[i].tag), .slice a2 l[i].cells.length c2]]) (fun g2 => []) (by kernel_rfl) (fun g2 => by kernel_rfl) (fun g2 => by kernel_rfl) (fun g2 => trivial) (fun g2 => sub_of [6] (by kernel_rfl)) fun g2 => ?_
    obtain ⟨o, ho⟩ : ∃ o, o = Ob.mk l[i].tag a2 c2 l[i].cells := ⟨_, rfl⟩
    refine wpa_ent (ent_turn (c := .blk g2 43 (objC o)) 7 (ro (some ⟨g2, 0, none⟩) (objC o)) (by rw [ho]; rfl) (turn_rblk (obj_one o)) rfl) ?_
    refine wpa_app (i := 8) (nf := 1) (by kernel_rfl) (a := a1) (n := l1.length) (cap := c1) (x := (.slice (some ⟨g2, 0, none⟩) 1 1)) (t := 37) (xt := 37) (dst := some 26) (by kernel_rfl) (e := 43) (sz := 2) (bytes := 40) (by kernel_rfl) 2 (xs := (List.flatMap objC l1)) (by kernel_rfl) (m := 1) (news := (objC o)) (fun w h => src_ro h 7 rfl rfl (fun e => by cases e)) (by unfold maxLen; omega) (by omega) [5] (by kernel_rfl) ?_
    intro a3 c3 hn
    rw [objs_snoc, objs_n1 l1 o]
    refine TK 0 [(9, [])] (.i 3 (.slice a3 (l1 ++ [o]).length c3) (.d (.d (.d (.k (.k (.k .z))))))) (#[true, true, true, true, true, true, true, true, true, true]) ?_
    refine wpa_done 0 (by kernel_rfl) ?_
    refine BN (NT (RG ?_))
    refine RV true [] .z (.i 14 (.int .i64 ((↑i : Int) + 1)) (.k (.d (.k .a)))) (.k (.k (.k (.k (.k (.k (.i (.blk g1 43 [.string (mkS l[i].tag), .slice l[i].2 l[i].cells.length l[i].c]) (.d (.k .a))))))))) ([inI64 ((↑i : Int) + (1 : Int))]) ⟨by unfold inI64; omega, trivial⟩ ?_
    refine RZ ?_
    have hrow : row 28 3 a2 l[i].cells.length c2 (l[i].cells.flatMap valC) = obRow o := by rw [ho]; rfl
    rw [hrow]
    refine nx_ent (Ent.trans (ent_hp [3, 0, 1, 1, 1] rfl) (ent_star_snoc trivial)) ?_
    rw [show l1.map obRow ++ [obRow o] = (l1 ++ [o]).map obRow by simp]
    exact fun a' w' hS' => ⟨⟨(i + 1, a3, c3, l1 ++ [o]), hlt, by rw [take_snoc Ob.o hlt, ← hm, List.map_append, ho]; rfl⟩, by dsimp only; omega, ent_fr (by kernel_rfl) _ _ (ent_hp [1, 0, 0, 0] rfl _ _ hS')⟩
  · obtain rfl : i = l.length := by omega
    rw [List.take_length] at hm
    refine SQ (RG ?_)
    refine RR [] .z (.i 15 (.bool (decide ((↑l.length : Int) < (↑l.length : Int)))) .a) .a ?_
    refine RZ (NT (SQ ?_))
    refine SC 15 (decide ((↑l.length : Int) < (↑l.length : Int))) false (by simp) ?_
    refine CF (EX (TE (TE (BH (NT (SQ (RG ?_)))))))
    refine RR [] .z (.i 2 (.slice a1 l1.length c1) .z) .a ?_
    refine RZ (NT (RE ?_))
    refine NE [0, 0] (.k (.k .z)) (.d (.d (.k .a))) [] (.slice a1 l1.length c1) ?_
    exact ⟨a1, c1, l1, hm, rfl, rfl⟩
theorem Copy_spec (g : Nat) (most : Int) (used : Nat) (a : Option Addr) (c : Nat) (l : List Ob) (hl : l.length ≤ 4096) (hcl : ∀ o ∈ l, o.cells.length ≤ 1048576) :
    Does Tryz.prog 33 [.pointer (some ⟨g, 0, none⟩)] [ro (some ⟨g, 0, none⟩) [.bool true, .int .i64 most, .int .i64 used, .slice a l.length c], ro a (l.flatMap objC), gBag l]
      (fun r hp' => ∃ g' a' c' l', l'.map Ob.o = l.map Ob.o ∧ r = .pointer (some ⟨g', 0, none⟩) ∧ hp' = Hp3 g' most used a' c' l') := by
  have hall := All_spec g most used a c l hl hcl
  unfold Hp3 heapB
  unfold heapR heapS at hall ⊢
  refine fn_enter Tryz.func33 rfl 18 rfl fun w0 h0 => ?_
  refine SQ (RG ?_)
  refine RR [] .z (.i 2 (.pointer none) .a) .a ?_
  refine RZ (NT (SQ (SQ (RG ?_))))
  refine RR [] (.d .a) (.i 3 (.pointer (some ⟨g, 0, none⟩)) .a) .a ?_
  refine RCG (dst := some 4) .a (isRo_spec g (.int .i64 most) (.int .i64 used) (.slice a l.length c)) (GV (GI []) 0 view_ro) ?_
  rintro v _ ⟨rfl, rfl⟩
  refine RR [] .z (.i 5 (.bool false) (.d (.d (.k .a)))) .a ?_
  refine RZ (NT (CF (SK (NT (SQ ?_)))))
  refine wpc_draw (by kernel_rfl) [ro (some ⟨g, 0, none⟩) [.bool true, .int .i64 most, .int .i64 (↑used : Int), .slice a l.length c]] (sub_of [0] (by kernel_rfl)) 13 (by kernel_rfl) ?_
  refine TK 6 [(0, []), (1, []), (2, []), (4, []), (5, []), (6, []), (8, [])] (.i 14 (.pointer (some ⟨g, 0, none⟩)) (.i 12 (.pointer (some ⟨g, 2, none⟩)) (.i 8 (.pointer (some ⟨g, 1, none⟩)) (.d (.k .z))))) (#[true, true, true, false, true, true, true, false, true, false, false, false, false]) ?_
  refine wpa_qld (i := 3) (n := 5) (by kernel_rfl) (by kernel_rfl) (by kernel_rfl) (t := 3) (a := ⟨g, 1, none⟩) (dst := some 9) (by kernel_rfl) false 1 (by kernel_rfl) (by simp) [.int .i64 most] rfl (fun w h => ld_roL h 0 rfl 1 rfl) ?_
  refine wpa_qld (i := 7) (n := 4) (by kernel_rfl) (by kernel_rfl) (by kernel_rfl) (t := 3) (a := ⟨g, 2, none⟩) (dst := some 13) (by kernel_rfl) false 1 (by kernel_rfl) (by simp) [.int .i64 used] rfl (fun w h => ld_roL h 0 rfl 2 rfl) ?_
  refine AC (dst := some 15) 3 9 .a (hall) (GV (GV (GV (GI []) 2 view_self) 1 view_ro) 0 view_ro) [0] ?_
  rintro v _ ⟨a2, c2, l2, hm, rfl, rfl⟩
  refine TK 2 [(10, [])] (.i 16 (.agg #[.bool true, .int .i64 most, .int .i64 (↑used : Int), .slice a2 l2.length c2]) (.d (.d (.d (.d (.d (.d (.k .a)))))))) (#[true, true, true, true, true, true, true, true, true, true, true, false, false]) ?_
  refine wpa_new (n := 1) true 11 [] (fun g1 => [(17, .pointer (some ⟨g1, 0, none⟩)), (2, .pointer none)]) (fun g1 => [row 43 2 a2 l2.length c2 (List.flatMap objC l2), star (List.map obRow l2), ro (some ⟨g, 0, none⟩) [.bool true, .int .i64 most, .int .i64 (↑used : Int), .slice a l.length c], ro a (List.flatMap objC l), gBag l, .blk g1 59 [.bool true, .int .i64 most, .int .i64 (↑used : Int), .slice a2 l2.length c2]]) (fun g1 => []) (by kernel_rfl) (fun g1 => by kernel_rfl) (fun g1 => by kernel_rfl) (fun g1 => trivial) (fun g1 => sub_of [2] (by kernel_rfl)) fun g1 => ?_
  refine TK 0 [(12, [])] (.i 2 (.pointer (some ⟨g1, 0, none⟩)) .z) (#[true, true, true, true, true, true, true, true, true, true, true, true, true]) ?_
  refine wpa_done 0 (by kernel_rfl) ?_
  refine NT (RE ?_)
  refine NE [5, 0, 0] (.i (.blk g1 59 [.bool true, .int .i64 most, .int .i64 (↑used : Int), .slice a2 l2.length c2]) (.k (.k .z))) (.d (.d (.k (.k (.k .z))))) [] (.pointer (some ⟨g1, 0, none⟩)) ?_
  exact ⟨_, a2, c2, l2, hm, rfl, rfl⟩
end Go.Proofs.YtpfhleghgkeemaaGreatDoor
