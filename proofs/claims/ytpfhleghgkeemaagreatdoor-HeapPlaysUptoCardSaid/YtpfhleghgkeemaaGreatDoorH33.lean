import Derived.Test.YtpfhleghgkeemaaGreatDoorH32
import Derived.Test.YtpfhleghgkeemaaGreatDoorY3
import Derived.Test.YtpfhleghgkeemaaGreatDoorY2
namespace Go.Proofs.YtpfhleghgkeemaaGreatDoor
open Go Go.Sx
set_option linter.unusedVariables false
set_option linter.unusedSimpArgs false

theorem SameVals_spec (a1 : Option Addr) (c1 : Nat) (l1 : List V) (a2 : Option Addr) (c2 : Nat) (l2 : List V) (hl1 : l1.length ≤ 1048576) (hl2 : l2.length ≤ 1048576) :
    Does Tryz.prog 53 [.slice a1 l1.length c1, .slice a2 l2.length c2] [ro a1 (l1.flatMap valC), ro a2 (l2.flatMap valC)] (fun v hp' => v = .bool (decide (l1 = l2)) ∧ hp' = []) := by
  by_cases hlen : l1.length = l2.length
  · refine fn_enter Tryz.func53 rfl 26 rfl fun w0 h0 => ?_
    refine SQ (RG ?_)
    refine RR [] .z (.i 4 (.bool false) .a) .a ?_
    refine RZ (NT (SQ (SQ (RG ?_))))
    refine RR [] .z (.i 10 (.bool ((↑l1.length : Int) != (↑l2.length : Int))) .a) .a ?_
    refine RZ (NT ?_)
    refine SC 10 ((↑l1.length : Int) != (↑l2.length : Int)) false (by simp only [bne_eq_false_iff_eq, beq_eq_false_iff_ne, ne_eq]; omega) ?_
    refine CF (SK (NT (SQ (SQ (RG ?_)))))
    refine RR [] .z (.i 5 (.int .i64 0) (.d (.d (.k .a)))) .a ?_
    refine RZ (NT (BK ?_))
    refine wpc_loop (X := {i : Nat // i ≤ l1.length ∧ l1.take i = l2.take i}) (fun x => St.mk [(5, .int .i64 (x.1 : Int)), (4, .bool false), (0, .slice a1 l1.length c1), (1, .slice a2 l2.length c2)] [ro a1 (l1.flatMap valC), ro a2 (l2.flatMap valC)]) (fun x => l1.length - x.1) ⟨0, Nat.zero_le _, rfl⟩ (ent_fr (by kernel_rfl)) ?_
    rintro ⟨i, hi, he⟩
    dsimp only at hi he ⊢
    by_cases hlt : i < l1.length
    · have hlt2 : i < l2.length := by omega
      refine wpc_fact (fun w h => ro_addr h 0 rfl (by rw [vals_len]; omega)) ?_
      rintro ⟨g1, o1, rfl⟩
      refine wpc_fact (fun w h => ro_addr h 1 rfl (by rw [vals_len]; omega)) ?_
      rintro ⟨g2, o2, rfl⟩
      refine SQ (SQ (RG ?_))
      refine RR [] .z (.i 14 (.bool (decide ((↑i : Int) < (↑l1.length : Int)))) .a) .a ?_
      refine RZ (NT ?_)
      refine SC 14 (decide ((↑i : Int) < (↑l1.length : Int))) true (decide_eq_true (by omega)) ?_
      refine CT (SK (NT (SQ (BK (SQ ?_)))))
      refine wpc_draw (by kernel_rfl) [ro (some ⟨g1, o1, none⟩) (List.flatMap valC l1), ro (some ⟨g2, o2, none⟩) (List.flatMap valC l2)] (sub_of [0, 1] (by kernel_rfl)) 9 (by kernel_rfl) ?_
      refine wpa_take true [(0, []), (1, []), (2, []), (4, []), (5, []), (6, [])] ([(23, .pointer (some ⟨g2, o2 + i * 3, none⟩)), (19, .pointer (some ⟨g1, o1 + i * 3, none⟩)), (5, .int .i64 (↑i : Int)), (4, .bool false), (0, .slice (some ⟨g1, o1, none⟩) l1.length c1), (1, .slice (some ⟨g2, o2, none⟩) l2.length c2)]) (#[true, true, true, false, true, true, true, false, false]) [(0 : Int) ≤ (↑i : Int) ∧ (↑i : Int) < (↑l1.length : Int), (0 : Int) ≤ (↑i : Int) ∧ (↑i : Int) < (↑l2.length : Int)] (n := 3) (by kernel_rfl) (by kernel_rfl) (by kernel_rfl) ⟨by first | omega | decide | (simp; done), by first | omega | decide | (simp; done), trivial⟩ ?_
      refine wpa_qld (i := 3) (n := 2) (by kernel_rfl) (by kernel_rfl) (by kernel_rfl) (t := 28) (a := ⟨g1, o1 + i * 3, none⟩) (dst := some 20) (by kernel_rfl) true 3 (by kernel_rfl) (by simp) (valC l1[i]) rfl (fun w h => ld_roL h 0 rfl (i * 3) (vals_at hlt)) ?_
      refine wpa_qld (i := 7) (n := 1) (by kernel_rfl) (by kernel_rfl) (by kernel_rfl) (t := 28) (a := ⟨g2, o2 + i * 3, none⟩) (dst := some 24) (by kernel_rfl) true 3 (by kernel_rfl) (by simp) (valC l2[i]) rfl (fun w h => ld_roL h 1 rfl (i * 3) (vals_at hlt2)) ?_
      refine wpa_eqc (i := 8) (n := 0) (by kernel_rfl) (b := false) (t := 28) (xs := (valC l1[i])) (ys := (valC l2[i])) (dst := some 25) (by kernel_rfl) (by kernel_rfl) (sub_of [0, 1] (by kernel_rfl)) ?_
      intro r hr
      rw [valC_iff] at hr
      by_cases hx : l1[i] = l2[i]
      · obtain rfl : r = true := hr.2 hx
        refine wpa_done 0 (by kernel_rfl) ?_
        refine NT (CF (SK (BN (NT (RG ?_)))))
        refine RV true [] .z (.i 5 (.int .i64 ((↑i : Int) + 1)) (.d (.d (.d (.d (.d (.d (.k .a)))))))) .a ([inI64 ((↑i : Int) + (1 : Int))]) ⟨by unfold inI64; omega, trivial⟩ ?_
        refine RZ ?_
        exact fun a' w' hS' => ⟨⟨i + 1, hlt, by rw [← List.take_append_getElem hlt, ← List.take_append_getElem hlt2, he, hx]⟩, by dsimp only; omega, ent_fr (by kernel_rfl) _ _ (ent_hp [0, 0] rfl _ _ hS')⟩
      · obtain rfl : r = false := by cases r with | true => exact absurd (hr.1 rfl) hx | false => rfl
        refine wpa_done 0 (by kernel_rfl) ?_
        refine NT (CT (SQ (RG ?_)))
        refine RR [] .z (.i 4 (.bool false) (.d (.d (.d (.d (.d (.k (.d (.k .a))))))))) .a ?_
        refine RZ (NT (RE (BR (TR (TR (BR (TR ?_)))))))
        refine NE [] .z .a [] (.bool false) ?_
        exact ⟨by rw [decide_eq_false (fun e => hx (by simp only [e]))], rfl⟩
    · obtain rfl : i = l1.length := by omega
      have hall : l1 = l2 := by rw [List.take_length, hlen, List.take_length] at he; exact he
      refine SQ (SQ (RG ?_))
      refine RR [] .z (.i 14 (.bool (decide ((↑l1.length : Int) < (↑l1.length : Int)))) .a) .a ?_
      refine RZ (NT ?_)
      refine SC 14 (decide ((↑l1.length : Int) < (↑l1.length : Int))) false (by simp) ?_
      refine CF (EX (TE (TE (BH (NT (SQ (RG ?_)))))))
      refine RR [] .z (.i 4 (.bool true) .z) .a ?_
      refine RZ (NT (RE ?_))
      refine NE [] .z .a [] (.bool true) ?_
      exact ⟨by rw [decide_eq_true hall], rfl⟩
  · rw [decide_eq_false (fun e => hlen (by rw [e]))]
    refine fn_enter Tryz.func53 rfl 26 rfl fun w0 h0 => ?_
    refine SQ (RG ?_)
    refine RR [] .z (.i 4 (.bool false) .a) .a ?_
    refine RZ (NT (SQ (SQ (RG ?_))))
    refine RR [] .z (.i 10 (.bool ((↑l1.length : Int) != (↑l2.length : Int))) .a) .a ?_
    refine RZ (NT ?_)
    refine SC 10 ((↑l1.length : Int) != (↑l2.length : Int)) true (by simp only [bne_iff_ne, beq_iff_eq, ne_eq]; omega) ?_
    refine CT (SQ (RG ?_))
    refine RR [] .z (.d (.d (.k .a))) .a ?_
    refine RZ (NT (RE (TR ?_)))
    refine NE [] .z .a [] (.bool false) ?_
    exact ⟨rfl, rfl⟩
theorem obj_fld {l : List Ob} {q : Nat} (hq : q < l.length) (k m : Nat) (h : k + m ≤ 2) : ((l.flatMap objC).drop (q * 2 + k)).take m = ((objC l[q]).drop k).take m := by
  rw [← objs_at hq, List.drop_take, List.drop_drop, List.take_take, Nat.min_eq_left (by omega)]
theorem obs_o {l1 l2 : List Ob} {i : Nat} (h1 : i < l1.length) (h2 : i < l2.length) (he : (l1.take i).map Ob.o = (l2.take i).map Ob.o) (ht : l1[i].tag = l2[i].tag) (hc : l1[i].cells = l2[i].cells) : (l1.take (i + 1)).map Ob.o = (l2.take (i + 1)).map Ob.o := by
  rw [take_snoc Ob.o h1, take_snoc Ob.o h2, he]
  unfold Ob.o
  rw [ht, hc]
theorem ob_ne {l1 l2 : List Ob} {i : Nat} (h1 : i < l1.length) (h2 : i < l2.length) (h : ¬ (l1[i].tag = l2[i].tag ∧ l1[i].cells = l2[i].cells)) : l1.map Ob.o ≠ l2.map Ob.o := fun e => h (by
  have h3 : (l1.map Ob.o)[i]? = (l2.map Ob.o)[i]? := by rw [e]
  rw [List.getElem?_map, List.getElem?_map, List.getElem?_eq_getElem h1, List.getElem?_eq_getElem h2] at h3
  have h4 := Option.some.inj h3
  unfold Ob.o at h4
  exact ⟨(Prod.mk.inj h4).1, (Prod.mk.inj h4).2⟩)
theorem Same_spec (a1 : Option Addr) (c1 : Nat) (l1 : List Ob) (a2 : Option Addr) (c2 : Nat) (l2 : List Ob) (hl1 : l1.length ≤ 1048576) (hl2 : l2.length ≤ 1048576) (hc1 : ∀ o ∈ l1, o.cells.length ≤ 1048576) (hc2 : ∀ o ∈ l2, o.cells.length ≤ 1048576) :
    Does Tryz.prog 24 [.slice a1 l1.length c1, .slice a2 l2.length c2] [ro a1 (l1.flatMap objC), gBag l1, ro a2 (l2.flatMap objC), gBag l2] (fun v hp' => v = .bool (decide (l1.map Ob.o = l2.map Ob.o)) ∧ hp' = []) := by
  by_cases hlen : l1.length = l2.length
  · refine fn_enter Tryz.func24 rfl 42 rfl fun w0 h0 => ?_
    refine SQ (RG ?_)
    refine RR [] .z (.i 4 (.bool false) .a) .a ?_
    refine RZ (NT (SQ (SQ (RG ?_))))
    refine RR [] .z (.i 10 (.bool ((↑l1.length : Int) != (↑l2.length : Int))) .a) .a ?_
    refine RZ (NT ?_)
    refine SC 10 ((↑l1.length : Int) != (↑l2.length : Int)) false (by simp only [bne_eq_false_iff_eq, beq_eq_false_iff_ne, ne_eq]; omega) ?_
    refine CF (SK (NT (SQ (SQ (RG ?_)))))
    refine RR [] .z (.i 5 (.int .i64 0) (.d (.d (.k .a)))) .a ?_
    refine RZ (NT (BK ?_))
    refine wpc_loop (X := {i : Nat // i ≤ l1.length ∧ (l1.take i).map Ob.o = (l2.take i).map Ob.o}) (fun x => St.mk [(5, .int .i64 (x.1 : Int)), (4, .bool false), (0, .slice a1 l1.length c1), (1, .slice a2 l2.length c2)] [ro a1 (l1.flatMap objC), gBag l1, ro a2 (l2.flatMap objC), gBag l2]) (fun x => l1.length - x.1) ⟨0, Nat.zero_le _, rfl⟩ (ent_fr (by kernel_rfl)) ?_
    rintro ⟨i, hi, he⟩
    dsimp only at hi he ⊢
    by_cases hlt : i < l1.length
    · have hlt2 : i < l2.length := by omega
      refine wpc_fact (fun w h => ro_addr h 0 rfl (by rw [objs_len]; omega)) ?_
      rintro ⟨g1, o1, rfl⟩
      refine wpc_fact (fun w h => ro_addr h 2 rfl (by rw [objs_len]; omega)) ?_
      rintro ⟨g2, o2, rfl⟩
      refine SQ (SQ (RG ?_))
      refine RR [] .z (.i 14 (.bool (decide ((↑i : Int) < (↑l1.length : Int)))) .a) .a ?_
      refine RZ (NT ?_)
      refine SC 14 (decide ((↑i : Int) < (↑l1.length : Int))) true (decide_eq_true (by omega)) ?_
      refine CT (SK (NT (SQ (BK (SQ ?_)))))
      refine wpc_draw (by kernel_rfl) [ro (some ⟨g1, o1, none⟩) (List.flatMap objC l1), ro (some ⟨g2, o2, none⟩) (List.flatMap objC l2)] (sub_of [0, 2] (by kernel_rfl)) 25 (by kernel_rfl) ?_
      refine wpa_take true [(0, []), (1, []), (2, []), (3, []), (5, []), (6, []), (7, []), (8, [])] ([(25, .pointer (some ⟨g2, o2 + i * 2, none⟩)), (20, .pointer (some ⟨g1, o1 + i * 2, none⟩)), (5, .int .i64 (↑i : Int)), (4, .bool false), (0, .slice (some ⟨g1, o1, none⟩) l1.length c1), (1, .slice (some ⟨g2, o2, none⟩) l2.length c2)]) (#[true, true, true, true, false, true, true, true, true, false, false, false, false, false, false, false, false, false, false, false, false, false, false, false, false]) [(0 : Int) ≤ (↑i : Int) ∧ (↑i : Int) < (↑l1.length : Int), (0 : Int) ≤ (↑i : Int) ∧ (↑i : Int) < (↑l2.length : Int)] (n := 17) (by kernel_rfl) (by kernel_rfl) (by kernel_rfl) ⟨by first | omega | decide | (simp; done), by first | omega | decide | (simp; done), trivial⟩ ?_
      refine wpa_qld (i := 4) (n := 16) (by kernel_rfl) (by kernel_rfl) (by kernel_rfl) (t := 9) (a := ⟨g1, o1 + i * 2, none⟩) (dst := some 21) (by kernel_rfl) false 1 (by kernel_rfl) (by simp) [.string (mkS l1[i].tag)] rfl (fun w h => ld_roL h 0 rfl (i * 2 + 0) (obj_fld hlt 0 1 (by decide))) ?_
      refine wpa_qld (i := 9) (n := 15) (by kernel_rfl) (by kernel_rfl) (by kernel_rfl) (t := 9) (a := ⟨g2, o2 + i * 2, none⟩) (dst := some 26) (by kernel_rfl) false 1 (by kernel_rfl) (by simp) [.string (mkS l2[i].tag)] rfl (fun w h => ld_roL h 1 rfl (i * 2 + 0) (obj_fld hlt2 0 1 (by decide))) ?_
      refine TK 13 [(10, []), (11, [])] (.i 28 (.bool !decide (l1[i].tag = l2[i].tag)) (.d (.d (.d (.d (.k .a)))))) (#[true, true, true, true, true, true, true, true, true, true, true, true, false, false, false, false, false, false, false, false, false, false, false, false, false]) ?_
      by_cases ht : l1[i].tag = l2[i].tag
      · refine SA 28 (!decide (l1[i].tag = l2[i].tag)) false (by simp [ht]) ?_
        refine wpa_take true [(12, []), (13, []), (14, []), (15, []), (17, []), (18, []), (19, []), (20, [])] ([(37, .pointer (some ⟨g2, o2 + i * 2 + 1, none⟩)), (32, .pointer (some ⟨g1, o1 + i * 2 + 1, none⟩)), (28, .bool false), (5, .int .i64 (↑i : Int)), (4, .bool false), (0, .slice (some ⟨g1, o1, none⟩) l1.length c1), (1, .slice (some ⟨g2, o2, none⟩) l2.length c2)]) (#[true, true, true, true, true, true, true, true, true, true, true, true, true, true, true, true, false, true, true, true, true, false, false, false, false]) [(0 : Int) ≤ (↑i : Int) ∧ (↑i : Int) < (↑l1.length : Int), (0 : Int) ≤ (↑i : Int) ∧ (↑i : Int) < (↑l2.length : Int)] (n := 5) (by kernel_rfl) (by kernel_rfl) (by kernel_rfl) ⟨by first | omega | decide | (simp; done), by first | omega | decide | (simp; done), trivial⟩ ?_
        refine wpa_qld (i := 16) (n := 4) (by kernel_rfl) (by kernel_rfl) (by kernel_rfl) (t := 25) (a := ⟨g1, o1 + i * 2 + 1, none⟩) (dst := some 33) (by kernel_rfl) false 1 (by kernel_rfl) (by simp) [.slice l1[i].a l1[i].cells.length l1[i].c] rfl (fun w h => ld_roL h 0 rfl (i * 2 + 1) (obj_fld hlt 1 1 (by decide))) ?_
        refine wpa_qld (i := 21) (n := 3) (by kernel_rfl) (by kernel_rfl) (by kernel_rfl) (t := 25) (a := ⟨g2, o2 + i * 2 + 1, none⟩) (dst := some 38) (by kernel_rfl) false 1 (by kernel_rfl) (by simp) [.slice l2[i].a l2[i].cells.length l2[i].c] rfl (fun w h => ld_roL h 1 rfl (i * 2 + 1) (obj_fld hlt2 1 1 (by decide))) ?_
        refine wpa_ent (ent_copy 1 (ro l1[i].a (l1[i].cells.flatMap valC)) rfl (fun h => h) (view_in (obRo_in hlt) view_ro)) ?_
        refine wpa_ent (ent_copy 4 (ro l2[i].a (l2[i].cells.flatMap valC)) rfl (fun h => h) (view_in (obRo_in hlt2) view_ro)) ?_
        refine AC (dst := some 39) 2 22 .a (SameVals_spec l1[i].a l1[i].c l1[i].cells l2[i].a l2[i].c l2[i].cells (hc1 _ (List.getElem_mem hlt)) (hc2 _ (List.getElem_mem hlt2))) (GV (GV (GI []) 0 view_ro) 1 view_ro) [2, 4] ?_
        rintro v _ ⟨rfl, rfl⟩
        by_cases hc : l1[i].cells = l2[i].cells
        · rw [decide_eq_true hc]
          refine TK 0 [(23, []), (24, [])] (.i 41 (.bool false) (.d (.d (.d (.d (.d (.d (.k .a)))))))) (#[true, true, true, true, true, true, true, true, true, true, true, true, true, true, true, true, true, true, true, true, true, true, true, true, true]) ?_
          refine wpa_done 0 (by kernel_rfl) ?_
          refine NT (CF (SK (BN (NT (RG ?_)))))
          refine RV true [] .z (.i 5 (.int .i64 ((↑i : Int) + 1)) (.d (.d (.k .a)))) .a ([inI64 ((↑i : Int) + (1 : Int))]) ⟨by unfold inI64; omega, trivial⟩ ?_
          refine RZ ?_
          exact fun a' w' hS' => ⟨⟨i + 1, hlt, obs_o hlt hlt2 he ht hc⟩, by dsimp only; omega, ent_fr (by kernel_rfl) _ _ (ent_hp [2, 2, 2, 2] rfl _ _ hS')⟩
        · rw [decide_eq_false hc]
          refine TK 0 [(23, []), (24, [])] (.i 41 (.bool true) (.d (.d (.d (.d (.d (.d (.k .a)))))))) (#[true, true, true, true, true, true, true, true, true, true, true, true, true, true, true, true, true, true, true, true, true, true, true, true, true]) ?_
          refine wpa_done 0 (by kernel_rfl) ?_
          refine NT (CT (SQ (RG ?_)))
          refine RR [] .z (.i 4 (.bool false) (.d (.k (.d (.k .a))))) .a ?_
          refine RZ (NT (RE (BR (TR (TR (BR (TR ?_)))))))
          refine NE [] .z .a [] (.bool false) ?_
          exact ⟨by rw [decide_eq_false (ob_ne hlt hlt2 (fun h => hc h.2))], rfl⟩
      · refine SA 28 (!decide (l1[i].tag = l2[i].tag)) true (by simp [ht]) ?_
        refine TK 0 [(12, []), (13, []), (14, []), (15, []), (16, []), (17, []), (18, []), (19, []), (20, []), (21, []), (22, []), (23, []), (24, [])] (.i 41 (.bool true) (.d (.d (.k .a)))) (#[true, true, true, true, true, true, true, true, true, true, true, true, true, true, true, true, true, true, true, true, true, true, true, true, true]) ?_
        refine wpa_done 0 (by kernel_rfl) ?_
        refine NT (CT (SQ (RG ?_)))
        refine RR [] .z (.i 4 (.bool false) (.d (.k (.d (.k .a))))) .a ?_
        refine RZ (NT (RE (BR (TR (TR (BR (TR ?_)))))))
        refine NE [] .z .a [] (.bool false) ?_
        exact ⟨by rw [decide_eq_false (ob_ne hlt hlt2 (fun h => ht h.1))], rfl⟩
    · obtain rfl : i = l1.length := by omega
      have hall : l1.map Ob.o = l2.map Ob.o := by rw [List.take_length, hlen, List.take_length] at he; exact he
      refine SQ (SQ (RG ?_))
      refine RR [] .z (.i 14 (.bool (decide ((↑l1.length : Int) < (↑l1.length : Int)))) .a) .a ?_
      refine RZ (NT ?_)
      refine SC 14 (decide ((↑l1.length : Int) < (↑l1.length : Int))) false (by simp) ?_
      refine CF (EX (TE (TE (BH (NT (SQ (RG ?_)))))))
      refine RR [] .z (.i 4 (.bool true) .z) .a ?_
      refine RZ (NT (RE ?_))
      refine NE [] .z .a [] (.bool true) ?_
      exact ⟨by rw [decide_eq_true hall], rfl⟩
  · rw [decide_eq_false (fun e => hlen (by have := congrArg List.length e; simpa using this))]
    refine fn_enter Tryz.func24 rfl 42 rfl fun w0 h0 => ?_
    refine SQ (RG ?_)
    refine RR [] .z (.i 4 (.bool false) .a) .a ?_
    refine RZ (NT (SQ (SQ (RG ?_))))
    refine RR [] .z (.i 10 (.bool ((↑l1.length : Int) != (↑l2.length : Int))) .a) .a ?_
    refine RZ (NT ?_)
    refine SC 10 ((↑l1.length : Int) != (↑l2.length : Int)) true (by simp only [bne_iff_ne, beq_iff_eq, ne_eq]; omega) ?_
    refine CT (SQ (RG ?_))
    refine RR [] .z (.d (.d (.k .a))) .a ?_
    refine RZ (NT (RE (TR ?_)))
    refine NE [] .z .a [] (.bool false) ?_
    exact ⟨rfl, rfl⟩
end Go.Proofs.YtpfhleghgkeemaaGreatDoor
