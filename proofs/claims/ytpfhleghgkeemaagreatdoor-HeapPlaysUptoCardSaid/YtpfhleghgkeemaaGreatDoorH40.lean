import Derived.Test.YtpfhleghgkeemaaGreatDoorH34
import Derived.Test.YtpfhleghgkeemaaGreatDoorY2
namespace Go.Proofs.YtpfhleghgkeemaaGreatDoor
open Go Go.Sx
set_option linter.unusedVariables false
set_option linter.unusedSimpArgs false

/-! The document's heap: its calls tell another one. -/
theorem rNew_spec (m : Int) : Does Tryz.prog 36 [.int .i64 m] [] (fun v hp' => v = .agg #[.int .i64 (mostI m), .slice none 0 0] ∧ hp' = []) := by
  refine fn_enter Tryz.func36 rfl 7 rfl fun w0 h0 => ?_
  refine SQ (RG ?_)
  refine RP [] .z 2 .a .a 51 [.int .i64 0, .slice none 0 0] fun g1 => ?_
  refine RZ (NT (SQ (RG ?_)))
  refine RR [0, 0] .z (.k .z) (.i (.blk g1 51 [.int .i64 (if (if 4096 < m then 4096 else m) > 0 then if 4096 < m then 4096 else m else 0), .slice none 0 0]) .z) ?_
  refine RZ (NT (RE ?_))
  refine NE [] .z (.i (.blk g1 51 [.int .i64 (if (if 4096 < m then 4096 else m) > 0 then if 4096 < m then 4096 else m else 0), .slice none 0 0]) .z) [0, 0] (.agg #[.int .i64 (if (if 4096 < m then 4096 else m) > 0 then if 4096 < m then 4096 else m else 0), .slice none 0 0]) ?_
  exact ⟨rfl, rfl⟩
theorem rUsed_spec (most : Int) (a : Option Addr) (c : Nat) (l : List Ob) (hl : l.length ≤ 1048576) (hu : usedO (l.map Ob.o) ≤ 1099511627776) :
    Does Tryz.prog 31 [.agg #[.int .i64 most, .slice a l.length c]] [ro a (l.flatMap objC)] (fun v hp' => v = .int .i64 (usedO (l.map Ob.o) : Nat) ∧ hp' = []) := by
  refine fn_enter Tryz.func31 rfl 23 rfl fun w0 h0 => ?_
  refine SQ (RG ?_)
  refine RP [] (.d .a) 1 .z .a 51 [.int .i64 most, .slice a l.length c] fun g1 => ?_
  refine RR [] .z (.i 2 (.int .i64 0) .a) (.k (.i (.blk g1 51 [.int .i64 most, .slice a l.length c]) .z)) ?_
  refine RZ (NT (SQ (RG ?_)))
  refine RR [] .z (.i 3 (.int .i64 0) .a) (.k (.i (.blk g1 51 [.int .i64 most, .slice a l.length c]) .z)) ?_
  refine RZ (NT (SQ (SQ (RG ?_))))
  refine RR [] .z (.i 4 (.int .i64 0) .a) (.k (.i (.blk g1 51 [.int .i64 most, .slice a l.length c]) .z)) ?_
  refine RZ (NT (BK ?_))
  refine wpc_loop (X := {i : Nat // i ≤ l.length}) (fun x => St.mk [(4, .int .i64 (x.1 : Int)), (3, .int .i64 (usedO ((l.take x.1).map Ob.o) : Nat)), (2, .int .i64 0), (1, .pointer (some ⟨g1, 0, none⟩))] [ro a (l.flatMap objC), .blk g1 51 [.int .i64 most, .slice a l.length c]]) (fun x => l.length - x.1) ⟨0, Nat.zero_le _⟩ (ent_fr (by kernel_rfl)) ?_
  rintro ⟨i, hi⟩
  dsimp only at hi ⊢
  by_cases hlt : i < l.length
  · have hsn : usedO ((l.take (i + 1)).map Ob.o) = usedO ((l.take i).map Ob.o) + (l[i].cells.length + 1) := by
      rw [take_snoc Ob.o hlt, usedO_snoc]; rfl
    have hle : usedO ((l.take (i + 1)).map Ob.o) ≤ usedO (l.map Ob.o) := by
      rw [← usedO_eq, ← usedO_eq, List.map_take]; exact usedN_le _ _
    refine wpc_fact (fun w h => ro_addr h 0 rfl (by rw [objs_len]; omega)) ?_
    rintro ⟨g0, o0, rfl⟩
    refine SQ (SQ (RG ?_))
    refine RR [1] .z (.i 9 (.bool (decide ((↑i : Int) < (↑l.length : Int)))) .a) (.k (.i (.blk g1 51 [.int .i64 most, .slice (some ⟨g0, o0, none⟩) l.length c]) .z)) ?_
    refine RZ (NT ?_)
    refine SC 9 (decide ((↑i : Int) < (↑l.length : Int))) true (decide_eq_true (by omega)) ?_
    refine CT (SK (NT (SQ (BK (RG ?_)))))
    refine RV true [1] (.d (.d (.d (.d (.d (.d (.d .a))))))) (.i 18 (.pointer (some ⟨g0, o0 + i * 2 + 1, none⟩)) (.i 13 (.int .i64 ((↑(usedO (List.map Ob.o (List.take i l))) : Int) + 1)) (.d (.d (.k .a))))) (.k (.i (.blk g1 51 [.int .i64 most, .slice (some ⟨g0, o0, none⟩) l.length c]) .z)) ([inI64 ((↑(usedO (List.map Ob.o (List.take i l))) : Int) + (1 : Int)), (0 : Int) ≤ (↑i : Int) ∧ (↑i : Int) < (↑l.length : Int)]) ⟨by unfold inI64; omega, by omega, trivial⟩ ?_
    refine wpr_eq (ld (t := 25) (a := ⟨g0, o0 + i * 2 + 1, none⟩) (dst := some 19) (by kernel_rfl) false 1 (by kernel_rfl) (by simp) [.slice l[i].a l[i].cells.length l[i].c] rfl (fun w h => ld_ro h 0 rfl (i * 2 + 1) (obj_fld hlt 1 1 (by decide)))) ?_
    refine RV true [] .z (.i 3 (.int .i64 ((↑(usedO (List.map Ob.o (List.take i l))) : Int) + 1 + (↑l[i].cells.length : Int))) (.d (.d (.d (.k (.d (.k .a))))))) (.k (.i (.blk g1 51 [.int .i64 most, .slice (some ⟨g0, o0, none⟩) l.length c]) .z)) ([inI64 ((↑(usedO (List.map Ob.o (List.take i l))) : Int) + (1 : Int) + (↑l[i].cells.length : Int))]) ⟨by unfold inI64; omega, trivial⟩ ?_
    refine RZ (BN (NT (RG ?_)))
    refine RV true [] .z (.i 4 (.int .i64 ((↑i : Int) + 1)) (.k (.d (.k .a)))) (.k (.i (.blk g1 51 [.int .i64 most, .slice (some ⟨g0, o0, none⟩) l.length c]) .z)) ([inI64 ((↑i : Int) + (1 : Int))]) ⟨by unfold inI64; omega, trivial⟩ ?_
    refine RZ ?_
    rw [show ((usedO ((l.take i).map Ob.o) : Nat) : Int) + 1 + (l[i].cells.length : Int) = ((usedO ((l.take (i + 1)).map Ob.o) : Nat) : Int) by rw [hsn]; omega]
    exact fun a' w' hS' => ⟨⟨i + 1, hlt⟩, by dsimp only; omega, ent_fr (by kernel_rfl) _ _ (ent_hp [0, 0] rfl _ _ hS')⟩
  · obtain rfl : i = l.length := by omega
    refine SQ (SQ (RG ?_))
    refine RR [1] .z (.i 9 (.bool (decide ((↑l.length : Int) < (↑l.length : Int)))) .a) (.k (.i (.blk g1 51 [.int .i64 most, .slice a l.length c]) .z)) ?_
    refine RZ (NT ?_)
    refine SC 9 (decide ((↑l.length : Int) < (↑l.length : Int))) false (by simp) ?_
    refine CF (EX (TE (TE (BH (NT (SQ (RG ?_)))))))
    refine RR [] .z (.i 2 (.int .i64 (↑(usedO (List.map Ob.o (List.take l.length l))) : Int)) .z) (.k (.i (.blk g1 51 [.int .i64 most, .slice a l.length c]) .z)) ?_
    refine RZ (NT (RE ?_))
    refine NE [] .z (.k (.i (.blk g1 51 [.int .i64 most, .slice a l.length c]) .z)) [] (.int .i64 (↑(usedO (List.map Ob.o (List.take l.length l))) : Int)) ?_
    exact ⟨by rw [List.take_length], rfl⟩
theorem val_fld {l : List V} {q : Nat} (hq : q < l.length) (k m : Nat) (h : k + m ≤ 3) : ((l.flatMap valC).drop (q * 3 + k)).take m = ((valC l[q]).drop k).take m := by
  rw [← vals_at hq, List.drop_take, List.drop_drop, List.take_take, Nat.min_eq_left (by omega)]
theorem rcells_spec (a : Option Addr) (c : Nat) (l : List V) (m : Int) (hl : l.length ≤ 1048576) (hs : smL l) :
    Does Tryz.prog 58 [.slice a l.length c, .int .i64 m] [ro a (l.flatMap valC)] (fun v hp' => v = .bool (l.all (cellB m)) ∧ hp' = []) := by
  refine fn_enter Tryz.func58 rfl 27 rfl fun w0 h0 => ?_
  refine SQ (RG ?_)
  refine RR [] .z (.i 4 (.bool false) .a) .a ?_
  refine RZ (NT (SQ (SQ (RG ?_))))
  refine RR [] .z (.i 5 (.int .i64 0) .a) .a ?_
  refine RZ (NT (BK ?_))
  refine wpc_loop (X := {i : Nat // i ≤ l.length ∧ (l.take i).all (cellB m) = true}) (fun x => St.mk [(5, .int .i64 (x.1 : Int)), (4, .bool false), (0, .slice a l.length c), (1, .int .i64 m)] [ro a (l.flatMap valC)]) (fun x => l.length - x.1) ⟨0, Nat.zero_le _, rfl⟩ (ent_fr (by kernel_rfl)) ?_
  rintro ⟨i, hi, he⟩
  dsimp only at hi he ⊢
  by_cases hlt : i < l.length
  · refine wpc_fact (fun w h => ro_addr h 0 rfl (by rw [vals_len]; omega)) ?_
    rintro ⟨g0, o0, rfl⟩
    have hbad : cellB m l[i] = false → l.all (cellB m) = false := fun h => by
      cases hx : l.all (cellB m) with
      | false => rfl
      | true => rw [List.all_eq_true.1 hx _ (List.getElem_mem hlt)] at h; cases h
    have hR := Right_spec l[i] m (hs _ (List.getElem_mem hlt))
    unfold valV at hR
    refine SQ (SQ (RG ?_))
    refine RR [] .z (.i 9 (.bool (decide ((↑i : Int) < (↑l.length : Int)))) .a) .a ?_
    refine RZ (NT ?_)
    refine SC 9 (decide ((↑i : Int) < (↑l.length : Int))) true (decide_eq_true (by omega)) ?_
    refine CT (SK (NT (SQ (BK (SQ (RG ?_))))))
    refine RV true [] (.d (.d (.d .a))) (.i 14 (.pointer (some ⟨g0, o0 + i * 3, none⟩)) (.d (.d (.k .a)))) .a [(0 : Int) ≤ (↑i : Int) ∧ (↑i : Int) < (↑l.length : Int)] ⟨by omega, trivial⟩ ?_
    refine wpr_eq (ld (t := 28) (a := ⟨g0, o0 + i * 3, none⟩) (dst := some 15) (by kernel_rfl) true 3 (by kernel_rfl) (by simp) (valC l[i]) rfl (fun w h => ld_ro h 0 rfl (i * 3) (vals_at hlt))) ?_
    refine RR [] (.d .a) (.i 16 (.int .i64 m) (.i 15 (.agg #[.int .i64 l[i].k, .int .i64 l[i].n, .string (mkS l[i].s)]) (.d (.d (.k .a))))) .a ?_
    refine RC (dst := some 17) [] .a (hR) ?_
    rintro r _ ⟨rfl, rfl⟩
    cases hr : rightB l[i] m with
    | false =>
      refine RR [] .z (.i 26 (.bool true) (.d (.d (.d (.k .a))))) .a ?_
      refine RZ (NT (CT (SQ (RG ?_))))
      refine RR [] .z (.i 4 (.bool false) (.d (.k (.d (.k .a))))) .a ?_
      refine RZ (NT (RE (BR (TR (TR (BR (TR ?_)))))))
      refine NE [] .z .a [] (.bool false) ?_
      exact ⟨by rw [hbad (by unfold cellB; rw [hr]; simp)], rfl⟩
    | true =>
      refine RV true [] (.d (.d (.d (.d (.d (.d .a)))))) (.i 23 (.pointer (some ⟨g0, o0 + i * 3, none⟩)) (.i 19 (.bool false) (.d (.d (.d (.k .a)))))) .a [(0 : Int) ≤ (↑i : Int) ∧ (↑i : Int) < (↑l.length : Int)] ⟨by omega, trivial⟩ ?_
      refine wpr_eq (ld (t := 26) (a := ⟨g0, o0 + i * 3, none⟩) (dst := some 24) (by kernel_rfl) false 1 (by kernel_rfl) (by simp) [.int .i64 l[i].k] rfl (fun w h => ld_ro h 0 rfl (i * 3 + 0) (val_fld hlt 0 1 (by decide)))) ?_
      by_cases hk : l[i].k = 0
      · refine RR [] .z (.i 26 (.bool (l[i].k == (0 : Int))) (.d (.d (.d (.k .a))))) .a ?_
        refine RZ (NT ?_)
        refine SC 26 (l[i].k == (0 : Int)) true (by simp only [bne_iff_ne, beq_iff_eq, ne_eq]; omega) ?_
        refine CT (SQ (RG ?_))
        refine RR [] .z (.i 4 (.bool false) (.d (.d (.k (.d (.k .a)))))) .a ?_
        refine RZ (NT (RE (BR (TR (TR (BR (TR ?_)))))))
        refine NE [] .z .a [] (.bool false) ?_
        exact ⟨by rw [hbad (by unfold cellB; rw [hr, hk]; rfl)], rfl⟩
      · refine RR [] .z (.i 26 (.bool (l[i].k == (0 : Int))) (.d (.d (.d (.k .a))))) .a ?_
        refine RZ (NT ?_)
        refine SC 26 (l[i].k == (0 : Int)) false (by simp only [bne_eq_false_iff_eq, beq_eq_false_iff_ne, ne_eq]; omega) ?_
        refine CF (SK (BN (NT (RG ?_))))
        refine RV true [] .z (.i 5 (.int .i64 ((↑i : Int) + 1)) (.d (.d (.d (.k .a))))) .a ([inI64 ((↑i : Int) + (1 : Int))]) ⟨by unfold inI64; omega, trivial⟩ ?_
        refine RZ ?_
        exact fun a' w' hS' => ⟨⟨i + 1, hlt, by
                  rw [← List.take_append_getElem hlt, List.all_append, he]
                  simp [cellB, hr, hk]⟩, by dsimp only; omega, ent_fr (by kernel_rfl) _ _ (ent_hp [0] rfl _ _ hS')⟩
  · obtain rfl : i = l.length := by omega
    refine SQ (SQ (RG ?_))
    refine RR [] .z (.i 9 (.bool (decide ((↑l.length : Int) < (↑l.length : Int)))) .a) .a ?_
    refine RZ (NT ?_)
    refine SC 9 (decide ((↑l.length : Int) < (↑l.length : Int))) false (by simp) ?_
    refine CF (EX (TE (TE (BH (NT (SQ (RG ?_)))))))
    refine RR [] .z (.i 4 (.bool true) .z) .a ?_
    refine RZ (NT (RE ?_))
    refine NE [] .z .a [] (.bool true) ?_
    exact ⟨by rw [List.take_length] at he; rw [he], rfl⟩
theorem rown_spec (a : Option Addr) (c : Nat) (l : List V) (ha : a = none → l = []) (hl : l.length ≤ 1048576) :
    Does Tryz.prog 59 [.slice a l.length c] [ro a (l.flatMap valC)] (fun r hp' => ∃ a' c', (a' = none → l = []) ∧ l.length ≤ c' ∧ r = .slice a' l.length c' ∧ hp' = [row 28 3 a' l.length c' (l.flatMap valC)]) := by
  refine fn_enter Tryz.func59 rfl 6 rfl fun w0 h0 => ?_
  refine SQ (RG ?_)
  refine RR [] .z (.i 2 (.slice none 0 0) .a) .a ?_
  refine RZ (NT (SQ (RG ?_)))
  refine RN [] (.d .a) 3 (fun g1 => (.slice (some ⟨g1, 0, none⟩) 0 0)) .a .a 28 [] fun g1 => ?_
  refine RR [] (.d .a) (.i 4 (.slice a l.length c) (.k (.k .z))) (.k (.i (.blk g1 28 []) .z)) ?_
  refine wpr_ent (ent_turn 1 (row 28 3 (some ⟨g1, 0, none⟩) 0 0 []) rfl (turn_blk rfl (by intro u hu; cases hu) (by simp)) rfl) ?_
  refine wpr_app (a := (some ⟨g1, 0, none⟩)) (n := 0) (cap := 0) (x := (.slice a l.length c)) (t := 25) (xt := 25) (dst := some 5) (by kernel_rfl) (e := 28) (sz := 3) (bytes := 32) (by kernel_rfl) 1 (xs := []) (by kernel_rfl) (m := (l.length)) (news := (l.flatMap valC)) (fun w h => src_ro h 0 rfl (vals_len l) (fun e => by rw [ha e]; rfl)) (by unfold maxLen; omega) (by omega) ?_
  intro a1 c1 hn
  simp only [List.nil_append, Nat.zero_add]
  refine RR [] .z (.i 2 (.slice a1 l.length c1) .z) .a ?_
  refine RZ (NT (RE ?_))
  refine nx_fact (fun w h => row_cap h 1 rfl) fun hcap => ?_
  refine NE [1] (.d (.k .a)) (.k .z) [] (.slice a1 l.length c1) ?_
  exact ⟨a1, c1, (fun e => nomatch (hn.1 e).1), hcap.2.1, rfl, rfl⟩
theorem rAlloc_spec (most : Int) (a : Option Addr) (c : Nat) (l : List Ob) (tag : List UInt8) (oa : Option Addr) (oc : Nat) (cells : List V) (hmo : 0 ≤ most ∧ most ≤ 4096) (hu : (usedO (l.map Ob.o) : Int) ≤ most) (ha : a = none → l = []) (hoa : oa = none → cells = []) (hcl : cells.length ≤ 1048576) (ht : tag.length ≤ 1048576) (hs : smL cells) :
    Does Tryz.prog 66 [.agg #[.int .i64 most, .slice a l.length c], .string (mkS tag), .slice oa cells.length oc] [ro a (l.flatMap objC), ro oa (cells.flatMap valC)]
      (fun v hp' => if (allocR most (l.map Ob.o) tag cells).2.2 = 0 then ∃ a' c' o, o.tag = tag ∧ o.cells = cells ∧ v = .tuple #[.agg #[.int .i64 most, .slice a' (l.length + 1) c'], .agg #[.int .i64 4, .int .i64 l.length, .string (mkS [])], .int .i64 0] ∧ hp' = [row 43 2 a' (l.length + 1) c' ((l ++ [o]).flatMap objC), obRow o]
        else v = .tuple #[.agg #[.int .i64 most, .slice a l.length c], .agg #[.int .i64 0, .int .i64 0, .string (mkS [])], .int .i64 (allocR most (l.map Ob.o) tag cells).2.2] ∧ hp' = []) := by
  have hll := len_used (l.map Ob.o)
  rw [List.length_map] at hll
  have hce := rcells_spec oa oc cells l.length hcl hs
  have hna := rName_spec tag ht
  have hus := rUsed_spec most a c l (by omega) (by omega)
  by_cases htag : tag = []
  · subst htag
    refine fn_enter Tryz.func66 rfl 53 rfl fun w0 h0 => ?_
    refine SQ (RG ?_)
    refine RP [] (.d .a) 3 (.d (.k .a)) .a 51 [.int .i64 most, .slice a l.length c] fun g1 => ?_
    refine RP [] (.d .a) 6 .a (.k (.k (.i (.blk g1 51 [.int .i64 most, .slice a l.length c]) .z))) 51 [.int .i64 0, .slice none 0 0] fun g2 => ?_
    refine RP [] (.d .a) 7 .a (.k (.k (.i (.blk g1 51 [.int .i64 most, .slice a l.length c]) (.i (.blk g2 51 [.int .i64 0, .slice none 0 0]) .z)))) 28 [.int .i64 0, .int .i64 0, .string ⟨#[]⟩] fun g3 => ?_
    refine RR [] .z (.i 8 (.int .i64 0) .a) (.k (.k (.i (.blk g1 51 [.int .i64 most, .slice a l.length c]) (.i (.blk g2 51 [.int .i64 0, .slice none 0 0]) (.i (.blk g3 28 [.int .i64 0, .int .i64 0, .string ⟨#[]⟩]) .z))))) ?_
    refine RZ (NT (SQ (SQ (RG ?_))))
    refine RR [2] (.d (.d (.d (.d (.d (.d (.d (.d (.d (.d (.d (.d .a)))))))))))) (.i 20 (.int .i64 (↑l.length : Int)) (.i 17 (.slice oa cells.length oc) (.i 16 (.bool false) .a))) (.k (.k (.i (.blk g1 51 [.int .i64 most, .slice a l.length c]) (.i (.blk g2 51 [.int .i64 0, .slice none 0 0]) (.i (.blk g3 28 [.int .i64 0, .int .i64 0, .string ⟨#[]⟩]) .z))))) ?_
    refine RCG (dst := some 21) (.k (.k (.i (.blk g1 51 [.int .i64 most, .slice a l.length c]) (.i (.blk g2 51 [.int .i64 0, .slice none 0 0]) (.i (.blk g3 28 [.int .i64 0, .int .i64 0, .string ⟨#[]⟩]) .z))))) (hce) (GV (GI []) 1 view_ro) ?_
    rintro r _ ⟨rfl, rfl⟩
    cases hca : cells.all (cellB l.length) with
    | false =>
      have hR : allocR most (l.map Ob.o) [] cells = (l.map Ob.o, noV, 2) := by
        unfold allocR objB; rw [List.length_map, hca]; rfl
      rw [hR]
      refine RR [] .z (.i 23 (.bool true) (.d (.d (.d (.d (.k .a)))))) (.k (.k (.i (.blk g1 51 [.int .i64 most, .slice a l.length c]) (.i (.blk g2 51 [.int .i64 0, .slice none 0 0]) (.i (.blk g3 28 [.int .i64 0, .int .i64 0, .string ⟨#[]⟩]) .z))))) ?_
      refine RZ (NT (CT (SQ (RG ?_))))
      refine RR [2, 2, 3, 3, 4, 4, 4] .z (.i 8 (.int .i64 2) (.d (.d (.k .a)))) (.k (.k (.i (.blk g1 51 [.int .i64 most, .slice a l.length c]) (.i (.blk g2 51 [.int .i64 most, .slice a l.length c]) (.i (.blk g3 28 [.int .i64 0, .int .i64 0, .string ⟨#[]⟩]) .z))))) ?_
      refine RZ (NT (RE (TR ?_)))
      refine NE [] .z (.k (.k (.i (.blk g1 51 [.int .i64 most, .slice a l.length c]) (.i (.blk g2 51 [.int .i64 most, .slice a l.length c]) (.i (.blk g3 28 [.int .i64 0, .int .i64 0, .string ⟨#[]⟩]) .z))))) [3, 3, 4, 4, 4] (.tuple #[.agg #[.int .i64 most, .slice a l.length c], .agg #[.int .i64 0, .int .i64 0, .string ⟨#[]⟩], .int .i64 2]) ?_
      exact ⟨rfl, rfl⟩
    | true =>
      have hR : allocR most (l.map Ob.o) [] cells = if (cells.length : Int) < most - usedO (l.map Ob.o) then (l.map Ob.o ++ [([], cells)], atV l.length, 0) else (l.map Ob.o, noV, 12) := by
        unfold allocR objB; rw [List.length_map, hca]; simp
      rw [hR]
      refine RR [] .z (.i 23 (.bool false) (.d (.d (.d (.d (.k .a)))))) (.k (.k (.i (.blk g1 51 [.int .i64 most, .slice a l.length c]) (.i (.blk g2 51 [.int .i64 0, .slice none 0 0]) (.i (.blk g3 28 [.int .i64 0, .int .i64 0, .string ⟨#[]⟩]) .z))))) ?_
      refine RZ (NT (CF (SK (NT (SQ (SQ ?_))))))
      refine wpc_draw (by kernel_rfl) [.blk g1 51 [.int .i64 most, .slice a l.length c]] (sub_of [2] (by kernel_rfl)) 8 (by kernel_rfl) ?_
      refine TK 3 [(0, []), (1, []), (2, []), (3, [0]), (4, [0, 0])] (.i 30 (.agg #[.int .i64 most, .slice a l.length c]) (.i 29 (.int .i64 most) (.i 27 (.int .i64 (↑cells.length : Int)) (.d (.k .a))))) (#[true, true, true, true, true, false, false, false]) ?_
      refine AC (dst := some 31) 2 5 (.k (.k (.i (.blk g1 51 [.int .i64 most, .slice a l.length c]) (.i (.blk g2 51 [.int .i64 0, .slice none 0 0]) (.i (.blk g3 28 [.int .i64 0, .int .i64 0, .string ⟨#[]⟩]) .z))))) (hus) (GV (GI []) 0 view_ro) [2] ?_
      rintro r _ ⟨rfl, rfl⟩
      by_cases hfit : (cells.length : Int) < most - usedO (l.map Ob.o)
      · rw [if_pos hfit]
        refine wpa_take true [(6, []), (7, [])] [(33, .bool (decide ((↑cells.length : Int) ≥ most - (↑(usedO (List.map Ob.o l)) : Int)))), (8, .int .i64 0), (7, .pointer (some ⟨g3, 0, none⟩)), (6, .pointer (some ⟨g2, 0, none⟩)), (3, .pointer (some ⟨g1, 0, none⟩)), (1, .string (mkS [])), (2, .slice oa cells.length oc)] (#[true, true, true, true, true, true, true, true]) [inI64 (most - (↑(usedO (List.map Ob.o l)) : Int))] (n := 0) (by kernel_rfl) (by kernel_rfl) (by kernel_rfl) ⟨by unfold inI64; omega, trivial⟩ ?_
        refine wpa_done 0 (by kernel_rfl) ?_
        refine NT ?_
        refine SC 33 (decide ((↑cells.length : Int) ≥ most - (↑(usedO (List.map Ob.o l)) : Int))) false (decide_eq_false (by omega)) ?_
        refine CF (SK (NT (SQ ?_)))
        refine wpc_draw (by kernel_rfl) [ro a (List.flatMap objC l), ro oa (List.flatMap valC cells), .blk g1 51 [.int .i64 most, .slice a l.length c]] (sub_of [0, 1, 2] (by kernel_rfl)) 20 (by kernel_rfl) ?_
        refine TK 10 [(0, []), (1, [2]), (3, []), (4, [2]), (6, []), (7, []), (13, []), (14, [2]), (15, []), (16, [])] (.i 52 (.agg #[.int .i64 4, .int .i64 (↑l.length : Int), .string ⟨#[]⟩]) (.i 43 (.slice oa cells.length oc) (.i 42 (.string (mkS [])) (.i 40 (.slice a l.length c) (.i 37 (.int .i64 most) (.d (.d (.k (.k (.k .z)))))))))) (#[true, true, false, true, true, false, true, true, false, false, false, false, false, true, true, true, true, false, false, false]) ?_
        refine wpa_new (n := 9) true 2 [] (fun g4 => [(38, .slice (some ⟨g4, 0, none⟩) 0 0), (52, .agg #[.int .i64 4, .int .i64 (↑l.length : Int), .string ⟨#[]⟩]), (43, .slice oa cells.length oc), (42, .string (mkS [])), (40, .slice a l.length c), (37, .int .i64 most), (8, .int .i64 0), (7, .pointer (some ⟨g3, 0, none⟩)), (6, .pointer (some ⟨g2, 0, none⟩))]) (fun g4 => [ro a (List.flatMap objC l), ro oa (List.flatMap valC cells), .blk g1 51 [.int .i64 most, .slice a l.length c], .blk g2 51 [.int .i64 0, .slice none 0 0], .blk g3 28 [.int .i64 0, .int .i64 0, .string ⟨#[]⟩], .blk g4 43 []]) (fun g4 => []) (by kernel_rfl) (fun g4 => by kernel_rfl) (fun g4 => by kernel_rfl) (fun g4 => trivial) (fun g4 => sub_of [0, 1, 2] (by kernel_rfl)) fun g4 => ?_
        refine wpa_ent (ent_turn 5 (row 43 2 (some ⟨g4, 0, none⟩) 0 0 []) rfl (turn_blk rfl (by intro u hu; cases hu) (by simp)) rfl) ?_
        refine wpa_app (i := 5) (nf := 8) (by kernel_rfl) (a := (some ⟨g4, 0, none⟩)) (n := 0) (cap := 0) (x := (.slice a l.length c)) (t := 37) (xt := 37) (dst := some 41) (by kernel_rfl) (e := 43) (sz := 2) (bytes := 40) (by kernel_rfl) 5 (xs := []) (by kernel_rfl) (m := l.length) (news := (l.flatMap objC)) (fun w h => src_ro h 0 rfl (objs_len l) (fun e => by rw [ha e]; rfl)) (by unfold maxLen; omega) (by omega) [0, 1, 2] (by kernel_rfl) ?_
        intro a1 c1 hn1
        simp only [List.nil_append, Nat.zero_add]
        refine AC (dst := some 44) 7 8 (.k (.k (.i (.blk g1 51 [.int .i64 most, .slice a l.length c]) (.i (.blk g2 51 [.int .i64 0, .slice none 0 0]) (.i (.blk g3 28 [.int .i64 0, .int .i64 0, .string ⟨#[]⟩]) (.d (.d (.d (.k .a))))))))) (rown_spec oa oc cells hoa hcl) (GV (GI []) 1 view_ro) [0, 1, 2] ?_
        rintro r _ ⟨a2, c2, hn2, hc2, rfl, rfl⟩
        refine TK 6 [(9, [])] (.i 45 (.agg #[.string (mkS []), .slice a2 cells.length c2]) (.d (.k (.d (.k (.d (.d (.d (.k .a))))))))) (#[true, true, true, true, true, true, true, true, true, true, false, false, false, true, true, true, true, false, false, false]) ?_
        refine wpa_new (n := 5) true 10 [] (fun g5 => [(46, .slice (some ⟨g5, 0, none⟩) 1 1), (41, .slice a1 l.length c1), (52, .agg #[.int .i64 4, .int .i64 (↑l.length : Int), .string ⟨#[]⟩]), (37, .int .i64 most), (8, .int .i64 0), (7, .pointer (some ⟨g3, 0, none⟩)), (6, .pointer (some ⟨g2, 0, none⟩))]) (fun g5 => [row 28 3 a2 cells.length c2 (List.flatMap valC cells), ro a (List.flatMap objC l), ro oa (List.flatMap valC cells), .blk g1 51 [.int .i64 most, .slice a l.length c], .blk g2 51 [.int .i64 0, .slice none 0 0], .blk g3 28 [.int .i64 0, .int .i64 0, .string ⟨#[]⟩], row 43 2 a1 l.length c1 (List.flatMap objC l), .blk g5 43 [.string (mkS []), .slice a2 cells.length c2]]) (fun g5 => []) (by kernel_rfl) (fun g5 => by kernel_rfl) (fun g5 => by kernel_rfl) (fun g5 => trivial) (fun g5 => sub_of [1, 2, 3] (by kernel_rfl)) fun g5 => ?_
        refine wpa_ent (ent_turn 7 (ro (some ⟨g5, 0, none⟩) (objC (Ob.mk [] a2 c2 cells))) rfl (turn_rblk (l := objC (Ob.mk [] a2 c2 cells)) (obj_one _)) rfl) ?_
        refine wpa_app (i := 11) (nf := 4) (by kernel_rfl) (a := a1) (n := l.length) (cap := c1) (x := (.slice (some ⟨g5, 0, none⟩) 1 1)) (t := 37) (xt := 37) (dst := some 47) (by kernel_rfl) (e := 43) (sz := 2) (bytes := 40) (by kernel_rfl) 6 (xs := (List.flatMap objC l)) (by kernel_rfl) (m := 1) (news := (objC (Ob.mk [] a2 c2 cells))) (fun w h => src_ro h 7 rfl rfl (fun e => by cases e)) (by unfold maxLen; omega) (by omega) [1, 2, 3] (by kernel_rfl) ?_
        intro a3 c3 hn3
        rw [objs_snoc]
        refine TK 3 [(12, [])] (.i 48 (.agg #[.int .i64 most, .slice a3 (l.length + 1) c3]) (.d (.d (.d (.k (.d (.k .a))))))) (#[true, true, true, true, true, true, true, true, true, true, true, true, true, true, true, true, true, false, false, false]) ?_
        refine AO 2 17 [4, 4] (.d (.k .a)) (.k (.k (.k (.i (.blk g1 51 [.int .i64 most, .slice a l.length c]) (.i (.blk g2 51 [.int .i64 most, .slice a3 (l.length + 1) c3]) (.i (.blk g3 28 [.int .i64 0, .int .i64 0, .string ⟨#[]⟩]) (.d (.d (.d (.k .a)))))))))) [1, 2, 3] ?_
        refine AO 1 18 [5, 5, 5] (.d (.k .a)) (.k (.k (.k (.i (.blk g1 51 [.int .i64 most, .slice a l.length c]) (.i (.blk g2 51 [.int .i64 most, .slice a3 (l.length + 1) c3]) (.i (.blk g3 28 [.int .i64 4, .int .i64 (↑l.length : Int), .string ⟨#[]⟩]) (.d (.d (.d (.k .a)))))))))) [1, 2, 3] ?_
        refine TK 0 [(19, [])] .a (#[true, true, true, true, true, true, true, true, true, true, true, true, true, true, true, true, true, true, true, true]) ?_
        refine wpa_done 0 (by kernel_rfl) ?_
        refine NT (RE ?_)
        refine NE [6, 0] (.i (row 43 2 a3 (l.length + 1) c3 (List.flatMap objC (l ++ [Ob.mk [] a2 c2 cells]))) (.k .z)) (.d (.k (.k (.i (.blk g1 51 [.int .i64 most, .slice a l.length c]) (.i (.blk g2 51 [.int .i64 most, .slice a3 (l.length + 1) c3]) (.i (.blk g3 28 [.int .i64 4, .int .i64 (↑l.length : Int), .string ⟨#[]⟩]) (.d (.d (.d (.d (.k .a))))))))))) [4, 4, 5, 5, 5] (.tuple #[.agg #[.int .i64 most, .slice a3 (l.length + 1) c3], .agg #[.int .i64 4, .int .i64 (↑l.length : Int), .string ⟨#[]⟩], .int .i64 0]) ?_
        rw [if_pos trivial]
        exact ⟨a3, c3, Ob.mk [] a2 c2 cells, rfl, rfl, rfl, rfl⟩
      · rw [if_neg hfit]
        refine wpa_take true [(6, []), (7, [])] [(33, .bool (decide ((↑cells.length : Int) ≥ most - (↑(usedO (List.map Ob.o l)) : Int)))), (8, .int .i64 0), (7, .pointer (some ⟨g3, 0, none⟩)), (6, .pointer (some ⟨g2, 0, none⟩)), (3, .pointer (some ⟨g1, 0, none⟩)), (1, .string (mkS [])), (2, .slice oa cells.length oc)] (#[true, true, true, true, true, true, true, true]) [inI64 (most - (↑(usedO (List.map Ob.o l)) : Int))] (n := 0) (by kernel_rfl) (by kernel_rfl) (by kernel_rfl) ⟨by unfold inI64; omega, trivial⟩ ?_
        refine wpa_done 0 (by kernel_rfl) ?_
        refine NT ?_
        refine SC 33 (decide ((↑cells.length : Int) ≥ most - (↑(usedO (List.map Ob.o l)) : Int))) true (decide_eq_true (by omega)) ?_
        refine CT (SQ (RG ?_))
        refine RR [2, 2, 3, 3, 4, 4, 4] .z (.i 8 (.int .i64 12) (.d (.d (.d (.k .a))))) (.k (.k (.i (.blk g1 51 [.int .i64 most, .slice a l.length c]) (.i (.blk g2 51 [.int .i64 most, .slice a l.length c]) (.i (.blk g3 28 [.int .i64 0, .int .i64 0, .string ⟨#[]⟩]) .z))))) ?_
        refine RZ (NT (RE (TR ?_)))
        refine NE [] .z (.k (.k (.i (.blk g1 51 [.int .i64 most, .slice a l.length c]) (.i (.blk g2 51 [.int .i64 most, .slice a l.length c]) (.i (.blk g3 28 [.int .i64 0, .int .i64 0, .string ⟨#[]⟩]) .z))))) [3, 3, 4, 4, 4] (.tuple #[.agg #[.int .i64 most, .slice a l.length c], .agg #[.int .i64 0, .int .i64 0, .string ⟨#[]⟩], .int .i64 12]) ?_
        exact ⟨rfl, rfl⟩
  · refine fn_enter Tryz.func66 rfl 53 rfl fun w0 h0 => ?_
    refine SQ (RG ?_)
    refine RP [] (.d .a) 3 (.d (.k .a)) .a 51 [.int .i64 most, .slice a l.length c] fun g1 => ?_
    refine RP [] (.d .a) 6 .a (.k (.k (.i (.blk g1 51 [.int .i64 most, .slice a l.length c]) .z))) 51 [.int .i64 0, .slice none 0 0] fun g2 => ?_
    refine RP [] (.d .a) 7 .a (.k (.k (.i (.blk g1 51 [.int .i64 most, .slice a l.length c]) (.i (.blk g2 51 [.int .i64 0, .slice none 0 0]) .z)))) 28 [.int .i64 0, .int .i64 0, .string ⟨#[]⟩] fun g3 => ?_
    refine RR [] .z (.i 8 (.int .i64 0) .a) (.k (.k (.i (.blk g1 51 [.int .i64 most, .slice a l.length c]) (.i (.blk g2 51 [.int .i64 0, .slice none 0 0]) (.i (.blk g3 28 [.int .i64 0, .int .i64 0, .string ⟨#[]⟩]) .z))))) ?_
    refine RZ (NT (SQ (SQ (RG ?_))))
    refine RR [] (.d (.d (.d .a))) (.i 11 (.bool !decide (tag = [])) .a) (.k (.k (.i (.blk g1 51 [.int .i64 most, .slice a l.length c]) (.i (.blk g2 51 [.int .i64 0, .slice none 0 0]) (.i (.blk g3 28 [.int .i64 0, .int .i64 0, .string ⟨#[]⟩]) .z))))) ?_
    refine SR 11 (!decide (tag = [])) true (by simp; omega) ?_
    refine RR [] (.d .a) (.i 12 (.string (mkS tag)) (.k (.d (.k .a)))) (.k (.k (.i (.blk g1 51 [.int .i64 most, .slice a l.length c]) (.i (.blk g2 51 [.int .i64 0, .slice none 0 0]) (.i (.blk g3 28 [.int .i64 0, .int .i64 0, .string ⟨#[]⟩]) .z))))) ?_
    refine RC (dst := some 13) [] (.k (.k (.i (.blk g1 51 [.int .i64 most, .slice a l.length c]) (.i (.blk g2 51 [.int .i64 0, .slice none 0 0]) (.i (.blk g3 28 [.int .i64 0, .int .i64 0, .string ⟨#[]⟩]) .z))))) (hna) ?_
    rintro r _ ⟨rfl, rfl⟩
    cases hnb : nameB tag with
    | false =>
      have hR : allocR most (l.map Ob.o) tag cells = (l.map Ob.o, noV, 2) := by
        unfold allocR objB; rw [hnb, decide_eq_false htag]; rfl
      rw [hR]
      refine RR [] .z (.i 23 (.bool true) (.d (.d (.d (.k .a))))) (.k (.k (.i (.blk g1 51 [.int .i64 most, .slice a l.length c]) (.i (.blk g2 51 [.int .i64 0, .slice none 0 0]) (.i (.blk g3 28 [.int .i64 0, .int .i64 0, .string ⟨#[]⟩]) .z))))) ?_
      refine RZ (NT (CT (SQ (RG ?_))))
      refine RR [2, 2, 3, 3, 4, 4, 4] .z (.i 8 (.int .i64 2) (.d (.d (.k .a)))) (.k (.k (.i (.blk g1 51 [.int .i64 most, .slice a l.length c]) (.i (.blk g2 51 [.int .i64 most, .slice a l.length c]) (.i (.blk g3 28 [.int .i64 0, .int .i64 0, .string ⟨#[]⟩]) .z))))) ?_
      refine RZ (NT (RE (TR ?_)))
      refine NE [] .z (.k (.k (.i (.blk g1 51 [.int .i64 most, .slice a l.length c]) (.i (.blk g2 51 [.int .i64 most, .slice a l.length c]) (.i (.blk g3 28 [.int .i64 0, .int .i64 0, .string ⟨#[]⟩]) .z))))) [3, 3, 4, 4, 4] (.tuple #[.agg #[.int .i64 most, .slice a l.length c], .agg #[.int .i64 0, .int .i64 0, .string ⟨#[]⟩], .int .i64 2]) ?_
      exact ⟨rfl, rfl⟩
    | true =>
    refine RR [2] (.d (.d (.d (.d (.d (.d (.d .a))))))) (.i 20 (.int .i64 (↑l.length : Int)) (.i 17 (.slice oa cells.length oc) (.i 16 (.bool false) (.d (.d (.d (.k .a))))))) (.k (.k (.i (.blk g1 51 [.int .i64 most, .slice a l.length c]) (.i (.blk g2 51 [.int .i64 0, .slice none 0 0]) (.i (.blk g3 28 [.int .i64 0, .int .i64 0, .string ⟨#[]⟩]) .z))))) ?_
    refine RCG (dst := some 21) (.k (.k (.i (.blk g1 51 [.int .i64 most, .slice a l.length c]) (.i (.blk g2 51 [.int .i64 0, .slice none 0 0]) (.i (.blk g3 28 [.int .i64 0, .int .i64 0, .string ⟨#[]⟩]) .z))))) (hce) (GV (GI []) 1 view_ro) ?_
    rintro r _ ⟨rfl, rfl⟩
    cases hca : cells.all (cellB l.length) with
    | false =>
      have hR : allocR most (l.map Ob.o) tag cells = (l.map Ob.o, noV, 2) := by
        unfold allocR objB; rw [List.length_map, hca, Bool.and_false]; rfl
      rw [hR]
      refine RR [] .z (.i 23 (.bool true) (.d (.d (.d (.d (.k .a)))))) (.k (.k (.i (.blk g1 51 [.int .i64 most, .slice a l.length c]) (.i (.blk g2 51 [.int .i64 0, .slice none 0 0]) (.i (.blk g3 28 [.int .i64 0, .int .i64 0, .string ⟨#[]⟩]) .z))))) ?_
      refine RZ (NT (CT (SQ (RG ?_))))
      refine RR [2, 2, 3, 3, 4, 4, 4] .z (.i 8 (.int .i64 2) (.d (.d (.k .a)))) (.k (.k (.i (.blk g1 51 [.int .i64 most, .slice a l.length c]) (.i (.blk g2 51 [.int .i64 most, .slice a l.length c]) (.i (.blk g3 28 [.int .i64 0, .int .i64 0, .string ⟨#[]⟩]) .z))))) ?_
      refine RZ (NT (RE (TR ?_)))
      refine NE [] .z (.k (.k (.i (.blk g1 51 [.int .i64 most, .slice a l.length c]) (.i (.blk g2 51 [.int .i64 most, .slice a l.length c]) (.i (.blk g3 28 [.int .i64 0, .int .i64 0, .string ⟨#[]⟩]) .z))))) [3, 3, 4, 4, 4] (.tuple #[.agg #[.int .i64 most, .slice a l.length c], .agg #[.int .i64 0, .int .i64 0, .string ⟨#[]⟩], .int .i64 2]) ?_
      exact ⟨rfl, rfl⟩
    | true =>
      have hR : allocR most (l.map Ob.o) tag cells = if (cells.length : Int) < most - usedO (l.map Ob.o) then (l.map Ob.o ++ [(tag, cells)], atV l.length, 0) else (l.map Ob.o, noV, 12) := by
        unfold allocR objB; rw [List.length_map, hca, hnb]; simp
      rw [hR]
      refine RR [] .z (.i 23 (.bool false) (.d (.d (.d (.d (.k .a)))))) (.k (.k (.i (.blk g1 51 [.int .i64 most, .slice a l.length c]) (.i (.blk g2 51 [.int .i64 0, .slice none 0 0]) (.i (.blk g3 28 [.int .i64 0, .int .i64 0, .string ⟨#[]⟩]) .z))))) ?_
      refine RZ (NT (CF (SK (NT (SQ (SQ ?_))))))
      refine wpc_draw (by kernel_rfl) [.blk g1 51 [.int .i64 most, .slice a l.length c]] (sub_of [2] (by kernel_rfl)) 8 (by kernel_rfl) ?_
      refine TK 3 [(0, []), (1, []), (2, []), (3, [0]), (4, [0, 0])] (.i 30 (.agg #[.int .i64 most, .slice a l.length c]) (.i 29 (.int .i64 most) (.i 27 (.int .i64 (↑cells.length : Int)) (.d (.k .a))))) (#[true, true, true, true, true, false, false, false]) ?_
      refine AC (dst := some 31) 2 5 (.k (.k (.i (.blk g1 51 [.int .i64 most, .slice a l.length c]) (.i (.blk g2 51 [.int .i64 0, .slice none 0 0]) (.i (.blk g3 28 [.int .i64 0, .int .i64 0, .string ⟨#[]⟩]) .z))))) (hus) (GV (GI []) 0 view_ro) [2] ?_
      rintro r _ ⟨rfl, rfl⟩
      by_cases hfit : (cells.length : Int) < most - usedO (l.map Ob.o)
      · rw [if_pos hfit]
        refine wpa_take true [(6, []), (7, [])] [(33, .bool (decide ((↑cells.length : Int) ≥ most - (↑(usedO (List.map Ob.o l)) : Int)))), (8, .int .i64 0), (7, .pointer (some ⟨g3, 0, none⟩)), (6, .pointer (some ⟨g2, 0, none⟩)), (3, .pointer (some ⟨g1, 0, none⟩)), (1, .string (mkS tag)), (2, .slice oa cells.length oc)] (#[true, true, true, true, true, true, true, true]) [inI64 (most - (↑(usedO (List.map Ob.o l)) : Int))] (n := 0) (by kernel_rfl) (by kernel_rfl) (by kernel_rfl) ⟨by unfold inI64; omega, trivial⟩ ?_
        refine wpa_done 0 (by kernel_rfl) ?_
        refine NT ?_
        refine SC 33 (decide ((↑cells.length : Int) ≥ most - (↑(usedO (List.map Ob.o l)) : Int))) false (decide_eq_false (by omega)) ?_
        refine CF (SK (NT (SQ ?_)))
        refine wpc_draw (by kernel_rfl) [ro a (List.flatMap objC l), ro oa (List.flatMap valC cells), .blk g1 51 [.int .i64 most, .slice a l.length c]] (sub_of [0, 1, 2] (by kernel_rfl)) 20 (by kernel_rfl) ?_
        refine TK 10 [(0, []), (1, [2]), (3, []), (4, [2]), (6, []), (7, []), (13, []), (14, [2]), (15, []), (16, [])] (.i 52 (.agg #[.int .i64 4, .int .i64 (↑l.length : Int), .string ⟨#[]⟩]) (.i 43 (.slice oa cells.length oc) (.i 42 (.string (mkS tag)) (.i 40 (.slice a l.length c) (.i 37 (.int .i64 most) (.d (.d (.k (.k (.k .z)))))))))) (#[true, true, false, true, true, false, true, true, false, false, false, false, false, true, true, true, true, false, false, false]) ?_
        refine wpa_new (n := 9) true 2 [] (fun g4 => [(38, .slice (some ⟨g4, 0, none⟩) 0 0), (52, .agg #[.int .i64 4, .int .i64 (↑l.length : Int), .string ⟨#[]⟩]), (43, .slice oa cells.length oc), (42, .string (mkS tag)), (40, .slice a l.length c), (37, .int .i64 most), (8, .int .i64 0), (7, .pointer (some ⟨g3, 0, none⟩)), (6, .pointer (some ⟨g2, 0, none⟩))]) (fun g4 => [ro a (List.flatMap objC l), ro oa (List.flatMap valC cells), .blk g1 51 [.int .i64 most, .slice a l.length c], .blk g2 51 [.int .i64 0, .slice none 0 0], .blk g3 28 [.int .i64 0, .int .i64 0, .string ⟨#[]⟩], .blk g4 43 []]) (fun g4 => []) (by kernel_rfl) (fun g4 => by kernel_rfl) (fun g4 => by kernel_rfl) (fun g4 => trivial) (fun g4 => sub_of [0, 1, 2] (by kernel_rfl)) fun g4 => ?_
        refine wpa_ent (ent_turn 5 (row 43 2 (some ⟨g4, 0, none⟩) 0 0 []) rfl (turn_blk rfl (by intro u hu; cases hu) (by simp)) rfl) ?_
        refine wpa_app (i := 5) (nf := 8) (by kernel_rfl) (a := (some ⟨g4, 0, none⟩)) (n := 0) (cap := 0) (x := (.slice a l.length c)) (t := 37) (xt := 37) (dst := some 41) (by kernel_rfl) (e := 43) (sz := 2) (bytes := 40) (by kernel_rfl) 5 (xs := []) (by kernel_rfl) (m := l.length) (news := (l.flatMap objC)) (fun w h => src_ro h 0 rfl (objs_len l) (fun e => by rw [ha e]; rfl)) (by unfold maxLen; omega) (by omega) [0, 1, 2] (by kernel_rfl) ?_
        intro a1 c1 hn1
        simp only [List.nil_append, Nat.zero_add]
        refine AC (dst := some 44) 7 8 (.k (.k (.i (.blk g1 51 [.int .i64 most, .slice a l.length c]) (.i (.blk g2 51 [.int .i64 0, .slice none 0 0]) (.i (.blk g3 28 [.int .i64 0, .int .i64 0, .string ⟨#[]⟩]) (.d (.d (.d (.k .a))))))))) (rown_spec oa oc cells hoa hcl) (GV (GI []) 1 view_ro) [0, 1, 2] ?_
        rintro r _ ⟨a2, c2, hn2, hc2, rfl, rfl⟩
        refine TK 6 [(9, [])] (.i 45 (.agg #[.string (mkS tag), .slice a2 cells.length c2]) (.d (.k (.d (.k (.d (.d (.d (.k .a))))))))) (#[true, true, true, true, true, true, true, true, true, true, false, false, false, true, true, true, true, false, false, false]) ?_
        refine wpa_new (n := 5) true 10 [] (fun g5 => [(46, .slice (some ⟨g5, 0, none⟩) 1 1), (41, .slice a1 l.length c1), (52, .agg #[.int .i64 4, .int .i64 (↑l.length : Int), .string ⟨#[]⟩]), (37, .int .i64 most), (8, .int .i64 0), (7, .pointer (some ⟨g3, 0, none⟩)), (6, .pointer (some ⟨g2, 0, none⟩))]) (fun g5 => [row 28 3 a2 cells.length c2 (List.flatMap valC cells), ro a (List.flatMap objC l), ro oa (List.flatMap valC cells), .blk g1 51 [.int .i64 most, .slice a l.length c], .blk g2 51 [.int .i64 0, .slice none 0 0], .blk g3 28 [.int .i64 0, .int .i64 0, .string ⟨#[]⟩], row 43 2 a1 l.length c1 (List.flatMap objC l), .blk g5 43 [.string (mkS tag), .slice a2 cells.length c2]]) (fun g5 => []) (by kernel_rfl) (fun g5 => by kernel_rfl) (fun g5 => by kernel_rfl) (fun g5 => trivial) (fun g5 => sub_of [1, 2, 3] (by kernel_rfl)) fun g5 => ?_
        refine wpa_ent (ent_turn 7 (ro (some ⟨g5, 0, none⟩) (objC (Ob.mk tag a2 c2 cells))) rfl (turn_rblk (l := objC (Ob.mk tag a2 c2 cells)) (obj_one _)) rfl) ?_
        refine wpa_app (i := 11) (nf := 4) (by kernel_rfl) (a := a1) (n := l.length) (cap := c1) (x := (.slice (some ⟨g5, 0, none⟩) 1 1)) (t := 37) (xt := 37) (dst := some 47) (by kernel_rfl) (e := 43) (sz := 2) (bytes := 40) (by kernel_rfl) 6 (xs := (List.flatMap objC l)) (by kernel_rfl) (m := 1) (news := (objC (Ob.mk tag a2 c2 cells))) (fun w h => src_ro h 7 rfl rfl (fun e => by cases e)) (by unfold maxLen; omega) (by omega) [1, 2, 3] (by kernel_rfl) ?_
        intro a3 c3 hn3
        rw [objs_snoc]
        refine TK 3 [(12, [])] (.i 48 (.agg #[.int .i64 most, .slice a3 (l.length + 1) c3]) (.d (.d (.d (.k (.d (.k .a))))))) (#[true, true, true, true, true, true, true, true, true, true, true, true, true, true, true, true, true, false, false, false]) ?_
        refine AO 2 17 [4, 4] (.d (.k .a)) (.k (.k (.k (.i (.blk g1 51 [.int .i64 most, .slice a l.length c]) (.i (.blk g2 51 [.int .i64 most, .slice a3 (l.length + 1) c3]) (.i (.blk g3 28 [.int .i64 0, .int .i64 0, .string ⟨#[]⟩]) (.d (.d (.d (.k .a)))))))))) [1, 2, 3] ?_
        refine AO 1 18 [5, 5, 5] (.d (.k .a)) (.k (.k (.k (.i (.blk g1 51 [.int .i64 most, .slice a l.length c]) (.i (.blk g2 51 [.int .i64 most, .slice a3 (l.length + 1) c3]) (.i (.blk g3 28 [.int .i64 4, .int .i64 (↑l.length : Int), .string ⟨#[]⟩]) (.d (.d (.d (.k .a)))))))))) [1, 2, 3] ?_
        refine TK 0 [(19, [])] .a (#[true, true, true, true, true, true, true, true, true, true, true, true, true, true, true, true, true, true, true, true]) ?_
        refine wpa_done 0 (by kernel_rfl) ?_
        refine NT (RE ?_)
        refine NE [6, 0] (.i (row 43 2 a3 (l.length + 1) c3 (List.flatMap objC (l ++ [Ob.mk tag a2 c2 cells]))) (.k .z)) (.d (.k (.k (.i (.blk g1 51 [.int .i64 most, .slice a l.length c]) (.i (.blk g2 51 [.int .i64 most, .slice a3 (l.length + 1) c3]) (.i (.blk g3 28 [.int .i64 4, .int .i64 (↑l.length : Int), .string ⟨#[]⟩]) (.d (.d (.d (.d (.k .a))))))))))) [4, 4, 5, 5, 5] (.tuple #[.agg #[.int .i64 most, .slice a3 (l.length + 1) c3], .agg #[.int .i64 4, .int .i64 (↑l.length : Int), .string ⟨#[]⟩], .int .i64 0]) ?_
        rw [if_pos trivial]
        exact ⟨a3, c3, Ob.mk tag a2 c2 cells, rfl, rfl, rfl, rfl⟩
      · rw [if_neg hfit]
        refine wpa_take true [(6, []), (7, [])] [(33, .bool (decide ((↑cells.length : Int) ≥ most - (↑(usedO (List.map Ob.o l)) : Int)))), (8, .int .i64 0), (7, .pointer (some ⟨g3, 0, none⟩)), (6, .pointer (some ⟨g2, 0, none⟩)), (3, .pointer (some ⟨g1, 0, none⟩)), (1, .string (mkS tag)), (2, .slice oa cells.length oc)] (#[true, true, true, true, true, true, true, true]) [inI64 (most - (↑(usedO (List.map Ob.o l)) : Int))] (n := 0) (by kernel_rfl) (by kernel_rfl) (by kernel_rfl) ⟨by unfold inI64; omega, trivial⟩ ?_
        refine wpa_done 0 (by kernel_rfl) ?_
        refine NT ?_
        refine SC 33 (decide ((↑cells.length : Int) ≥ most - (↑(usedO (List.map Ob.o l)) : Int))) true (decide_eq_true (by omega)) ?_
        refine CT (SQ (RG ?_))
        refine RR [2, 2, 3, 3, 4, 4, 4] .z (.i 8 (.int .i64 12) (.d (.d (.d (.k .a))))) (.k (.k (.i (.blk g1 51 [.int .i64 most, .slice a l.length c]) (.i (.blk g2 51 [.int .i64 most, .slice a l.length c]) (.i (.blk g3 28 [.int .i64 0, .int .i64 0, .string ⟨#[]⟩]) .z))))) ?_
        refine RZ (NT (RE (TR ?_)))
        refine NE [] .z (.k (.k (.i (.blk g1 51 [.int .i64 most, .slice a l.length c]) (.i (.blk g2 51 [.int .i64 most, .slice a l.length c]) (.i (.blk g3 28 [.int .i64 0, .int .i64 0, .string ⟨#[]⟩]) .z))))) [3, 3, 4, 4, 4] (.tuple #[.agg #[.int .i64 most, .slice a l.length c], .agg #[.int .i64 0, .int .i64 0, .string ⟨#[]⟩], .int .i64 12]) ?_
        exact ⟨rfl, rfl⟩
end Go.Proofs.YtpfhleghgkeemaaGreatDoor
