import Derived.Test.YtgcfomhlgipllaaGreatDoorCb5
set_option linter.unusedVariables false
set_option linter.unusedSimpArgs false
namespace Go.Proofs.YtgcfomhlgipllaaGreatDoor
open Go Go.Sx
theorem strs_take {l : List Tx} {i : Nat} (h : i < l.length) : strsC (l.take i) ++ [.string (mkS l[i])] = strsC (l.take (i + 1)) := by
  rw [strs_app, List.take_append_getElem]
set_option maxHeartbeats 16000000 in
theorem rright_spec (c : CoV) (hc : c.ok) : Does Tryz.prog 42 [.agg (coC c).toArray] (coHp c) (fun v hp' => v = .bool (rightC c.p) ∧ hp' = []) := by
  obtain ⟨hs1, hs2, hh1, hh2, hu1, hu2, hmr⟩ := hc
  have hCo : coC c = [.slice c.sa c.strs.length c.sc, .slice c.ha c.shapes.length c.hc, .slice c.ua c.units.length c.uc, .int .i64 c.main] := rfl
  have hbad : ¬ (c.strs.length ≤ 1024 ∧ c.shapes.length ≤ 16 ∧ c.units.length ≤ 32 ∧ 0 ≤ c.main ∧ c.main < c.units.length) → rightC c.p = false := fun h => formB_f1 (by
    cases h2 : headC c.p with
    | false => rfl
    | true =>
      have h3 := (headC_iff c.p).1 h2
      have h4 : (c.shapes.map ShV.p).length ≤ 16 := h3.2.1
      have h5 : (c.units.map UnV.p).length ≤ 32 := h3.2.2.1
      have h6 : c.main < ((c.units.map UnV.p).length : Int) := h3.2.2.2.2
      rw [List.length_map] at h4 h5 h6
      exact absurd ⟨h3.1, h4, h5, h3.2.2.2.1, h6⟩ h)
  have eN1 : c.p.shapes.map (·.1) = c.shapes.map ShV.name := by show (c.shapes.map ShV.p).map (·.1) = _; rw [List.map_map]; rfl
  have eN2 : c.p.units.map (·.name) = c.units.map UnV.name := by show (c.units.map UnV.p).map (·.name) = _; rw [List.map_map]; rfl
  unfold coHp
  rw [hCo]
  refine fn_enter Tryz.func42 rfl 164 rfl fun w0 h0 => ?_
  refine SQ (RG ?_)
  refine RP [] (.d .a) 1 .z .a 26 [.slice c.sa c.strs.length c.sc, .slice c.ha c.shapes.length c.hc, .slice c.ua c.units.length c.uc, .int .i64 c.main] fun g1 => ?_
  refine RR [] .z (.i 2 (.bool false) .a) .a ?_
  refine RZ (NT (SQ (SQ (RG ?_))))
  refine RR [5] (.d (.d (.d (.d (.d .a))))) (.i 17 (.bool (decide ((↑c.strs.length : Int) > (1024 : Int)))) .a) .a ?_
  by_cases k0 : ¬ c.strs.length ≤ 1024
  · rw [hbad (fun h => k0 h.1)]
    refine SR 17 (decide ((↑c.strs.length : Int) > (1024 : Int))) true (decide_eq_true (by omega)) ?_
    refine RR [] .z (.i 37 (.bool true) (.d (.d (.k .a)))) .a ?_
    refine RZ (NT (CT (SQ (RG ?_))))
    refine RR [] .z (.d (.k .a)) .a ?_
    refine RZ (NT (RE (TR ?_)))
    refine NE [] .z .a [] (.bool false) ?_
    exact ⟨rfl, rfl⟩
  rw [Decidable.not_not] at k0
  refine SR 17 (decide ((↑c.strs.length : Int) > (1024 : Int))) false (decide_eq_false (by omega)) ?_
  refine RR [5] (.d (.d (.d (.d (.d (.d .a)))))) (.i 23 (.bool (decide ((↑c.shapes.length : Int) > (16 : Int)))) (.d (.d (.k .a)))) .a ?_
  by_cases k1 : ¬ c.shapes.length ≤ 16
  · rw [hbad (fun h => k1 h.2.1)]
    refine SR 23 (decide ((↑c.shapes.length : Int) > (16 : Int))) true (decide_eq_true (by omega)) ?_
    refine RR [] .z (.i 37 (.bool true) (.d (.d (.k .a)))) .a ?_
    refine RZ (NT (CT (SQ (RG ?_))))
    refine RR [] .z (.d (.k .a)) .a ?_
    refine RZ (NT (RE (TR ?_)))
    refine NE [] .z .a [] (.bool false) ?_
    exact ⟨rfl, rfl⟩
  rw [Decidable.not_not] at k1
  refine SR 23 (decide ((↑c.shapes.length : Int) > (16 : Int))) false (decide_eq_false (by omega)) ?_
  refine RR [5] (.d (.d (.d (.d (.d (.d .a)))))) (.i 29 (.bool (decide ((↑c.units.length : Int) > (32 : Int)))) (.d (.d (.k .a)))) .a ?_
  by_cases k2 : ¬ c.units.length ≤ 32
  · rw [hbad (fun h => k2 h.2.2.1)]
    refine SR 29 (decide ((↑c.units.length : Int) > (32 : Int))) true (decide_eq_true (by omega)) ?_
    refine RR [] .z (.i 37 (.bool true) (.d (.d (.k .a)))) .a ?_
    refine RZ (NT (CT (SQ (RG ?_))))
    refine RR [] .z (.d (.k .a)) .a ?_
    refine RZ (NT (RE (TR ?_)))
    refine NE [] .z .a [] (.bool false) ?_
    exact ⟨rfl, rfl⟩
  rw [Decidable.not_not] at k2
  refine SR 29 (decide ((↑c.units.length : Int) > (32 : Int))) false (decide_eq_false (by omega)) ?_
  refine RR [5, 5] (.d (.d (.d (.d (.d .a))))) (.i 34 (.int .i64 (↑c.units.length : Int)) (.i 31 (.int .i64 c.main) (.k (.d (.k .a))))) .a ?_
  refine RC (dst := some 35) [] .a (rupto_spec c.main c.units.length) ?_
  rintro v _ ⟨rfl, rfl⟩
  cases k3 : uptoB c.main c.units.length with
  | false =>
    rw [hbad (fun h => by have := (uptoB_iff c.main c.units.length).2 h.2.2.2; rw [k3] at this; cases this)]
    refine RR [] .z (.i 37 (.bool true) (.d (.d (.d (.d (.k .a)))))) .a ?_
    refine RZ (NT (CT (SQ (RG ?_))))
    refine RR [] .z (.d (.k .a)) .a ?_
    refine RZ (NT (RE (TR ?_)))
    refine NE [] .z .a [] (.bool false) ?_
    exact ⟨rfl, rfl⟩
  | true =>
  obtain ⟨hm0, hm1⟩ := (uptoB_iff _ _).1 k3
  refine RR [] .z (.i 37 (.bool false) (.d (.d (.d (.d (.k .a)))))) .a ?_
  refine RZ (NT (CF (SK (NT (SQ (SQ (RG ?_)))))))
  refine RR [] .z (.i 3 (.int .i64 0) (.d (.k .a))) .a ?_
  refine RZ (NT (BK ?_))
  refine wpc_loop (X := {i : Nat // i ≤ c.strs.length ∧ ∀ j, (hj : j < c.strs.length) → j < i → plainB c.strs[j] = true}) (fun x => St.mk [(3, .int .i64 (x.1 : Int)), (2, .bool false), (1, .pointer (some ⟨g1, 0, none⟩))]
    [ro c.sa (strsC c.strs), ro c.ha (c.shapes.flatMap shC), gSh c.shapes, ro c.ua (c.units.flatMap unC), gUn c.units, .blk g1 26 [.slice c.sa c.strs.length c.sc, .slice c.ha c.shapes.length c.hc, .slice c.ua c.units.length c.uc, .int .i64 c.main]]) (fun x => c.strs.length - x.1) ⟨0, Nat.zero_le _, fun j _ h => absurd h (Nat.not_lt_zero _)⟩ (ent_fr (by kernel_rfl)) ?_
  rintro ⟨i, hi, hall⟩
  dsimp only at hi hall ⊢
  by_cases hlt : i < c.strs.length
  · have hts := hs2 _ (List.getElem_mem hlt)
    unfold okText at hts
    refine wpc_fact (fun w h => ro_addr h 0 rfl (by rw [strsC_len]; omega)) ?_
    rintro ⟨g0, o0, hsa⟩
    rw [hsa]
    refine SQ (SQ (RG ?_))
    refine RR [5] .z (.i 42 (.bool (decide ((↑i : Int) < (↑c.strs.length : Int)))) .a) .a ?_
    refine RZ (NT ?_)
    refine SC 42 (decide ((↑i : Int) < (↑c.strs.length : Int))) true (decide_eq_true (by omega)) ?_
    refine CT (SK (NT (SQ (BK (SQ (RG ?_))))))
    refine RV true [5] (.d (.d (.d (.d .a)))) (.i 48 (.pointer (some ⟨g0, o0 + i * 1, none⟩)) (.d (.d (.k .a)))) .a [(0 : Int) ≤ (↑i : Int) ∧ (↑i : Int) < (↑c.strs.length : Int)] ⟨by omega, trivial⟩ ?_
    refine wpr_eq (ld (t := 9) (a := ⟨g0, o0 + i * 1, none⟩) (dst := some 49) (by kernel_rfl) false 1 (by kernel_rfl) (by simp) [.string (mkS c.strs[i])] rfl (fun w h => ld_ro h 0 rfl (i * 1) (strs_at hlt))) ?_
    refine RC (dst := some 50) [] .a (rPlain_spec c.strs[i] hts) ?_
    rintro v _ ⟨rfl, rfl⟩
    cases hb : plainB c.strs[i] with
    | false =>
      rw [formB_f2 (c := c.p) (all_f (l := c.strs) hlt hb)]
      refine RR [] .z (.i 51 (.bool true) (.d (.d (.d (.k .a))))) .a ?_
      refine RZ (NT (CT (SQ (RG ?_))))
      refine RR [] .z (.i 2 (.bool false) (.d (.k (.d (.k .a))))) .a ?_
      refine RZ (NT (RE (BR (TR (TR (BR (TR ?_)))))))
      refine NE [] .z .a [] (.bool false) ?_
      exact ⟨rfl, rfl⟩
    | true =>
      refine RR [] .z (.i 51 (.bool false) (.d (.d (.d (.k .a))))) .a ?_
      refine RZ (NT (CF (SK (BN (NT (RG ?_))))))
      refine RV true [] .z (.i 3 (.int .i64 ((↑i : Int) + 1)) (.d (.d (.k .a)))) .a ([inI64 ((↑i : Int) + (1 : Int))]) ⟨by unfold inI64; omega, trivial⟩ ?_
      refine RZ ?_
      rw [← hsa]
      exact fun a' w' hS' => ⟨⟨i + 1, hlt, all_next (p := plainB) hlt hall hb⟩, by dsimp only; omega, ent_fr (by kernel_rfl) _ _ (ent_hp [0, 0, 0, 0, 0, 0] rfl _ _ hS')⟩
  obtain rfl : i = c.strs.length := by omega
  have hA1 : c.p.strs.all plainB = true := all_t fun j hj => hall j hj hj
  clear hall
  refine SQ (SQ (RG ?_))
  refine RR [5] .z (.i 42 (.bool (decide ((↑c.strs.length : Int) < (↑c.strs.length : Int)))) .a) .a ?_
  refine RZ (NT ?_)
  refine SC 42 (decide ((↑c.strs.length : Int) < (↑c.strs.length : Int))) false (by simp) ?_
  refine CF (EX (TE (TE (BH (NT (SQ (RG ?_)))))))
  refine RR [] .z (.i 4 (.slice none 0 0) (.d (.d (.d (.k .a))))) .a ?_
  refine RZ (NT (SQ (SQ (RG ?_))))
  refine RR [] .z (.i 5 (.int .i64 0) .a) .a ?_
  refine RZ (NT (BK ?_))
  refine wpc_loop (X := {x : Nat × Option Addr × Nat // x.1 ≤ c.shapes.length ∧ ∀ j, (hj : j < c.shapes.length) → j < x.1 → shapeB c.shapes[j].p = true}) (fun x => St.mk [(5, .int .i64 (x.1.1 : Int)), (4, .slice x.1.2.1 ((c.shapes.map ShV.name).take x.1.1).length x.1.2.2), (2, .bool false), (1, .pointer (some ⟨g1, 0, none⟩))]
    [row 9 1 x.1.2.1 ((c.shapes.map ShV.name).take x.1.1).length x.1.2.2 (strsC ((c.shapes.map ShV.name).take x.1.1)), ro c.sa (strsC c.strs), ro c.ha (c.shapes.flatMap shC), gSh c.shapes, ro c.ua (c.units.flatMap unC), gUn c.units, .blk g1 26 [.slice c.sa c.strs.length c.sc, .slice c.ha c.shapes.length c.hc, .slice c.ua c.units.length c.uc, .int .i64 c.main]]) (fun x => c.shapes.length - x.1.1) ⟨(0, none, 0), Nat.zero_le _, fun j _ h => absurd h (Nat.not_lt_zero _)⟩ (Ent.trans (ent_nil 9 1) (ent_fr (by kernel_rfl))) ?_
  rintro ⟨⟨i, a1, c1⟩, hi, hall⟩
  dsimp only at hi hall ⊢
  by_cases hlt : i < c.shapes.length
  · obtain ⟨ho1, ho2, ho3⟩ := hh2 _ (List.getElem_mem hlt)
    have hlm : i < (c.shapes.map ShV.name).length := by rw [List.length_map]; exact hlt
    have hnl : ((c.shapes.map ShV.name).take i).length = i := by rw [List.length_take, List.length_map]; omega
    have hshl : shapeB c.shapes[i].p = (decide (1 ≤ c.shapes[i].fields.length) && decide (c.shapes[i].fields.length ≤ 8) && namesB c.shapes[i].fields) := rfl
    have hno : shapeB c.shapes[i].p = false → rightC c.p = false := fun h => formB_f3 (c := c.p) (all_f (l := c.shapes.map ShV.p) (i := i) (by rw [List.length_map]; exact hlt) (by rw [List.getElem_map]; exact h))
    have hrn := rnames_spec c.shapes[i].fa c.shapes[i].fc c.shapes[i].fields ho2 ho3
    refine wpc_fact (fun w h => ro_addr h 2 rfl (by rw [shs_len]; omega)) ?_
    rintro ⟨g0, o0, hha⟩
    rw [hha]
    refine SQ (SQ (RG ?_))
    refine RR [6] .z (.i 56 (.bool (decide ((↑i : Int) < (↑c.shapes.length : Int)))) .a) .a ?_
    refine RZ (NT ?_)
    refine SC 56 (decide ((↑i : Int) < (↑c.shapes.length : Int))) true (decide_eq_true (by omega)) ?_
    refine CT (SK (NT (SQ (BK (SQ (RG ?_))))))
    refine RV true [6] (.d (.d (.d (.d (.d .a))))) (.i 63 (.pointer (some ⟨g0, o0 + i * 2 + 1, none⟩)) (.d (.d (.k .a)))) .a [(0 : Int) ≤ (↑i : Int) ∧ (↑i : Int) < (↑c.shapes.length : Int)] ⟨by omega, trivial⟩ ?_
    refine wpr_eq (ld (t := 22) (a := ⟨g0, o0 + i * 2 + 1, none⟩) (dst := some 64) (by kernel_rfl) false 1 (by kernel_rfl) (by simp) [.slice c.shapes[i].fa c.shapes[i].fields.length c.shapes[i].fc] rfl (fun w h => ld_ro h 2 rfl (i * 2 + 1) (shs_fld hlt 1 1 (by decide)))) ?_
    refine RR [] .z (.i 6 (.slice c.shapes[i].fa c.shapes[i].fields.length c.shapes[i].fc) (.d (.d (.k .a)))) .a ?_
    refine RZ (NT (SQ (SQ (RG ?_))))
    refine RR [] (.d (.d (.d (.d .a)))) (.i 68 (.bool (decide ((↑c.shapes[i].fields.length : Int) < (1 : Int)))) .a) .a ?_
    by_cases m1 : ¬ 1 ≤ c.shapes[i].fields.length
    · rw [hno (by rw [hshl, decide_eq_false m1]; rfl)]
      refine SR 68 (decide ((↑c.shapes[i].fields.length : Int) < (1 : Int))) true (decide_eq_true (by omega)) ?_
      refine RR [] .z (.i 77 (.bool true) (.d (.d (.d (.k .a))))) .a ?_
      refine RZ (NT (CT (SQ (RG ?_))))
      refine RR [] .z (.i 2 (.bool false) (.d (.k (.k (.d (.k .a)))))) .a ?_
      refine RZ (NT (RE (TR (BR (TR (TR (BR (TR ?_))))))))
      refine NE [] .z .a [] (.bool false) ?_
      exact ⟨rfl, rfl⟩
    rw [Decidable.not_not] at m1
    refine SR 68 (decide ((↑c.shapes[i].fields.length : Int) < (1 : Int))) false (decide_eq_false (by omega)) ?_
    refine RR [] (.d (.d (.d (.d (.d .a))))) (.i 73 (.bool (decide ((↑c.shapes[i].fields.length : Int) > (8 : Int)))) (.d (.d (.k .a)))) .a ?_
    by_cases m2 : ¬ c.shapes[i].fields.length ≤ 8
    · rw [hno (by rw [hshl, decide_eq_false m2]; simp)]
      refine SR 73 (decide ((↑c.shapes[i].fields.length : Int) > (8 : Int))) true (decide_eq_true (by omega)) ?_
      refine RR [] .z (.i 77 (.bool true) (.d (.d (.d (.k .a))))) .a ?_
      refine RZ (NT (CT (SQ (RG ?_))))
      refine RR [] .z (.i 2 (.bool false) (.d (.k (.k (.d (.k .a)))))) .a ?_
      refine RZ (NT (RE (TR (BR (TR (TR (BR (TR ?_))))))))
      refine NE [] .z .a [] (.bool false) ?_
      exact ⟨rfl, rfl⟩
    rw [Decidable.not_not] at m2
    refine SR 73 (decide ((↑c.shapes[i].fields.length : Int) > (8 : Int))) false (decide_eq_false (by omega)) ?_
    refine RR [] (.d .a) (.i 74 (.slice c.shapes[i].fa c.shapes[i].fields.length c.shapes[i].fc) (.k (.d (.d (.k .a))))) .a ?_
    refine wpr_ent (ent_copy 3 (ro c.shapes[i].fa (strsC c.shapes[i].fields)) rfl (fun h => h) (view_in (shRo_in hlt) view_ro)) ?_
    refine RCG (dst := some 75) .a (hrn) (GV (GI []) 0 view_ro) ?_
    rintro v _ ⟨rfl, rfl⟩
    cases hb : namesB c.shapes[i].fields with
    | false =>
      rw [hno (by rw [hshl, hb]; simp)]
      refine RR [] .z (.i 77 (.bool true) (.d (.d (.d (.k .a))))) .a ?_
      refine RZ (NT (CT (SQ (RG ?_))))
      refine RR [] .z (.i 2 (.bool false) (.d (.k (.k (.d (.k .a)))))) .a ?_
      refine RZ (NT (RE (TR (BR (TR (TR (BR (TR ?_))))))))
      refine NE [] .z .a [] (.bool false) ?_
      exact ⟨rfl, rfl⟩
    | true =>
      refine RR [] .z (.i 77 (.bool false) (.d (.d (.d (.k .a))))) .a ?_
      refine RZ (NT (CF (SK (NT (RG ?_)))))
      refine RV true [7] (.d (.d (.d (.d (.d (.d .a)))))) (.i 83 (.pointer (some ⟨g0, o0 + i * 2, none⟩)) (.i 78 (.slice a1 (List.take i (List.map ShV.name c.shapes)).length c1) (.d (.k .a)))) .a [(0 : Int) ≤ (↑i : Int) ∧ (↑i : Int) < (↑c.shapes.length : Int)] ⟨by omega, trivial⟩ ?_
      refine wpr_eq (ld (t := 9) (a := ⟨g0, o0 + i * 2, none⟩) (dst := some 84) (by kernel_rfl) false 1 (by kernel_rfl) (by simp) [.string (mkS c.shapes[i].name)] rfl (fun w h => ld_ro h 3 rfl (i * 2) (shs_fld hlt 0 1 (by decide)))) ?_
      refine RN [] (.d .a) 85 (fun g2 => (.slice (some ⟨g2, 0, none⟩) 1 1)) (.d (.d (.k .a))) .a 9 [.string (mkS c.shapes[i].name)] fun g2 => ?_
      refine wpr_ent (ent_turn 8 (ro (some ⟨g2, 0, none⟩) [.string (mkS c.shapes[i].name)]) rfl (turn_rblk (by intro v hv; rw [List.mem_singleton.1 hv]; rfl)) rfl) ?_
      refine wpr_app (a := a1) (n := ((List.take i (List.map ShV.name c.shapes)).length)) (cap := c1) (x := (.slice (some ⟨g2, 0, none⟩) 1 1)) (t := 22) (xt := 22) (dst := some 86) (by kernel_rfl) (e := 9) (sz := 1) (bytes := 16) (by kernel_rfl) 1 (xs := (strsC (List.take i (List.map ShV.name c.shapes)))) (by kernel_rfl) (m := 1) (news := [.string (mkS c.shapes[i].name)]) (fun w h => src_ro h 8 rfl rfl (fun e => by cases e)) (by unfold maxLen; omega) (by omega) ?_
      intro a3 c3 hn3
      have hE : strsC ((c.shapes.map ShV.name).take i) ++ [.string (mkS c.shapes[i].name)] = strsC ((c.shapes.map ShV.name).take (i + 1)) := by
        have := strs_take hlm
        rw [List.getElem_map] at this
        exact this
      rw [hE, show ((c.shapes.map ShV.name).take i).length + 1 = ((c.shapes.map ShV.name).take (i + 1)).length by rw [hnl, List.length_take, List.length_map]; omega]
      refine RR [] .z (.i 4 (.slice a3 (List.take (i + 1) (List.map ShV.name c.shapes)).length c3) (.d (.d (.d (.k (.d (.k .a))))))) .a ?_
      refine RZ (BN (NT (RG ?_)))
      refine RV true [] .z (.i 5 (.int .i64 ((↑i : Int) + 1)) (.k (.d (.k .a)))) .a ([inI64 ((↑i : Int) + (1 : Int))]) ⟨by unfold inI64; omega, trivial⟩ ?_
      refine RZ ?_
      rw [← hha]
      exact fun a' w' hS' => ⟨⟨(i + 1, a3, c3), hlt, all_next (p := fun x : ShV => shapeB x.p) hlt hall (by rw [hshl, decide_eq_true m1, decide_eq_true m2, hb]; rfl)⟩, by dsimp only; omega, ent_fr (by kernel_rfl) _ _ (ent_hp [1, 1, 1, 1, 1, 1, 1] rfl _ _ hS')⟩
  obtain rfl : i = c.shapes.length := by omega
  have hA2 : c.p.shapes.all shapeB = true := all_t (l := c.shapes.map ShV.p) fun j hj => by rw [List.length_map] at hj; rw [List.getElem_map]; exact hall j hj hj
  clear hall
  rw [show (c.shapes.map ShV.name).take c.shapes.length = c.shapes.map ShV.name from List.take_of_length_le (by rw [List.length_map]; exact Nat.le_refl _)]
  refine SQ (SQ (RG ?_))
  refine RR [6] .z (.i 56 (.bool (decide ((↑c.shapes.length : Int) < (↑c.shapes.length : Int)))) .a) .a ?_
  refine RZ (NT ?_)
  refine SC 56 (decide ((↑c.shapes.length : Int) < (↑c.shapes.length : Int))) false (by simp) ?_
  refine CF (EX (TE (TE (BH (NT (SQ (RG ?_)))))))
  refine RR [] .z (.i 7 (.slice none 0 0) (.d (.d (.d (.k .a))))) .a ?_
  refine RZ (NT (SQ (SQ (RG ?_))))
  refine RR [] .z (.i 8 (.int .i64 0) .a) .a ?_
  refine RZ (NT (BK ?_))
  refine wpc_loop (X := {x : Nat × Option Addr × Nat // x.1 ≤ c.units.length}) (fun x => St.mk [(8, .int .i64 (x.1.1 : Int)), (7, .slice x.1.2.1 ((c.units.map UnV.name).take x.1.1).length x.1.2.2), (4, .slice a1 (c.shapes.map ShV.name).length c1), (2, .bool false), (1, .pointer (some ⟨g1, 0, none⟩))]
    [row 9 1 x.1.2.1 ((c.units.map UnV.name).take x.1.1).length x.1.2.2 (strsC ((c.units.map UnV.name).take x.1.1)), row 9 1 a1 (c.shapes.map ShV.name).length c1 (strsC (c.shapes.map ShV.name)), ro c.sa (strsC c.strs), ro c.ha (c.shapes.flatMap shC), gSh c.shapes, ro c.ua (c.units.flatMap unC), gUn c.units, .blk g1 26 [.slice c.sa c.strs.length c.sc, .slice c.ha c.shapes.length c.hc, .slice c.ua c.units.length c.uc, .int .i64 c.main]]) (fun x => c.units.length - x.1.1) ⟨(0, none, 0), Nat.zero_le _⟩ (Ent.trans (ent_nil 9 1) (ent_fr (by kernel_rfl))) ?_
  rintro ⟨⟨i, a2, c2⟩, hi⟩
  dsimp only at hi ⊢
  by_cases hlt : i < c.units.length
  · have hlm : i < (c.units.map UnV.name).length := by rw [List.length_map]; exact hlt
    have hnl : ((c.units.map UnV.name).take i).length = i := by rw [List.length_take, List.length_map]; omega
    refine wpc_fact (fun w h => ro_addr h 5 rfl (by rw [uns_len]; omega)) ?_
    rintro ⟨g0, o0, hua⟩
    rw [hua]
    refine SQ (SQ (RG ?_))
    refine RR [7] .z (.i 91 (.bool (decide ((↑i : Int) < (↑c.units.length : Int)))) .a) .a ?_
    refine RZ (NT ?_)
    refine SC 91 (decide ((↑i : Int) < (↑c.units.length : Int))) true (decide_eq_true (by omega)) ?_
    refine CT (SK (NT (SQ (BK (RG ?_)))))
    refine RV true [7] (.d (.d (.d (.d (.d (.d .a)))))) (.i 99 (.pointer (some ⟨g0, o0 + i * 7, none⟩)) (.i 94 (.slice a2 (List.take i (List.map UnV.name c.units)).length c2) (.d (.d (.k .a))))) .a [(0 : Int) ≤ (↑i : Int) ∧ (↑i : Int) < (↑c.units.length : Int)] ⟨by omega, trivial⟩ ?_
    refine wpr_eq (ld (t := 9) (a := ⟨g0, o0 + i * 7, none⟩) (dst := some 100) (by kernel_rfl) false 1 (by kernel_rfl) (by simp) [.string (mkS c.units[i].name)] rfl (fun w h => ld_ro h 5 rfl (i * 7) (uns_fld hlt 0 1 (by decide)))) ?_
    refine RN [] (.d .a) 101 (fun g2 => (.slice (some ⟨g2, 0, none⟩) 1 1)) (.d (.d (.k .a))) .a 9 [.string (mkS c.units[i].name)] fun g2 => ?_
    refine wpr_ent (ent_turn 8 (ro (some ⟨g2, 0, none⟩) [.string (mkS c.units[i].name)]) rfl (turn_rblk (by intro v hv; rw [List.mem_singleton.1 hv]; rfl)) rfl) ?_
    refine wpr_app (a := a2) (n := ((List.take i (List.map UnV.name c.units)).length)) (cap := c2) (x := (.slice (some ⟨g2, 0, none⟩) 1 1)) (t := 22) (xt := 22) (dst := some 102) (by kernel_rfl) (e := 9) (sz := 1) (bytes := 16) (by kernel_rfl) 0 (xs := (strsC (List.take i (List.map UnV.name c.units)))) (by kernel_rfl) (m := 1) (news := [.string (mkS c.units[i].name)]) (fun w h => src_ro h 8 rfl rfl (fun e => by cases e)) (by unfold maxLen; omega) (by omega) ?_
    intro a3 c3 hn3
    have hE : strsC ((c.units.map UnV.name).take i) ++ [.string (mkS c.units[i].name)] = strsC ((c.units.map UnV.name).take (i + 1)) := by
      have := strs_take hlm
      rw [List.getElem_map] at this
      exact this
    rw [hE, show ((c.units.map UnV.name).take i).length + 1 = ((c.units.map UnV.name).take (i + 1)).length by rw [hnl, List.length_take, List.length_map]; omega]
    refine RR [] .z (.i 7 (.slice a3 (List.take (i + 1) (List.map UnV.name c.units)).length c3) (.d (.d (.d (.k (.d (.k .a))))))) .a ?_
    refine RZ (BN (NT (RG ?_)))
    refine RV true [] .z (.i 8 (.int .i64 ((↑i : Int) + 1)) (.k (.d (.k .a)))) .a ([inI64 ((↑i : Int) + (1 : Int))]) ⟨by unfold inI64; omega, trivial⟩ ?_
    refine RZ ?_
    rw [← hua]
    exact fun a' w' hS' => ⟨⟨(i + 1, a3, c3), hlt⟩, by dsimp only; omega, ent_fr (by kernel_rfl) _ _ (ent_hp [0, 0, 0, 0, 0, 0, 0, 0] rfl _ _ hS')⟩
  obtain rfl : i = c.units.length := by omega
  rw [show (c.units.map UnV.name).take c.units.length = c.units.map UnV.name from List.take_of_length_le (by rw [List.length_map]; exact Nat.le_refl _)]
  refine SQ (SQ (RG ?_))
  refine RR [7] .z (.i 91 (.bool (decide ((↑c.units.length : Int) < (↑c.units.length : Int)))) .a) .a ?_
  refine RZ (NT ?_)
  refine SC 91 (decide ((↑c.units.length : Int) < (↑c.units.length : Int))) false (by simp) ?_
  refine CF (EX (TE (TE (BH (NT (SQ (SQ (RG ?_))))))))
  refine RR [] (.d .a) (.i 103 (.slice a1 (List.map ShV.name c.shapes).length c1) (.d (.d (.d (.k (.d (.k .a))))))) .a ?_
  refine RCG (dst := some 104) .a (rnames_spec a1 c1 (c.shapes.map ShV.name) (by rw [List.length_map]; exact hh1) (fun x hx => by obtain ⟨y, hy, rfl⟩ := List.mem_map.1 hx; exact (hh2 y hy).1)) (GV (GI []) 1 view_row) ?_
  rintro v _ ⟨rfl, rfl⟩
  cases hN1 : namesB (c.shapes.map ShV.name) with
  | false =>
    rw [formB_f4 (c := c.p) (by rw [eN1]; exact hN1)]
    refine RR [] .z (.i 129 (.bool true) (.d (.d (.d (.k .a))))) .a ?_
    refine RZ (NT (CT (SQ (RG ?_))))
    refine RR [] .z (.d (.k .a)) .a ?_
    refine RZ (NT (RE (TR ?_)))
    refine NE [] .z .a [] (.bool false) ?_
    exact ⟨rfl, rfl⟩
  | true =>
  refine RR [] (.d (.d (.d .a))) (.i 107 (.slice a2 (List.map UnV.name c.units).length c2) (.i 106 (.bool false) (.d (.d (.d (.k .a)))))) .a ?_
  refine RCG (dst := some 108) .a (rnames_spec a2 c2 (c.units.map UnV.name) (by rw [List.length_map]; exact hu1) (fun x hx => by obtain ⟨y, hy, rfl⟩ := List.mem_map.1 hx; exact (hu2 y hy).1)) (GV (GI []) 0 view_row) ?_
  rintro v _ ⟨rfl, rfl⟩
  cases hN2 : namesB (c.units.map UnV.name) with
  | false =>
    rw [formB_f5 (c := c.p) (by rw [eN2]; exact hN2)]
    refine RR [] .z (.i 129 (.bool true) (.d (.d (.d (.k .a))))) .a ?_
    refine RZ (NT (CT (SQ (RG ?_))))
    refine RR [] .z (.d (.k .a)) .a ?_
    refine RZ (NT (RE (TR ?_)))
    refine NE [] .z .a [] (.bool false) ?_
    exact ⟨rfl, rfl⟩
  | true =>
  obtain ⟨mn, hmn⟩ := Int.eq_ofNat_of_zero_le hm0
  have hmlt : mn < c.units.length := by omega
  have eM : mainB c.p = (decide (c.units[mn].params = 0) && !c.units[mn].result) := by
    unfold mainB
    have e : c.p.units[c.p.main.toNat]? = some c.units[mn].p := by
      show (c.units.map UnV.p)[c.main.toNat]? = _
      rw [hmn, Int.toNat_natCast, List.getElem?_map, List.getElem?_eq_getElem hmlt]; rfl
    rw [e]; rfl
  refine wpr_fact (fun w h => ro_addr h 5 rfl (by rw [uns_len]; omega)) ?_
  rintro ⟨g0, o0, hua⟩
  rw [hua, hmn]
  refine RV true [7, 7] (.d (.d (.d (.d (.d (.d (.d (.d (.d .a))))))))) (.i 117 (.pointer (some ⟨g0, o0 + mn * 7 + 1, none⟩)) (.i 111 (.bool false) (.d (.d (.d (.k .a)))))) .a [(0 : Int) ≤ (↑mn : Int) ∧ (↑mn : Int) < (↑c.units.length : Int)] ⟨by omega, trivial⟩ ?_
  refine wpr_eq (ld (t := 3) (a := ⟨g0, o0 + mn * 7 + 1, none⟩) (dst := some 118) (by kernel_rfl) false 1 (by kernel_rfl) (by simp) [.int .i64 c.units[mn].params] rfl (fun w h => ld_ro h 5 rfl (mn * 7 + 1) (uns_fld hmlt 1 1 (by decide)))) ?_
  refine RR [] (.d (.d (.d .a))) (.i 121 (.bool (c.units[mn].params != (0 : Int))) (.d (.d (.d (.k .a))))) .a ?_
  by_cases kP : ¬ c.units[mn].params = 0
  · rw [formB_f6 (c := c.p) (by rw [eM, decide_eq_false kP]; rfl)]
    refine SR 121 (c.units[mn].params != (0 : Int)) true (by simp only [bne_iff_ne, beq_iff_eq, ne_eq]; omega) ?_
    refine RR [] .z (.i 129 (.bool true) (.d (.d (.k .a)))) .a ?_
    refine RZ (NT (CT (SQ (RG ?_))))
    refine RR [] .z (.d (.k .a)) .a ?_
    refine RZ (NT (RE (TR ?_)))
    refine NE [] .z .a [] (.bool false) ?_
    exact ⟨rfl, rfl⟩
  rw [Decidable.not_not] at kP
  refine SR 121 (c.units[mn].params != (0 : Int)) false (by simp only [bne_eq_false_iff_eq, beq_eq_false_iff_ne, ne_eq]; omega) ?_
  refine RV true [7, 7] (.d (.d (.d (.d (.d (.d .a)))))) (.i 127 (.pointer (some ⟨g0, o0 + mn * 7 + 4, none⟩)) (.k (.d (.k .a)))) .a [(0 : Int) ≤ (↑mn : Int) ∧ (↑mn : Int) < (↑c.units.length : Int)] ⟨by omega, trivial⟩ ?_
  refine wpr_eq (ld (t := 4) (a := ⟨g0, o0 + mn * 7 + 4, none⟩) (dst := some 128) (by kernel_rfl) false 1 (by kernel_rfl) (by simp) [.bool c.units[mn].result] rfl (fun w h => ld_ro h 5 rfl (mn * 7 + 4) (uns_fld hmlt 4 1 (by decide)))) ?_
  refine RR [] .z (.i 129 (.bool c.units[mn].result) (.d (.d (.d (.k .a))))) .a ?_
  refine RZ (NT ?_)
  cases hr : c.units[mn].result with
  | true =>
    rw [formB_f6 (c := c.p) (by rw [eM, hr]; simp)]
    refine CT (SQ (RG ?_))
    refine RR [] .z (.d (.k .a)) .a ?_
    refine RZ (NT (RE (TR ?_)))
    refine NE [] .z .a [] (.bool false) ?_
    exact ⟨rfl, rfl⟩
  | false =>
  have hA3 : mainB c.p = true := by rw [eM, hr, decide_eq_true kP]; rfl
  rw [← hua, ← hmn]
  refine CF (SK (NT (SQ (SQ (RG ?_)))))
  refine RR [] .z (.i 9 (.int .i64 0) (.d (.k .a))) .a ?_
  refine RZ (NT (BK ?_))
  refine wpc_loop (X := {i : Nat // i ≤ c.units.length ∧ ∀ j, (hj : j < c.units.length) → j < i → unitB c.p c.units[j].p = true}) (fun x => St.mk [(9, .int .i64 (x.1 : Int)), (2, .bool false), (1, .pointer (some ⟨g1, 0, none⟩))]
    [ro c.ua (c.units.flatMap unC), ro c.ha (c.shapes.flatMap shC), gUn c.units, .blk g1 26 [.slice c.sa c.strs.length c.sc, .slice c.ha c.shapes.length c.hc, .slice c.ua c.units.length c.uc, .int .i64 c.main]]) (fun x => c.units.length - x.1) ⟨0, Nat.zero_le _, fun j _ h => absurd h (Nat.not_lt_zero _)⟩ (Ent.trans (ent_hp [5, 3, 4, 4] rfl) (ent_fr (by kernel_rfl))) ?_
  rintro ⟨i, hi, hall⟩
  dsimp only at hi hall ⊢
  by_cases hlt : i < c.units.length
  · have hun := runit_spec c c.units[i] (hu2 _ (List.getElem_mem hlt))
    rw [hCo] at hun
    unfold unC at hun
    refine wpc_fact (fun w h => ro_addr h 0 rfl (by rw [uns_len]; omega)) ?_
    rintro ⟨g0, o0, hua⟩
    rw [hua] at hun ⊢
    refine SQ (SQ (RG ?_))
    refine RR [3] .z (.i 134 (.bool (decide ((↑i : Int) < (↑c.units.length : Int)))) .a) .a ?_
    refine RZ (NT ?_)
    refine SC 134 (decide ((↑i : Int) < (↑c.units.length : Int))) true (decide_eq_true (by omega)) ?_
    refine CT (SK (NT (SQ (BK (SQ ?_)))))
    refine wpc_draw (by kernel_rfl) [ro (some ⟨g0, o0, none⟩) (List.flatMap unC c.units), .blk g1 26 [.slice c.sa c.strs.length c.sc, .slice c.ha c.shapes.length c.hc, .slice (some ⟨g0, o0, none⟩) c.units.length c.uc, .int .i64 c.main]] (sub_of [0, 3] (by kernel_rfl)) 8 (by kernel_rfl) ?_
    refine wpa_take true [(0, [1, 1, 1, 1]), (1, []), (2, [1]), (3, []), (4, [])] ([(141, .pointer (some ⟨g0, o0 + i * 7, none⟩)), (137, .agg #[.slice c.sa c.strs.length c.sc, .slice c.ha c.shapes.length c.hc, .slice (some ⟨g0, o0, none⟩) c.units.length c.uc, .int .i64 c.main]), (9, .int .i64 (↑i : Int)), (2, .bool false), (1, .pointer (some ⟨g1, 0, none⟩))]) (#[true, true, true, true, true, false, false, false]) [(0 : Int) ≤ (↑i : Int) ∧ (↑i : Int) < (↑c.units.length : Int)] (n := 3) (by kernel_rfl) (by kernel_rfl) (by kernel_rfl) ⟨by omega, trivial⟩ ?_
    refine wpa_qld (i := 5) (n := 2) (by kernel_rfl) (by kernel_rfl) (by kernel_rfl) (t := 59) (a := ⟨g0, o0 + i * 7, none⟩) (dst := some 142) (by kernel_rfl) true 7 (by kernel_rfl) (by simp) (unC c.units[i]) rfl (fun w h => ld_roL h 0 rfl (i * 7) (uns_at hlt)) ?_
    refine wpa_ent (ent_copy 2 (ro c.units[i].ia (c.units[i].ins.flatMap insC)) rfl (fun h => h) (view_in (unRo_in1 hlt) view_ro)) ?_
    refine wpa_ent (ent_copy 3 (ro c.units[i].va (c.units[i].vars.flatMap varC)) rfl (fun h => h) (view_in (unRo_in2 hlt) view_ro)) ?_
    refine AC (dst := some 143) 1 6 .a (hun) (GV (GV (GI []) 0 view_ro) 1 view_ro) [2, 5] ?_
    rintro v _ ⟨rfl, rfl⟩
    cases hb : unitB c.p c.units[i].p with
    | false =>
      rw [formB_f7 (c := c.p) (all_f (l := c.units.map UnV.p) (i := i) (by rw [List.length_map]; exact hlt) (by rw [List.getElem_map]; exact hb))]
      refine TK 0 [(7, [])] (.i 144 (.bool true) (.d (.d (.d (.d (.k .a)))))) (#[true, true, true, true, true, true, true, true]) ?_
      refine wpa_done 0 (by kernel_rfl) ?_
      refine NT (CT (SQ (RG ?_)))
      refine RR [] .z (.i 2 (.bool false) (.d (.k (.d (.k .a))))) .a ?_
      refine RZ (NT (RE (BR (TR (TR (BR (TR ?_)))))))
      refine NE [] .z .a [] (.bool false) ?_
      exact ⟨rfl, rfl⟩
    | true =>
      refine TK 0 [(7, [])] (.i 144 (.bool false) (.d (.d (.d (.d (.k .a)))))) (#[true, true, true, true, true, true, true, true]) ?_
      refine wpa_done 0 (by kernel_rfl) ?_
      refine NT (CF (SK (BN (NT (RG ?_)))))
      refine RV true [] .z (.i 9 (.int .i64 ((↑i : Int) + 1)) (.d (.d (.k .a)))) .a ([inI64 ((↑i : Int) + (1 : Int))]) ⟨by unfold inI64; omega, trivial⟩ ?_
      refine RZ ?_
      rw [← hua]
      exact fun a' w' hS' => ⟨⟨i + 1, hlt, all_next (p := fun x : UnV => unitB c.p x.p) hlt hall hb⟩, by dsimp only; omega, ent_fr (by kernel_rfl) _ _ (ent_hp [2, 2, 2, 2] rfl _ _ hS')⟩
  obtain rfl : i = c.units.length := by omega
  have hA4 : c.p.units.all (unitB c.p) = true := all_t (l := c.units.map UnV.p) fun j hj => by rw [List.length_map] at hj; rw [List.getElem_map]; exact hall j hj hj
  have hUall : ∀ j, (hj : j < c.units.length) → unitB c.p c.units[j].p = true := fun j hj => hall j hj hj
  clear hall
  have hpu : ∀ y ∈ c.units, 0 ≤ y.params ∧ y.params ≤ 8 := fun y hy => by
    obtain ⟨j, hj⟩ := List.getElem?_of_mem hy
    obtain ⟨hj1, rfl⟩ := List.getElem?_eq_some_iff.1 hj
    have := unitB_head (hUall j hj1)
    exact ⟨this.1, this.2.1⟩
  have hform : formB c.p = true := by
    have h1 : headC c.p = true := (headC_iff c.p).2 ⟨k0, by show (c.shapes.map ShV.p).length ≤ 16; rw [List.length_map]; exact k1, by show (c.units.map UnV.p).length ≤ 32; rw [List.length_map]; exact k2, hm0, by show c.main < ((c.units.map UnV.p).length : Int); rw [List.length_map]; exact hm1⟩
    unfold formB
    rw [h1, hA1, hA2, eN1, hN1, eN2, hN2, hA3, hA4]; rfl
  have hR : rightC c.p = c.p.units.all (fun u => fineB (gr c.p u)) := by unfold rightC; rw [hform]; rfl
  rw [hR]
  refine SQ (SQ (RG ?_))
  refine RR [3] .z (.i 134 (.bool (decide ((↑c.units.length : Int) < (↑c.units.length : Int)))) .a) .a ?_
  refine RZ (NT ?_)
  refine SC 134 (decide ((↑c.units.length : Int) < (↑c.units.length : Int))) false (by simp) ?_
  refine CF (EX (TE (TE (BH (NT (SQ (SQ (RG ?_))))))))
  refine RR [] .z (.i 10 (.int .i64 0) (.d (.d (.d (.k .a))))) .a ?_
  refine RZ (NT (BK ?_))
  refine wpc_loop (X := {i : Nat // i ≤ c.units.length ∧ ∀ j, (hj : j < c.units.length) → j < i → fineB (gr c.p c.units[j].p) = true}) (fun x => St.mk [(10, .int .i64 (x.1 : Int)), (2, .bool false), (1, .pointer (some ⟨g1, 0, none⟩))]
    [ro c.ua (c.units.flatMap unC), ro c.ha (c.shapes.flatMap shC), gUn c.units, .blk g1 26 [.slice c.sa c.strs.length c.sc, .slice c.ha c.shapes.length c.hc, .slice c.ua c.units.length c.uc, .int .i64 c.main]]) (fun x => c.units.length - x.1) ⟨0, Nat.zero_le _, fun j _ h => absurd h (Nat.not_lt_zero _)⟩ (ent_fr (by kernel_rfl)) ?_
  rintro ⟨i, hi, hall⟩
  dsimp only at hi hall ⊢
  by_cases hlt : i < c.units.length
  · have hun := rheights_spec c hu1 hh1 (fun s hs => (hh2 s hs).2.1) hpu c.units[i] (hUall i hlt)
    rw [hCo, show unC c.units[i] = [.string (mkS c.units[i].name), .int .i64 c.units[i].params, .int .i64 c.units[i].slots, .int .i64 c.units[i].stack, .bool c.units[i].result, .slice c.units[i].ia c.units[i].ins.length c.units[i].ic, .slice c.units[i].va c.units[i].vars.length c.units[i].vc] from rfl] at hun
    refine wpc_fact (fun w h => ro_addr h 0 rfl (by rw [uns_len]; omega)) ?_
    rintro ⟨g0, o0, hua⟩
    rw [hua] at hun ⊢
    refine SQ (SQ (RG ?_))
    refine RR [3] .z (.i 149 (.bool (decide ((↑i : Int) < (↑c.units.length : Int)))) .a) .a ?_
    refine RZ (NT ?_)
    refine SC 149 (decide ((↑i : Int) < (↑c.units.length : Int))) true (decide_eq_true (by omega)) ?_
    refine CT (SK (NT (SQ (BK (SQ ?_)))))
    refine wpc_draw (by kernel_rfl) [ro (some ⟨g0, o0, none⟩) (List.flatMap unC c.units), .blk g1 26 [.slice c.sa c.strs.length c.sc, .slice c.ha c.shapes.length c.hc, .slice (some ⟨g0, o0, none⟩) c.units.length c.uc, .int .i64 c.main]] (sub_of [0, 3] (by kernel_rfl)) 12 (by kernel_rfl) ?_
    refine wpa_take true [(0, [1, 1, 1, 1]), (1, []), (2, [1]), (3, []), (4, [])] ([(157, .pointer (some ⟨g0, o0 + i * 7, none⟩)), (153, .agg #[.slice c.sa c.strs.length c.sc, .slice c.ha c.shapes.length c.hc, .slice (some ⟨g0, o0, none⟩) c.units.length c.uc, .int .i64 c.main]), (10, .int .i64 (↑i : Int)), (2, .bool false), (1, .pointer (some ⟨g1, 0, none⟩))]) (#[true, true, true, true, true, false, false, false, false, false, false, false]) [(0 : Int) ≤ (↑i : Int) ∧ (↑i : Int) < (↑c.units.length : Int)] (n := 7) (by kernel_rfl) (by kernel_rfl) (by kernel_rfl) ⟨by omega, trivial⟩ ?_
    refine wpa_qld (i := 5) (n := 6) (by kernel_rfl) (by kernel_rfl) (by kernel_rfl) (t := 59) (a := ⟨g0, o0 + i * 7, none⟩) (dst := some 158) (by kernel_rfl) true 7 (by kernel_rfl) (by simp) (unC c.units[i]) rfl (fun w h => ld_roL h 0 rfl (i * 7) (uns_at hlt)) ?_
    refine wpa_ent (ent_copy 2 (ro c.units[i].ia (c.units[i].ins.flatMap insC)) rfl (fun h => h) (view_in (unRo_in1 hlt) view_ro)) ?_
    refine AC (dst := some 159) 5 6 .a (hun) (GV (GV (GV (GI []) 0 view_ro) 2 view_ro) 1 view_ro) [1, 4] ?_
    intro v hp' hv
    cases hb : fineB (gr c.p c.units[i].p) with
    | false =>
      rw [if_neg (by rw [hb]; decide)] at hv
      obtain ⟨rfl, rfl⟩ := hv
      rw [show c.p.units.all (fun u => fineB (gr c.p u)) = false from all_f (l := c.units.map UnV.p) (p := fun u => fineB (gr c.p u)) (i := i) (by rw [List.length_map]; exact hlt) (by rw [List.getElem_map]; exact hb)]
      refine TK 0 [(7, []), (8, []), (9, []), (10, []), (11, [])] (.i 12 (.bool false) (.d (.d (.d (.d (.k .a)))))) (#[true, true, true, true, true, true, true, true, true, true, true, true]) ?_
      refine wpa_done 0 (by kernel_rfl) ?_
      refine NT (SQ (RG ?_))
      refine RR [] .z (.i 163 (.bool true) (.d (.k .a))) .a ?_
      refine RZ (NT (CT (SQ (RG ?_))))
      refine RR [] .z (.i 2 (.bool false) (.d (.k (.d (.k .a))))) .a ?_
      refine RZ (NT (RE (BR (TR (TR (BR (TR ?_)))))))
      refine NE [] .z .a [] (.bool false) ?_
      exact ⟨rfl, rfl⟩
    | true =>
      rw [if_pos hb] at hv
      obtain ⟨a5, c5, rfl, rfl⟩ := hv
      refine TK 0 [(7, []), (8, []), (9, []), (10, []), (11, [])] (.i 12 (.bool true) (.d (.d (.d (.d (.k .a)))))) (#[true, true, true, true, true, true, true, true, true, true, true, true]) ?_
      refine wpa_done 0 (by kernel_rfl) ?_
      refine NT (SQ (RG ?_))
      refine RR [] .z (.i 163 (.bool false) (.d (.k .a))) .a ?_
      refine RZ (NT (CF (SK (BN (NT (RG ?_))))))
      refine RV true [] .z (.i 10 (.int .i64 ((↑i : Int) + 1)) (.d (.d (.k .a)))) .a ([inI64 ((↑i : Int) + (1 : Int))]) ⟨by unfold inI64; omega, trivial⟩ ?_
      refine RZ ?_
      rw [← hua]
      exact fun a' w' hS' => ⟨⟨i + 1, hlt, all_next (p := fun x : UnV => fineB (gr c.p x.p)) hlt hall hb⟩, by dsimp only; omega, ent_fr (by kernel_rfl) _ _ (ent_hp [2, 2, 2, 2] rfl _ _ hS')⟩
  obtain rfl : i = c.units.length := by omega
  rw [show c.p.units.all (fun u => fineB (gr c.p u)) = true from all_t (l := c.units.map UnV.p) (p := fun u => fineB (gr c.p u)) (fun j hj => by rw [List.length_map] at hj; rw [List.getElem_map]; exact hall j hj hj)]
  refine SQ (SQ (RG ?_))
  refine RR [3] .z (.i 149 (.bool (decide ((↑c.units.length : Int) < (↑c.units.length : Int)))) .a) .a ?_
  refine RZ (NT ?_)
  refine SC 149 (decide ((↑c.units.length : Int) < (↑c.units.length : Int))) false (by simp) ?_
  refine CF (EX (TE (TE (BH (NT (SQ (RG ?_)))))))
  refine RR [] .z (.i 2 (.bool true) .z) .a ?_
  refine RZ (NT (RE ?_))
  refine NE [] .z .a [] (.bool true) ?_
  exact ⟨rfl, rfl⟩
theorem rcheck_spec (c : CoV) (hc : c.ok) : Does Tryz.prog 19 [.agg (coC c).toArray] (coHp c) (fun v hp' => v = .int .i64 (if rightC c.p then 0 else 2) ∧ hp' = []) := by
  have h := rright_spec c hc
  rw [show coC c = [.slice c.sa c.strs.length c.sc, .slice c.ha c.shapes.length c.hc, .slice c.ua c.units.length c.uc, .int .i64 c.main] from rfl] at h ⊢
  unfold coHp at h ⊢
  refine fn_enter Tryz.func19 rfl 6 rfl fun w0 h0 => ?_
  refine SQ (RG ?_)
  refine RP [] (.d .a) 1 .z .a 26 [.slice c.sa c.strs.length c.sc, .slice c.ha c.shapes.length c.hc, .slice c.ua c.units.length c.uc, .int .i64 c.main] fun g1 => ?_
  refine RR [] .z (.i 2 (.int .i64 0) .a) .a ?_
  refine RZ (NT (SQ (SQ (RG ?_))))
  refine RR [5, 5, 5, 5] (.d .a) (.i 3 (.agg #[.slice c.sa c.strs.length c.sc, .slice c.ha c.shapes.length c.hc, .slice c.ua c.units.length c.uc, .int .i64 c.main]) (.k .z)) .a ?_
  refine RCG (dst := some 4) .a (h) (GV (GV (GV (GV (GV (GI []) 4 view_self) 3 view_ro) 2 view_self) 1 view_ro) 0 view_ro) ?_
  rintro v _ ⟨rfl, rfl⟩
  cases hb : rightC c.p with
  | true =>
    refine RR [] .z (.i 5 (.bool false) (.d (.d (.k .a)))) .a ?_
    refine RZ (NT (CF (SK (NT (SQ (RG ?_))))))
    refine RR [] .z (.d (.k .a)) .a ?_
    refine RZ (NT (RE ?_))
    refine NE [] .z .a [] (.int .i64 0) ?_
    exact ⟨rfl, rfl⟩
  | false =>
    refine RR [] .z (.i 5 (.bool true) (.d (.d (.k .a)))) .a ?_
    refine RZ (NT (CT (SQ (RG ?_))))
    refine RR [] .z (.i 2 (.int .i64 2) .z) .a ?_
    refine RZ (NT (RE (TR ?_)))
    refine NE [] .z .a [] (.int .i64 2) ?_
    exact ⟨rfl, rfl⟩
set_option maxHeartbeats 8000000 in
theorem rHeights_spec (c : CoV) (hc : c.ok) (n : Int) : Does Tryz.prog 17 [.agg (coC c).toArray, .int .i64 n] (coHp c)
    (fun v hp' => if rightC c.p = false then v = .tuple #[.slice none 0 0, .int .i64 2] ∧ hp' = []
      else if uptoB n c.units.length = false then v = .tuple #[.slice none 0 0, .int .i64 10] ∧ hp' = []
      else ∃ k, ∃ h : k < c.units.length, n = (k : Int) ∧ ∃ a' c', v = .tuple #[.slice a' (htsL (gr c.p c.units[k].p)).length c', .int .i64 0] ∧ hp' = [row 3 1 a' (htsL (gr c.p c.units[k].p)).length c' (ints (htsL (gr c.p c.units[k].p)))]) := by
  have hR := rright_spec c hc
  obtain ⟨hs1, hs2, hh1, hh2, hu1, hu2, hmr⟩ := hc
  have hCo : coC c = [.slice c.sa c.strs.length c.sc, .slice c.ha c.shapes.length c.hc, .slice c.ua c.units.length c.uc, .int .i64 c.main] := rfl
  rw [hCo] at hR ⊢
  unfold coHp at hR ⊢
  refine fn_enter Tryz.func17 rfl 28 rfl fun w0 h0 => ?_
  refine SQ (RG ?_)
  refine RP [] (.d .a) 2 (.d (.k .a)) .a 26 [.slice c.sa c.strs.length c.sc, .slice c.ha c.shapes.length c.hc, .slice c.ua c.units.length c.uc, .int .i64 c.main] fun g1 => ?_
  refine RR [] .z (.i 5 (.int .i64 0) (.i 4 (.slice none 0 0) .a)) .a ?_
  refine RZ (NT (SQ (SQ (RG ?_))))
  refine RR [5, 5, 5, 5] (.d .a) (.i 8 (.agg #[.slice c.sa c.strs.length c.sc, .slice c.ha c.shapes.length c.hc, .slice c.ua c.units.length c.uc, .int .i64 c.main]) .a) .a ?_
  refine RCG (dst := some 9) .a (hR) (GV (GV (GV (GV (GV (GI []) 4 view_self) 3 view_ro) 2 view_self) 1 view_ro) 0 view_ro) ?_
  rintro v _ ⟨rfl, rfl⟩
  cases hb : rightC c.p with
  | false =>
    refine RR [] .z (.i 10 (.bool true) (.d (.d (.k .a)))) .a ?_
    refine RZ (NT (CT (SQ (RG ?_))))
    refine RR [] .z (.i 5 (.int .i64 2) (.d (.d (.k .a)))) .a ?_
    refine RZ (NT (RE (TR ?_)))
    refine NE [] .z .a [] (.tuple #[.slice none 0 0, .int .i64 2]) ?_
    rw [if_pos rfl]
    exact ⟨rfl, rfl⟩
  | true =>
  refine RR [] .z (.i 10 (.bool false) (.d (.d (.k .a)))) .a ?_
  refine RZ (NT (CF (SK (NT (SQ (SQ (RG ?_)))))))
  refine RR [5] (.d (.d (.d (.d .a)))) (.i 14 (.int .i64 (↑c.units.length : Int)) (.i 11 (.int .i64 n) (.d (.k .a)))) .a ?_
  refine RC (dst := some 15) [] .a (rupto_spec n c.units.length) ?_
  rintro v _ ⟨rfl, rfl⟩
  cases hn : uptoB n c.units.length with
  | false =>
    refine RR [] .z (.i 16 (.bool true) (.d (.d (.d (.k .a))))) .a ?_
    refine RZ (NT (CT (SQ (RG ?_))))
    refine RR [] .z (.i 5 (.int .i64 10) (.d (.d (.k .a)))) .a ?_
    refine RZ (NT (RE (TR ?_)))
    refine NE [] .z .a [] (.tuple #[.slice none 0 0, .int .i64 10]) ?_
    rw [if_neg (by decide), if_pos rfl]
    exact ⟨rfl, rfl⟩
  | true =>
  obtain ⟨hn0, hn1⟩ := (uptoB_iff _ _).1 hn
  obtain ⟨k, rfl⟩ := Int.eq_ofNat_of_zero_le hn0
  have hk : k < c.units.length := by omega
  obtain ⟨hform, hfine⟩ := right_form hb
  have hU := form_units hform _ (un_in hk)
  have hF := hfine _ (un_in hk)
  have hlen : (htsL (gr c.p c.units[k].p)).length = c.units[k].ins.length := htsL_len c.p c.units[k].p
  have hun := rheights_spec c hu1 hh1 (fun s hs => (hh2 s hs).2.1) (form_params hform) c.units[k] hU
  rw [hCo, show unC c.units[k] = [.string (mkS c.units[k].name), .int .i64 c.units[k].params, .int .i64 c.units[k].slots, .int .i64 c.units[k].stack, .bool c.units[k].result, .slice c.units[k].ia c.units[k].ins.length c.units[k].ic, .slice c.units[k].va c.units[k].vars.length c.units[k].vc] from rfl] at hun
  refine wpr_fact (fun w h => ro_addr h 3 rfl (by rw [uns_len]; omega)) ?_
  rintro ⟨g0, o0, hua⟩
  rw [hua] at hun ⊢
  refine RR [] .z (.i 16 (.bool false) (.d (.d (.d (.k .a))))) .a ?_
  refine RZ (NT (CF (SK (NT (SQ ?_)))))
  refine wpc_draw (by kernel_rfl) [ro (some ⟨g0, o0, none⟩) (List.flatMap unC c.units), .blk g1 26 [.slice c.sa c.strs.length c.sc, .slice c.ha c.shapes.length c.hc, .slice (some ⟨g0, o0, none⟩) c.units.length c.uc, .int .i64 c.main]] (sub_of [3, 5] (by kernel_rfl)) 12 (by kernel_rfl) ?_
  refine wpa_take true [(0, [1, 1, 1, 1]), (1, []), (2, [1]), (3, []), (4, [])] ([(22, .pointer (some ⟨g0, o0 + k * 7, none⟩)), (18, .agg #[.slice c.sa c.strs.length c.sc, .slice c.ha c.shapes.length c.hc, .slice (some ⟨g0, o0, none⟩) c.units.length c.uc, .int .i64 c.main]), (5, .int .i64 0), (4, .slice none 0 0)]) (#[true, true, true, true, true, false, false, false, false, false, false, false]) [(0 : Int) ≤ (↑k : Int) ∧ (↑k : Int) < (↑c.units.length : Int)] (n := 7) (by kernel_rfl) (by kernel_rfl) (by kernel_rfl) ⟨by omega, trivial⟩ ?_
  refine wpa_qld (i := 5) (n := 6) (by kernel_rfl) (by kernel_rfl) (by kernel_rfl) (t := 59) (a := ⟨g0, o0 + k * 7, none⟩) (dst := some 23) (by kernel_rfl) true 7 (by kernel_rfl) (by simp) (unC c.units[k]) rfl (fun w h => ld_roL h 0 rfl (k * 7) (uns_at hk)) ?_
  refine wpa_ent (ent_copy 4 (ro c.units[k].ia (c.units[k].ins.flatMap insC)) rfl (fun h => h) (view_in (unRo_in1 hk) view_ro)) ?_
  refine AC (dst := some 24) 5 6 .a (hun) (GV (GV (GV (GI []) 0 view_ro) 2 view_ro) 4 view_ro) [4, 6] ?_
  intro v hp' hv
  rw [if_pos hF] at hv
  obtain ⟨a5, c5, rfl, rfl⟩ := hv
  refine TK 0 [(7, []), (8, []), (9, []), (10, []), (11, [])] (.i 6 (.slice a5 c.units[k].ins.length c5) (.d (.d (.d (.d (.k .a)))))) (#[true, true, true, true, true, true, true, true, true, true, true, true]) ?_
  refine wpa_done 0 (by kernel_rfl) ?_
  refine NT (SQ (RG ?_))
  refine RR [] .z (.d (.k (.i 4 (.slice a5 c.units[k].ins.length c5) .z))) .a ?_
  refine RZ (NT (RE ?_))
  refine NE [0] (.k .z) (.d (.k .a)) [] (.tuple #[.slice a5 c.units[k].ins.length c5, .int .i64 0]) ?_
  rw [if_neg (by decide), if_neg (by decide)]
  exact ⟨k, hk, rfl, a5, c5, by rw [hlen], by rw [hlen]⟩
end Go.Proofs.YtgcfomhlgipllaaGreatDoor
namespace Go.Proofs.YtgcfomhlgipllaaGreatDoor
open Go Go.Sx
theorem itoa_nat (m : Nat) : Lib.itoa (m : Int) = Lib.decDigits m := by
  unfold Lib.itoa
  rw [if_neg (by omega), Int.toNat_natCast]
set_option maxHeartbeats 16000000 in
theorem rList_spec (c : CoV) (hc : c.ok) : Does Tryz.prog 24 [.agg (coC c).toArray] (coHp c)
    (fun r hp' => if rightC c.p = true then ∃ a' c', r = .tuple #[.slice a' (listC c.p).length c', .int .i64 0] ∧ hp' = [row 9 1 a' (listC c.p).length c' (strsC (listC c.p))] else r = .tuple #[.slice none 0 0, .int .i64 2] ∧ hp' = []) := by
  have hR := rright_spec c hc
  obtain ⟨hs1, hs2, hh1, hh2, hu1, hu2, hm0, hm1⟩ := id hc
  have hCo : coC c = [.slice c.sa c.strs.length c.sc, .slice c.ha c.shapes.length c.hc, .slice c.ua c.units.length c.uc, .int .i64 c.main] := rfl
  rw [hCo] at hR ⊢
  unfold coHp at hR ⊢
  refine fn_enter Tryz.func24 rfl 71 rfl fun w0 h0 => ?_
  refine SQ (RG ?_)
  refine RP [] (.d .a) 1 .z .a 26 [.slice c.sa c.strs.length c.sc, .slice c.ha c.shapes.length c.hc, .slice c.ua c.units.length c.uc, .int .i64 c.main] fun g1 => ?_
  refine RR [] .z (.i 3 (.int .i64 0) (.i 2 (.slice none 0 0) .a)) .a ?_
  refine RZ (NT (SQ (SQ (RG ?_))))
  refine RR [5, 5, 5, 5] (.d .a) (.i 9 (.agg #[.slice c.sa c.strs.length c.sc, .slice c.ha c.shapes.length c.hc, .slice c.ua c.units.length c.uc, .int .i64 c.main]) .a) .a ?_
  refine RCG (dst := some 10) .a (hR) (GV (GV (GV (GV (GV (GI []) 4 view_self) 3 view_ro) 2 view_self) 1 view_ro) 0 view_ro) ?_
  rintro r _ ⟨rfl, rfl⟩
  cases hb : rightC c.p with
  | false =>
    refine RR [] .z (.i 11 (.bool true) (.d (.d (.k .a)))) .a ?_
    refine RZ (NT (CT (SQ (RG ?_))))
    refine RR [] .z (.i 3 (.int .i64 2) (.d (.d (.k .a)))) .a ?_
    refine RZ (NT (RE (TR ?_)))
    refine NE [] .z .a [] (.tuple #[.slice none 0 0, .int .i64 2]) ?_
    rw [if_neg (by decide)]
    exact ⟨rfl, rfl⟩
  | true =>
  obtain ⟨hl1, hl2⟩ := right_lens hb
  have hlens : ∀ i, (((c.units.map UnV.p).take i).flatMap listU).length ≤ 131104 := fun i => listL_len _ (by rw [List.length_take, List.length_map]; omega) (fun u hu => by
    obtain ⟨y, hy, rfl⟩ := List.mem_map.1 (List.mem_of_mem_take hu)
    exact (hl2 y hy).1)
  refine RR [] .z (.i 11 (.bool false) (.d (.d (.k .a)))) .a ?_
  refine RZ (NT (CF (SK (NT (SQ (RG ?_))))))
  refine RR [] .z (.i 4 (.slice none 0 0) (.d (.k .a))) .a ?_
  refine RZ (NT (SQ (SQ (RG ?_))))
  refine RR [] .z (.i 5 (.int .i64 0) .a) .a ?_
  refine RZ (NT (BK ?_))
  refine wpc_loop (X := {x : Nat × Option Addr × Nat // x.1 ≤ c.units.length}) (fun x => St.mk [(5, .int .i64 (x.1.1 : Int)), (4, .slice x.1.2.1 (((c.units.map UnV.p).take x.1.1).flatMap listU).length x.1.2.2), (3, .int .i64 0), (2, .slice none 0 0), (1, .pointer (some ⟨g1, 0, none⟩))]
    [row 9 1 x.1.2.1 (((c.units.map UnV.p).take x.1.1).flatMap listU).length x.1.2.2 (strsC (((c.units.map UnV.p).take x.1.1).flatMap listU)), ro c.ua (c.units.flatMap unC), gUn c.units, .blk g1 26 [.slice c.sa c.strs.length c.sc, .slice c.ha c.shapes.length c.hc, .slice c.ua c.units.length c.uc, .int .i64 c.main]]) (fun x => c.units.length - x.1.1) ⟨(0, none, 0), Nat.zero_le _⟩ (Ent.trans (ent_nil 9 1) (Ent.trans (ent_hp [0, 3, 3, 3] rfl) (ent_fr (by kernel_rfl)))) ?_
  rintro ⟨⟨i, a1, c1⟩, hi⟩
  dsimp only at hi ⊢
  by_cases hlt : i < c.units.length
  · obtain ⟨z1, z2, z3⟩ := hl2 _ (List.getElem_mem hlt)
    obtain ⟨-, -, -, -, -, -, x7, -⟩ := hu2 _ (List.getElem_mem hlt)
    have hlen := hlens i
    have hlen2 := hlens (i + 1)
    have hTk := listU_take hlt
    obtain ⟨O, hO⟩ : ∃ O, O = ((c.units.map UnV.p).take i).flatMap listU := ⟨_, rfl⟩
    rw [← hO] at hlen hTk ⊢
    refine wpc_fact (fun w h => ro_addr h 1 rfl (by rw [uns_len]; omega)) ?_
    rintro ⟨g0, o0, hua⟩
    rw [hua]
    have hFn : (mkS ([102, 110, 32] ++ c.units[i].name)).size ≤ 23 := by rw [mkS_size, List.length_append]; simp only [List.length_cons, List.length_nil]; omega
    refine SQ (SQ (RG ?_))
    refine RR [3] .z (.i 16 (.bool (decide ((↑i : Int) < (↑c.units.length : Int)))) .a) .a ?_
    refine RZ (NT ?_)
    refine SC 16 (decide ((↑i : Int) < (↑c.units.length : Int))) true (decide_eq_true (by omega)) ?_
    refine CT (SK (NT (SQ (BK (SQ (RG ?_))))))
    refine RV true [3] (.d (.d (.d (.d (.d (.d .a)))))) (.i 24 (.pointer (some ⟨g0, o0 + i * 7, none⟩)) (.i 19 (.slice a1 O.length c1) (.d (.d (.k .a))))) .a [(0 : Int) ≤ (↑i : Int) ∧ (↑i : Int) < (↑c.units.length : Int)] ⟨by omega, trivial⟩ ?_
    refine wpr_eq (ld (t := 9) (a := ⟨g0, o0 + i * 7, none⟩) (dst := some 25) (by kernel_rfl) false 1 (by kernel_rfl) (by simp) [.string (mkS c.units[i].name)] rfl (fun w h => ld_ro h 1 rfl (i * 7) (uns_fld hlt 0 1 (by decide)))) ?_
    refine wpr_new (l₂ := [9, 10]) true [7, 8] [] (fun g2 => [(27, .slice (some ⟨g2, 0, none⟩) 1 1), (19, .slice a1 O.length c1), (5, .int .i64 (↑i : Int)), (4, .slice a1 O.length c1), (3, .int .i64 0), (2, .slice none 0 0), (1, .pointer (some ⟨g1, 0, none⟩))]) (fun g2 => ([row 9 1 a1 O.length c1 (strsC O), ro (some ⟨g0, o0, none⟩) (List.flatMap unC c.units), gUn c.units, .blk g1 26 [.slice c.sa c.strs.length c.sc, .slice c.ha c.shapes.length c.hc, .slice (some ⟨g0, o0, none⟩) c.units.length c.uc, .int .i64 c.main], .blk g2 9 [.string (mkS ([102, 110, 32] ++ c.units[i].name))]])) (fun g2 => ([(ByteArray.mk #[(102 : UInt8), (110 : UInt8), (32 : UInt8)]).size + List.length c.units[i].name ≤ (9223372036854775807 : Nat)])) (fun g2 => by kernel_rfl) (fun g2 => by kernel_rfl) (fun g2 => ⟨by simp only [List.length_append, List.length_cons, List.length_nil, show ∀ l : List UInt8, (ByteArray.mk l.toArray).size = l.length from fun _ => rfl]; omega, trivial⟩) fun g2 => ?_
    obtain ⟨FN, hFN⟩ : ∃ F, F = [102, 110, 32] ++ c.units[i].name := ⟨_, rfl⟩
    rw [← hFN]
    refine wpr_ent (ent_turn 4 (ro (some ⟨g2, 0, none⟩) [.string (mkS FN)]) rfl (turn_rblk (str1w FN)) rfl) ?_
    refine wpr_app (a := a1) (n := O.length) (cap := c1) (x := (.slice (some ⟨g2, 0, none⟩) 1 1)) (t := 22) (xt := 22) (dst := some 28) (by kernel_rfl) (e := 9) (sz := 1) (bytes := 16) (by kernel_rfl) 0 (xs := (strsC O)) (by kernel_rfl) (m := 1) (news := [.string (mkS FN)]) (fun w h => src_ro h 4 rfl rfl (fun e => by cases e)) (by unfold maxLen; omega) (by omega) ?_
    intro a2 c2 hn2
    rw [strs_app, show O.length + 1 = (O ++ [FN]).length by simp]
    refine RR [] .z (.i 4 (.slice a2 (O ++ [FN]).length c2) (.d (.d (.d (.k (.d (.k .a))))))) .a ?_
    refine RZ (NT (SQ (RG ?_)))
    refine RR [] .z (.i 6 (.int .i64 0) .a) .a ?_
    refine RZ (NT (BK ?_))
    refine wpc_ent (ent_copy 2 (ro c.units[i].ia (c.units[i].ins.flatMap insC)) rfl (fun h => h) (view_in (unRo_in1 hlt) view_ro)) ?_
    obtain ⟨LL, hLL⟩ : ∃ f : Nat → List Tx, f = fun m => (O ++ [FN]) ++ (List.range m).map (fun k => lineI k (c.units[i].ins.getD k (0, 0))) := ⟨_, rfl⟩
    have hLl : ∀ m, (LL m).length = O.length + 1 + m := fun m => by rw [hLL]; simp only [List.length_append, List.length_map, List.length_range, List.length_singleton]
    have hL0 : O ++ [FN] = LL 0 := by rw [hLL]; simp
    have hLs : ∀ m, LL (m + 1) = LL m ++ [lineI m (c.units[i].ins.getD m (0, 0))] := fun m => by rw [hLL]; simp only [List.range_succ, List.map_append, List.map_cons, List.map_nil, List.append_assoc]
    rw [hL0]
    refine wpc_loop (X := {x : Nat × Option Addr × Nat // x.1 ≤ c.units[i].ins.length}) (fun x => St.mk [(6, .int .i64 (x.1.1 : Int)), (5, .int .i64 (i : Int)), (4, .slice x.1.2.1 (LL x.1.1).length x.1.2.2), (3, .int .i64 0), (2, .slice none 0 0), (1, .pointer (some ⟨g1, 0, none⟩))]
      [row 9 1 x.1.2.1 (LL x.1.1).length x.1.2.2 (strsC (LL x.1.1)), ro c.units[i].ia (c.units[i].ins.flatMap insC), ro (some ⟨g0, o0, none⟩) (c.units.flatMap unC), gUn c.units, .blk g1 26 [.slice c.sa c.strs.length c.sc, .slice c.ha c.shapes.length c.hc, .slice (some ⟨g0, o0, none⟩) c.units.length c.uc, .int .i64 c.main]]) (fun x => c.units[i].ins.length - x.1.1) ⟨(0, a2, c2), Nat.zero_le _⟩ (Ent.trans (ent_hp [1, 0, 0, 0, 0] rfl) (ent_fr (by kernel_rfl))) ?_
    rintro ⟨⟨m, a3, c3⟩, hm⟩
    dsimp only at hm ⊢
    have hLm := hLl m
    refine SQ (SQ (RG ?_))
    refine RV true [4] (.d (.d (.d (.d (.d (.d .a)))))) (.i 34 (.pointer (some ⟨g0, o0 + i * 7 + 5, none⟩)) (.i 29 (.int .i64 (↑m : Int)) .a)) .a [(0 : Int) ≤ (↑i : Int) ∧ (↑i : Int) < (↑c.units.length : Int)] ⟨by omega, trivial⟩ ?_
    refine wpr_eq (ld (t := 56) (a := ⟨g0, o0 + i * 7 + 5, none⟩) (dst := some 35) (by kernel_rfl) false 1 (by kernel_rfl) (by simp) [.slice c.units[i].ia c.units[i].ins.length c.units[i].ic] rfl (fun w h => ld_ro h 2 rfl (i * 7 + 5) (uns_fld hlt 5 1 (by decide)))) ?_
    by_cases hmt : m < c.units[i].ins.length
    · obtain ⟨⟨y1, y2⟩, y3⟩ := x7 _ (List.getElem_mem hmt)
      obtain ⟨w1, w2⟩ := z3 _ (List.getElem_mem hmt)
      have hgd : c.units[i].ins.getD m (0, 0) = c.units[i].ins[m] := by rw [List.getD_eq_getElem?_getD, List.getElem?_eq_getElem hmt]; rfl
      have hLs2 := hLs m
      rw [hgd] at hLs2
      obtain ⟨⟨op, ag⟩, hop⟩ : ∃ x, x = c.units[i].ins[m] := ⟨_, rfl⟩
      rw [← hop] at y1 y2 y3 w1 w2 hLs2
      dsimp only at y1 y2 y3 w1 w2
      have hop2 : ((c.units[i].ins.flatMap insC).drop (m * 2)).take 2 = insC (op, ag) := by rw [ins_at hmt, hop]
      have hki := itoa_l20 (n := (m : Int)) ⟨by omega, by omega⟩
      have hai := itoa_l20 y3
      have hnl := opName_len op
      have hrn := rname_spec op
      obtain ⟨NM, hNM⟩ : ∃ N, N = opName op := ⟨_, rfl⟩
      obtain ⟨KI, hKI⟩ : ∃ N, N = Lib.itoa (m : Int) := ⟨_, rfl⟩
      obtain ⟨AI, hAI⟩ : ∃ N, N = Lib.itoa ag := ⟨_, rfl⟩
      rw [← hNM] at hnl hrn
      rw [← hKI] at hki
      rw [← hAI] at hai
      have hcI := rDigits_spec m (by omega)
      have hcA := rDigits6_spec ag y3.1 y3.2
      rw [← itoa_nat, ← hKI] at hcI
      rw [← hAI] at hcA
      refine wpr_fact (fun w h => ro_addr h 1 rfl (by rw [ins_len]; omega)) ?_
      rintro ⟨g5, o5, hia⟩
      rw [hia]
      refine RR [] .z (.i 37 (.bool (decide ((↑m : Int) < (↑c.units[i].ins.length : Int)))) (.d (.d (.d (.k .a))))) .a ?_
      refine RZ (NT ?_)
      refine SC 37 (decide ((↑m : Int) < (↑c.units[i].ins.length : Int))) true (decide_eq_true (by omega)) ?_
      refine CT (SK (NT (SQ (BK (SQ (RG ?_))))))
      refine RV true [4] (.d (.d (.d (.d (.d .a))))) (.i 44 (.pointer (some ⟨g0, o0 + i * 7 + 5, none⟩)) (.d (.d (.k .a)))) .a [(0 : Int) ≤ (↑i : Int) ∧ (↑i : Int) < (↑c.units.length : Int)] ⟨by omega, trivial⟩ ?_
      refine wpr_eq (ld (t := 56) (a := ⟨g0, o0 + i * 7 + 5, none⟩) (dst := some 45) (by kernel_rfl) false 1 (by kernel_rfl) (by simp) [.slice (some ⟨g5, o5, none⟩) c.units[i].ins.length c.units[i].ic] rfl (fun w h => ld_ro h 2 rfl (i * 7 + 5) (by rw [← hia]; exact uns_fld hlt 5 1 (by decide)))) ?_
      refine RV true [] (.d (.d .a)) (.i 47 (.pointer (some ⟨g5, o5 + m * 2, none⟩)) (.d (.d (.k .a)))) .a [(0 : Int) ≤ (↑m : Int) ∧ (↑m : Int) < (↑c.units[i].ins.length : Int)] ⟨by omega, trivial⟩ ?_
      refine wpr_eq (ld (t := 62) (a := ⟨g5, o5 + m * 2, none⟩) (dst := some 48) (by kernel_rfl) true 2 (by kernel_rfl) (by simp) (insC (op, ag)) rfl (fun w h => ld_ro h 1 rfl (m * 2) hop2)) ?_
      refine RP [] (.d .a) 7 (.i 48 (.agg #[.int .i64 op, .int .i64 ag]) (.d (.d (.k .a)))) .a 62 [.int .i64 0, .int .i64 0] fun g3 => ?_
      refine RR [5, 5] .z (.k (.d (.k .a))) (.k (.k (.k (.k (.k (.u (.i (.int .i64 op) (.i (.int .i64 ag) .z)) .a)))))) ?_
      refine RZ (NT (SQ ?_))
      refine wpc_draw (by kernel_rfl) [.blk g3 62 [.int .i64 op, .int .i64 ag]] (sub_of [5] (by kernel_rfl)) 8 (by kernel_rfl) ?_
      refine TK 5 [(0, []), (3, []), (4, [0])] (.i 53 (.int .i64 op) (.i 49 (.int .i64 (↑m : Int)) .a)) (#[true, false, false, true, true, false, false, false]) ?_
      refine AC (dst := some 50) 4 1 .a (hcI) (GI []) [5] ?_
      rintro v _ ⟨rfl, rfl⟩
      refine wpa_take true [(2, [])] ([(51, .string (mkS (KI ++ [32]))), (53, .int .i64 op), (7, .pointer (some ⟨g3, 0, none⟩)), (6, .int .i64 (↑m : Int)), (5, .int .i64 (↑i : Int)), (4, .slice a3 (LL m).length c3), (3, .int .i64 0), (2, .slice none 0 0), (1, .pointer (some ⟨g1, 0, none⟩))]) (#[true, true, true, true, true, false, false, false]) ([KI.length + (ByteArray.mk #[(32 : UInt8)]).size ≤ (9223372036854775807 : Nat)]) (n := 3) (by kernel_rfl) (by kernel_rfl) (by kernel_rfl) ⟨by simp only [List.length_append, List.length_cons, List.length_nil, show ∀ l : List UInt8, (ByteArray.mk l.toArray).size = l.length from fun _ => rfl]; omega, trivial⟩ ?_
      refine AC (dst := some 54) 2 5 .a (hrn) (GI []) [5] ?_
      rintro v _ ⟨rfl, rfl⟩
      refine wpa_take true [(6, []), (7, [])] ([(8, .string (mkS (KI ++ [32] ++ NM))), (7, .pointer (some ⟨g3, 0, none⟩)), (6, .int .i64 (↑m : Int)), (5, .int .i64 (↑i : Int)), (4, .slice a3 (LL m).length c3), (3, .int .i64 0), (2, .slice none 0 0), (1, .pointer (some ⟨g1, 0, none⟩))]) (#[true, true, true, true, true, true, true, true]) ([(KI ++ [(32 : UInt8)]).length + List.length NM ≤ (9223372036854775807 : Nat)]) (n := 0) (by kernel_rfl) (by kernel_rfl) (by kernel_rfl) ⟨by simp only [List.length_append, List.length_cons, List.length_nil, show ∀ l : List UInt8, (ByteArray.mk l.toArray).size = l.length from fun _ => rfl]; omega, trivial⟩ ?_
      refine wpa_done 0 (by kernel_rfl) ?_
      refine NT (SQ (SQ (RG ?_)))
      refine RR [5] (.d (.d .a)) (.i 57 (.int .i64 op) .a) .a ?_
      refine RC (dst := some 58) [] .a (rbare_spec op) ?_
      rintro v _ ⟨rfl, rfl⟩
      obtain ⟨LN, hLN⟩ : ∃ N, N = lineI m (op, ag) := ⟨_, rfl⟩
      have hLt : bareB op = true → LN = KI ++ [32] ++ NM := fun h => by rw [hLN, hKI, hNM]; exact lineI_t h
      have hLf : ¬ bareB op = true → LN = KI ++ [32] ++ NM ++ [32] ++ AI := fun h => by rw [hLN, hKI, hNM, hAI, List.append_assoc (Lib.itoa ↑m ++ [32] ++ opName op)]; exact lineI_f h
      rw [← hLN] at hLs2
      refine RR [] .z (.i 59 (.bool !bareB op) (.d (.d (.k .a)))) .a ?_
      refine RZ (NT ?_)
      refine wpc_joinx (X := Unit) (fun _ => St.mk [(8, .string (mkS LN)), (6, .int .i64 (m : Int)), (5, .int .i64 (i : Int)), (4, .slice a3 (LL m).length c3), (3, .int .i64 0), (2, .slice none 0 0), (1, .pointer (some ⟨g1, 0, none⟩))]
        [row 9 1 a3 (LL m).length c3 (strsC (LL m)), ro (some ⟨g5, o5, none⟩) (c.units[i].ins.flatMap insC), ro (some ⟨g0, o0, none⟩) (c.units.flatMap unC), gUn c.units, .blk g1 26 [.slice c.sa c.strs.length c.sc, .slice c.ha c.shapes.length c.hc, .slice (some ⟨g0, o0, none⟩) c.units.length c.uc, .int .i64 c.main]]) (fun Q1 hQ1 hk => ?_) ?_
      · cases hbr : bareB op with
        | true =>
          refine CF (SK ?_)
          refine nx_ent (ent_set 8 (.string (mkS (KI ++ [32] ++ NM))) (.string (mkS LN)) (by kernel_rfl) (by rw [hLt hbr])) ?_
          exact nx_ent (ent_hp [0, 0, 0, 0, 0] rfl) (nx_ent (ent_fr (by kernel_rfl)) (hk ()))
        | false =>
          refine CT (RG ?_)
          refine RV true [5] (.d (.d (.d (.d .a)))) (.i 63 (.int .i64 ag) (.i 61 (.string (mkS (KI ++ [32] ++ NM ++ [32]))) (.d (.k (.d (.k .a)))))) .a ([(KI ++ [(32 : UInt8)] ++ NM).length + (ByteArray.mk #[(32 : UInt8)]).size ≤ (9223372036854775807 : Nat)]) ⟨by simp only [List.length_append, List.length_cons, List.length_nil, show ∀ l : List UInt8, (ByteArray.mk l.toArray).size = l.length from fun _ => rfl]; omega, trivial⟩ ?_
          refine RC (dst := some 64) [] .a (hcA) ?_
          rintro v _ ⟨rfl, rfl⟩
          refine RV true [] .z (.i 8 (.string (mkS (KI ++ [32] ++ NM ++ [32] ++ AI))) (.d (.d (.d (.d (.k .a)))))) .a ([(KI ++ [(32 : UInt8)] ++ NM ++ [(32 : UInt8)]).length + AI.length ≤ (9223372036854775807 : Nat)]) ⟨by simp only [List.length_append, List.length_cons, List.length_nil, show ∀ l : List UInt8, (ByteArray.mk l.toArray).size = l.length from fun _ => rfl]; omega, trivial⟩ ?_
          refine RZ ?_
          refine nx_ent (ent_set 8 (.string (mkS (KI ++ [32] ++ NM ++ [32] ++ AI))) (.string (mkS LN)) (by kernel_rfl) (by rw [hLf (by rw [hbr]; decide)])) ?_
          exact nx_ent (ent_hp [0, 0, 0, 0, 0] rfl) (nx_ent (ent_fr (by kernel_rfl)) (hk ()))
      · rintro ⟨⟩
        dsimp only
        refine NT (RG ?_)
        refine RN [] (.d (.d (.d .a))) 68 (fun g4 => (.slice (some ⟨g4, 0, none⟩) 1 1)) (.i 66 (.slice a3 (LL m).length c3) (.d (.k .a))) .a 9 [.string (mkS LN)] fun g4 => ?_
        refine wpr_ent (ent_turn 5 (ro (some ⟨g4, 0, none⟩) [.string (mkS LN)]) rfl (turn_rblk (str1w LN)) rfl) ?_
        refine wpr_app (a := a3) (n := ((LL m).length)) (cap := c3) (x := (.slice (some ⟨g4, 0, none⟩) 1 1)) (t := 22) (xt := 22) (dst := some 69) (by kernel_rfl) (e := 9) (sz := 1) (bytes := 16) (by kernel_rfl) 0 (xs := (strsC (LL m))) (by kernel_rfl) (m := 1) (news := [.string (mkS LN)]) (fun w h => src_ro h 5 rfl rfl (fun e => by cases e)) (by unfold maxLen; omega) (by omega) ?_
        intro a4 c4 hn4
        rw [strs_app, show (LL m).length + 1 = (LL m ++ [LN]).length by simp, ← hLs2]
        refine RR [] .z (.i 4 (.slice a4 (LL (m + 1)).length c4) (.d (.d (.d (.k (.k (.d (.k .a)))))))) .a ?_
        refine RZ (BN (NT (RG ?_)))
        refine RV true [] .z (.i 6 (.int .i64 ((↑m : Int) + 1)) (.k (.d (.k .a)))) .a ([inI64 ((↑m : Int) + (1 : Int))]) ⟨by unfold inI64; omega, trivial⟩ ?_
        refine RZ ?_
        rw [← hia]
        exact fun a' w' hS' => ⟨⟨(m + 1, a4, c4), hmt⟩, by dsimp only; omega, ent_fr (by kernel_rfl) _ _ (ent_hp [0, 0, 0, 0, 0] rfl _ _ hS')⟩
    · obtain rfl : m = c.units[i].ins.length := by omega
      refine RR [] .z (.i 37 (.bool (decide ((↑c.units[i].ins.length : Int) < (↑c.units[i].ins.length : Int)))) (.d (.d (.d (.k .a))))) .a ?_
      refine RZ (NT ?_)
      refine SC 37 (decide ((↑c.units[i].ins.length : Int) < (↑c.units[i].ins.length : Int))) false (by simp) ?_
      refine CF (EX (TE (TE (BH (BN (NT (RG ?_)))))))
      refine RV true [] .z (.i 5 (.int .i64 ((↑i : Int) + 1)) (.d (.d (.d (.d (.k .a)))))) .a ([inI64 ((↑i : Int) + (1 : Int))]) ⟨by unfold inI64; omega, trivial⟩ ?_
      refine RZ ?_
      rw [← hua, show LL c.units[i].ins.length = ((c.units.map UnV.p).take (i + 1)).flatMap listU from by rw [hLL, hTk]; dsimp only; rw [hFN, List.append_assoc]; rfl]
      exact fun a' w' hS' => ⟨⟨(i + 1, a3, c3), hlt⟩, by dsimp only; omega, ent_fr (by kernel_rfl) _ _ (ent_hp [0, 1, 1, 1] rfl _ _ hS')⟩
  · obtain rfl : i = c.units.length := by omega
    refine SQ (SQ (RG ?_))
    refine RR [3] .z (.i 16 (.bool (decide ((↑c.units.length : Int) < (↑c.units.length : Int)))) .a) .a ?_
    refine RZ (NT ?_)
    refine SC 16 (decide ((↑c.units.length : Int) < (↑c.units.length : Int))) false (by simp) ?_
    refine CF (EX (TE (TE (BH (NT (SQ (RG ?_)))))))
    refine RR [] .z (.d (.d (.d (.d (.k (.i 2 (.slice a1 (List.flatMap listU (List.take c.units.length (List.map UnV.p c.units))).length c1) .z)))))) .a ?_
    refine RZ (NT (RE ?_))
    refine NE [0] (.k .z) (.d (.k .a)) [] (.tuple #[.slice a1 (List.flatMap listU (List.take c.units.length (List.map UnV.p c.units))).length c1, .int .i64 0]) ?_
    rw [if_pos rfl, show (c.units.map UnV.p).take c.units.length = c.units.map UnV.p from List.take_of_length_le (by rw [List.length_map]; exact Nat.le_refl _)]
    exact ⟨a1, c1, rfl, rfl⟩
end Go.Proofs.YtgcfomhlgipllaaGreatDoor
namespace Go.Proofs.YtgcfomhlgipllaaGreatDoor
open Go Go.Sx
/-! What bytes are read as: the fault, the code. What is told is read as it was; what is read is told as just these bytes; what is cut off ends too early. -/
noncomputable def ldE (bs : List UInt8) : Int :=
  if endE bs (rCo bs (0, 0)).2.1 (rCo bs (0, 0)).2.2 ≠ 0 then endE bs (rCo bs (0, 0)).2.1 (rCo bs (0, 0)).2.2 else if rightC (rCo bs (0, 0)).1 then 0 else 2
def noC : CodeP := ⟨[], [], [], 0⟩
noncomputable def ldC (bs : List UInt8) : CodeP := if ldE bs = 0 then (rCo bs (0, 0)).1 else noC
theorem ldC_bad {bs : List UInt8} (h : ldE bs ≠ 0) : ldC bs = noC := by unfold ldC; rw [if_neg h]
theorem cend_all (s : List UInt8) : endE s (s.length : Nat) 0 = 0 := by
  unfold endE
  rw [if_neg (fun h => h rfl), if_neg (by omega)]
theorem code_back {p : CodeP} (hn : nCo p) (hm : rightC p = true) : ldE (encCo p) = 0 ∧ ldC (encCo p) = p := by
  have h := codec_rCo.back (encCo p) 0 p [] hn (by rw [List.drop_zero, List.append_nil])
  rw [Nat.zero_add] at h
  have hE : ldE (encCo p) = 0 := by
    unfold ldE
    rw [h]
    dsimp only
    rw [cend_all, if_neg (fun h => h rfl), hm]
    rfl
  refine ⟨hE, ?_⟩
  unfold ldC
  rw [if_pos hE, h]
theorem code_pos (p : CodeP) (hn : nCo p) : 0 < (encCo p).length := by
  have h := codec_rCo.back (encCo p) 0 p [] hn (by rw [List.drop_zero, List.append_nil])
  have hg := codec_rCo.goes (encCo p) (0, 0) (Nat.zero_le _)
  rw [h] at hg
  have := hg.2.2.2 rfl rfl
  dsimp only at this
  omega
theorem rTx_ok (s : List UInt8) (p : At2) : okText (rTx s p).1 := by
  have := rT_len s 255 (by omega) p
  unfold okText rTx
  omega
theorem rIn_ok (s : List UInt8) (p : At2) : InP.ok (rIn s p).1 := ⟨rI_rng s p, rI_rng s _⟩
theorem rVr_ok (s : List UInt8) (p : At2) : VarP.ok (rVr s p).1 := ⟨rTx_ok s p, rI_rng s _, rI_rng s _, rI_rng s _⟩
def ShPok (x : ShP) : Prop := okText x.1 ∧ x.2.length ≤ 1048576 ∧ ∀ t ∈ x.2, okText t
def UnPok (x : UnitP) : Prop := okText x.name ∧ i64r x.params ∧ i64r x.slots ∧ i64r x.stack ∧ x.ins.length ≤ 1048576 ∧ x.vars.length ≤ 1048576 ∧ (∀ y ∈ x.ins, InP.ok y) ∧ ∀ v ∈ x.vars, v.ok
theorem rows_lenk {α : Type} (s : List UInt8) (f : At2 → α × At2) (p : At2) : (rRows s f p).1.length ≤ 1048576 := by
  have h1 := rC_rng s p
  have h2 := many_lenk f (rC s 1048576 p).1.toNat (rC s 1048576 p).2
  unfold rRows
  omega
theorem rSh_ok (s : List UInt8) (p : At2) : ShPok (rSh s p).1 := ⟨rTx_ok s p, rows_lenk _ _ _, rows_all (rTx_ok s) _⟩
theorem rU_ok (s : List UInt8) (p : At2) : UnPok (rU s p).1 := ⟨rTx_ok s p, rI_rng s _, rI_rng s _, rI_rng s _, rows_lenk _ _ _, rows_lenk _ _ _, rows_all (rIn_ok s) _, rows_all (rVr_ok s) _⟩
theorem co_ok {c : CoV} {s : List UInt8} {p : At2} (h : c.p = (rCo s p).1) : c.ok := by
  have h1 : c.strs = (rCo s p).1.strs := by rw [← h]; rfl
  have h2 : c.shapes.map ShV.p = (rCo s p).1.shapes := by rw [← h]; rfl
  have h3 : c.units.map UnV.p = (rCo s p).1.units := by rw [← h]; rfl
  have h4 : c.main = (rCo s p).1.main := by rw [← h]; rfl
  have l1 : (rCo s p).1.strs.length ≤ 1048576 := rows_lenk _ _ _
  have l2 : (rCo s p).1.shapes.length ≤ 1048576 := rows_lenk _ _ _
  have l3 : (rCo s p).1.units.length ≤ 1048576 := rows_lenk _ _ _
  have a1 : ∀ t ∈ (rCo s p).1.strs, okText t := rows_all (rTx_ok s) _
  have a2 : ∀ x ∈ (rCo s p).1.shapes, ShPok x := rows_all (rSh_ok s) _
  have a3 : ∀ x ∈ (rCo s p).1.units, UnPok x := rows_all (rU_ok s) _
  rw [← h2, List.length_map] at l2
  rw [← h3, List.length_map] at l3
  rw [← h1] at l1 a1
  rw [← h2] at a2
  rw [← h3] at a3
  exact ⟨l1, a1, l2, fun x hx => a2 x.p (List.mem_map.2 ⟨x, hx, rfl⟩), l3, fun x hx => a3 x.p (List.mem_map.2 ⟨x, hx, rfl⟩), by rw [h4]; exact rI_rng s _⟩
end Go.Proofs.YtgcfomhlgipllaaGreatDoor
namespace Go.Proofs.YtgcfomhlgipllaaGreatDoor
open Go Go.Sx
def shRows (x : ShV) : Hp := [row 9 1 x.fa x.fields.length x.fc (strsC x.fields)]
def unRows (x : UnV) : Hp := [row 62 2 x.ia x.ins.length x.ic (x.ins.flatMap insC), row 116 4 x.va x.vars.length x.vc (x.vars.flatMap varC)]
theorem ins1 (x : InP) : Sx.One (insC x) := by
  intro v hv
  simp only [insC, List.mem_cons, List.not_mem_nil, or_false] at hv
  rcases hv with rfl | rfl <;> rfl
theorem var1 (x : VarP) : Sx.One (varC x) := by
  intro v hv
  simp only [varC, List.mem_cons, List.not_mem_nil, or_false] at hv
  rcases hv with rfl | rfl | rfl | rfl <;> rfl
theorem sh1 (x : ShV) : Sx.One (shC x) := by
  intro v hv
  simp only [shC, List.mem_cons, List.not_mem_nil, or_false] at hv
  rcases hv with rfl | rfl <;> rfl
theorem un1 (u : UnV) : Sx.One (unC u) := unC_one u
theorem str1 (t : Tx) : Sx.One [.string (mkS t)] := by
  intro v hv
  rw [List.mem_singleton.1 hv]; rfl
theorem goes_rTx (s : List UInt8) : Goes s (rTx s) := codec_rTx.goes s
theorem goes_rIn (s : List UInt8) : Goes s (rIn s) := codec_rIn.goes s
theorem goes_rVr (s : List UInt8) : Goes s (rVr s) := codec_rVr.goes s
theorem goes_rSh (s : List UInt8) : Goes s (rSh s) := codec_rSh.goes s
theorem goes_rU (s : List UInt8) : Goes s (rU s) := codec_rU.goes s
theorem ctext_spec (r A : Nat) (s : List UInt8) (e : Int) (hA : A ≤ s.length) (hl : s.length ≤ 1099511627776) :
    Does Tryz.prog 59 [.pointer (some ⟨r, 0, none⟩)] [rdr r s A e] (fun v hp' => v = .string (mkS (rTx s (A, e)).1) ∧ hp' = [rdr r s (rTx s (A, e)).2.1 (rTx s (A, e)).2.2]) := by
  refine fn_enter Tryz.func59 rfl 5 rfl fun w0 h0 => ?_
  refine SQ (RG ?_)
  refine RR [] .z (.i 2 (.string ⟨#[]⟩) .a) (.i (.blk r 184 [.bool true, .string (mkS s), .int .i64 (↑A : Int), .int .i64 e]) .z) ?_
  refine RZ (NT (SQ (RG ?_)))
  refine RR [] (.d .a) (.i 3 (.pointer (some ⟨r, 0, none⟩)) (.k .z)) .a ?_
  refine RCA (dst := some 4) (Text_spec r A s e 255 hA hl) ?_
  rintro v _ ⟨rfl, rfl⟩
  obtain ⟨⟨t, A1, e1⟩, hx⟩ : ∃ x, x = rTx s (A, e) := ⟨_, rfl⟩
  have hx2 : rd [] A e (txW (s.drop A) 255) = (t, A1, e1) := hx.symm
  rw [← hx, hx2]
  dsimp only
  refine RR [] .z (.i 2 (.string (mkS t)) .z) (.i (.blk r 184 [.bool true, .string (mkS s), .int .i64 (↑A1 : Int), .int .i64 e1]) .z) ?_
  refine RZ (NT (RE ?_))
  refine NE [0] .a .z [] (.string (mkS t)) ?_
  exact ⟨rfl, rfl⟩
theorem rowT_spec (r A : Nat) (s : List UInt8) (e : Int) (hA : A ≤ s.length) (hl : s.length ≤ 1099511627776) :
    Does Tryz.prog 58 [.pointer (some ⟨r, 0, none⟩), .func (.func 59) #[] #[]] [rdr r s A e]
      (fun v hp' => ∃ a c, v = .slice a (rRows s (rTx s) (A, e)).1.length c ∧ hp' = [row 9 1 a (rRows s (rTx s) (A, e)).1.length c (strsC (rRows s (rTx s) (A, e)).1), rdr r s (rRows s (rTx s) (A, e)).2.1 (rRows s (rTx s) (A, e)).2.2]) := by
  obtain ⟨g1, g2, -, -⟩ := goes_rC s 1048576 (A, e) hA
  unfold rRows
  refine fn_enter Tryz.func58 rfl 25 rfl fun w0 h0 => ?_
  refine SQ (RG ?_)
  refine RR [] .z (.i 4 (.slice none 0 0) .a) (.i (.blk r 184 [.bool true, .string (mkS s), .int .i64 (↑A : Int), .int .i64 e]) .z) ?_
  refine RZ (NT (SQ (RG ?_)))
  refine RR [] .z (.i 5 (.slice none 0 0) .a) .a ?_
  refine RZ (NT (SQ (SQ (RG ?_))))
  refine RR [] (.d .a) (.i 7 (.pointer (some ⟨r, 0, none⟩)) .a) .a ?_
  refine RCA (dst := some 8) (RdCount_spec r A s e 1048576 hA hl) ?_
  rintro v _ ⟨rfl, rfl⟩
  obtain ⟨⟨k, A1, e1⟩, hx⟩ : ∃ x, x = rC s 1048576 (A, e) := ⟨_, rfl⟩
  have hx2 : rd 0 A e (cnt (s.drop A) 1048576) = (k, A1, e1) := hx.symm
  rw [← hx] at g1 g2 ⊢
  rw [hx2]
  dsimp only at g1 g2 ⊢
  have hk := rC_rng s (A, e)
  rw [← hx] at hk
  dsimp only at hk
  obtain ⟨n, rfl⟩ := Int.eq_ofNat_of_zero_le hk.1
  obtain ⟨⟨L, A9, e9⟩, ht⟩ : ∃ x, x = rMany (rTx s) (n : Int).toNat (A1, e1) := ⟨_, rfl⟩
  rw [← ht]
  rw [Int.toNat_natCast] at ht
  have hln := many_len (goes_rTx s) n (A1, e1) g2
  rw [← ht] at hln
  dsimp only at hln ⊢
  refine RR [] .z (.i 6 (.int .i64 (↑n : Int)) (.d (.d (.k .a)))) (.i (.blk r 184 [.bool true, .string (mkS s), .int .i64 (↑A1 : Int), .int .i64 e1]) .z) ?_
  refine RZ (NT (BK ?_))
  refine wpc_loop (X := {x : Nat × Option Addr × Nat × List Tx × Nat × Int // x.1 ≤ n ∧ x.2.2.2.2.1 ≤ s.length ∧ L = x.2.2.2.1 ++ (rMany (rTx s) x.1 x.2.2.2.2).1 ∧ (A9, e9) = (rMany (rTx s) x.1 x.2.2.2.2).2}) (fun x => St.mk [(6, .int .i64 (x.1.1 : Int)), (5, .slice x.1.2.1 x.1.2.2.2.1.length x.1.2.2.1), (4, .slice none 0 0), (0, .pointer (some ⟨r, 0, none⟩)), (1, .func (.func 59) #[] #[])]
    [row 9 1 x.1.2.1 x.1.2.2.2.1.length x.1.2.2.1 (strsC x.1.2.2.2.1), rdr r s x.1.2.2.2.2.1 x.1.2.2.2.2.2]) (fun x => x.1.1) ⟨(n, none, 0, [], A1, e1), Nat.le_refl _, g2, by rw [← ht]; rfl, by rw [← ht]⟩ ?_ ?_
  · exact Ent.trans (ent_nil 9 1) (ent_fr (by kernel_rfl))
  rintro ⟨⟨k, a1, c1, l1, A2, e2⟩, hkn, hA2, hL, hp⟩
  dsimp only at hkn hA2 hL hp ⊢
  have hll : l1.length ≤ 1048576 := by
    have := congrArg List.length hL
    rw [List.length_append] at this
    omega
  cases k with
  | zero =>
    rw [show rMany (rTx s) 0 (A2, e2) = ([], A2, e2) from rfl] at hL hp
    cases hp
    rw [List.append_nil] at hL
    subst hL
    refine SQ (SQ (RG ?_))
    refine RR [] .z (.i 15 (.bool false) (.i 6 (.int .i64 0) (.d (.k .a)))) (.k (.i (.blk r 184 [.bool true, .string (mkS s), .int .i64 (↑A9 : Int), .int .i64 e9]) .z)) ?_
    refine RZ (NT (CF (EX (TE (TE (BH (NT (SQ (RG ?_)))))))))
    refine RR [] .z (.i 4 (.slice a1 L.length c1) .z) .a ?_
    refine RZ (NT (RE ?_))
    refine NE [0, 0] .a .z [] (.slice a1 L.length c1) ?_
    exact ⟨a1, c1, rfl, rfl⟩
  | succ k =>
    by_cases he : e2 = 0
    · subst he
      rw [rMany_succ _ _ _ rfl] at hL hp
      have hg := goes_rTx s (A2, 0) hA2
      refine SQ (SQ (RG ?_))
      refine RR [] (.d (.d (.d .a))) (.i 11 (.bool (decide ((↑(k + (1 : Nat)) : Int) > (0 : Int)))) .a) (.k (.i (.blk r 184 [.bool true, .string (mkS s), .int .i64 (↑A2 : Int), .int .i64 0]) .z)) ?_
      refine SR 11 (decide ((↑(k + (1 : Nat)) : Int) > (0 : Int))) true (by simp) ?_
      refine RR [] (.d .a) (.i 12 (.pointer (some ⟨r, 0, none⟩)) (.k (.d (.k .a)))) .a ?_
      refine RC (dst := some 13) [1] (.k .z) (Err_spec r s A2 0) ?_
      rintro v _ ⟨rfl, rfl⟩
      refine RR [] .z (.i 15 (.bool true) (.d (.d (.d (.k .a))))) (.i (.blk r 184 [.bool true, .string (mkS s), .int .i64 (↑A2 : Int), .int .i64 0]) (.d (.k .a))) ?_
      refine RZ (NT (CT (SK (NT (SQ (BK (RG ?_)))))))
      refine RR [] (.d (.d (.d .a))) (.i 20 (.pointer (some ⟨r, 0, none⟩)) (.i 19 (Value.func (Fn.func 59) #[] #[]) (.i 18 (.slice a1 l1.length c1) (.d (.k .a))))) .a ?_
      refine wpr_callv (dst := some 21) (rest := [row 9 1 a1 l1.length c1 (strsC l1)]) (first := (#[])) (caps := (#[])) (args := [.pointer (some ⟨r, 0, none⟩)]) (f := 59) (by kernel_rfl) (by kernel_rfl) (ctext_spec r A2 s 0 hA2 hl) (give [0] (by kernel_rfl)) ?_
      rintro v _ ⟨rfl, rfl⟩
      obtain ⟨⟨v, A3, e3⟩, hv⟩ : ∃ x, x = rTx s (A2, 0) := ⟨_, rfl⟩
      rw [← hv] at hg hL hp ⊢
      dsimp only at hg hL hp ⊢
      refine RN [] (.d .a) 22 (fun g3 => (.slice (some ⟨g3, 0, none⟩) 1 1)) (.d (.d (.d (.k .a)))) (.i (.blk r 184 [.bool true, .string (mkS s), .int .i64 (↑A3 : Int), .int .i64 e3]) (.d (.k .a))) 9 [.string (mkS v)] fun g3 => ?_
      refine wpr_ent (ent_turn 2 (ro (some ⟨g3, 0, none⟩) ([.string (mkS v)])) rfl (turn_rblk (str1 _)) rfl) ?_
      refine wpr_app (a := a1) (n := l1.length) (cap := c1) (x := (.slice (some ⟨g3, 0, none⟩) 1 1)) (t := 22) (xt := 22) (dst := some 23) (by kernel_rfl) (e := 9) (sz := 1) (bytes := 16) (by kernel_rfl) 1 (xs := (strsC l1)) (by kernel_rfl) (m := 1) (news := ([.string (mkS v)])) (fun w h => src_ro h 2 rfl rfl (fun e => by cases e)) (by unfold maxLen; omega) (by omega) ?_
      intro a3 c3 hn3
      rw [show l1.length + 1 = (l1 ++ [v]).length by simp, show strsC l1 ++ [.string (mkS v)] = strsC (l1 ++ [v]) by simp [strsC]]
      refine RR [] .z (.i 5 (.slice a3 (l1 ++ [v]).length c3) (.d (.d (.d (.k (.d (.k .a))))))) .a ?_
      refine RZ (BN (NT (RG ?_)))
      refine RV true [] .z (.i 6 (.int .i64 ((↑(k + 1) : Int) - 1)) (.k (.d (.k .a)))) .a ([inI64 ((↑(k + (1 : Nat)) : Int) - (1 : Int))]) ⟨by unfold inI64; omega, trivial⟩ ?_
      refine RZ ?_
      rw [show ((k + 1 : Nat) : Int) - 1 = (k : Int) from by omega]
      exact fun a' w' hS' => ⟨⟨(k, a3, c3, l1 ++ [v], A3, e3), by dsimp only; omega, hg.2.1, by rw [hL, List.append_assoc]; rfl, hp⟩, by dsimp only; omega, ent_fr (by kernel_rfl) _ _ (ent_hp [1, 0] rfl _ _ hS')⟩
    · rw [rMany_nil _ _ _ he] at hL hp
      cases hp
      rw [List.append_nil] at hL
      subst hL
      refine SQ (SQ (RG ?_))
      refine RR [] (.d (.d (.d .a))) (.i 11 (.bool (decide ((↑(k + (1 : Nat)) : Int) > (0 : Int)))) .a) (.k (.i (.blk r 184 [.bool true, .string (mkS s), .int .i64 (↑A9 : Int), .int .i64 e9]) .z)) ?_
      refine SR 11 (decide ((↑(k + (1 : Nat)) : Int) > (0 : Int))) true (by simp) ?_
      refine RR [] (.d .a) (.i 12 (.pointer (some ⟨r, 0, none⟩)) (.k (.d (.k .a)))) .a ?_
      refine RC (dst := some 13) [1] (.k .z) (Err_spec r s A9 e9) ?_
      rintro v _ ⟨rfl, rfl⟩
      refine RR [] .z (.i 15 (.bool (e9 == (0 : Int))) (.d (.d (.d (.k .a))))) (.i (.blk r 184 [.bool true, .string (mkS s), .int .i64 (↑A9 : Int), .int .i64 e9]) (.d (.k .a))) ?_
      refine RZ (NT ?_)
      refine SC 15 (e9 == (0 : Int)) false (by simp only [bne_eq_false_iff_eq, beq_eq_false_iff_ne, ne_eq]; omega) ?_
      refine CF (EX (TE (TE (BH (NT (SQ (RG ?_)))))))
      refine RR [] .z (.i 4 (.slice a1 L.length c1) .z) .a ?_
      refine RZ (NT (RE ?_))
      refine NE [1, 0] (.i (row 9 1 a1 L.length c1 (strsC L)) (.k .z)) .z [] (.slice a1 L.length c1) ?_
      exact ⟨a1, c1, rfl, rfl⟩
theorem readSh_spec (r A : Nat) (s : List UInt8) (e : Int) (hA : A ≤ s.length) (hl : s.length ≤ 1099511627776) :
    Does Tryz.prog 61 [.pointer (some ⟨r, 0, none⟩)] [rdr r s A e] (fun v hp' => ∃ o : ShV, o.p = (rSh s (A, e)).1 ∧ v = .agg #[.string (mkS o.name), .slice o.fa o.fields.length o.fc] ∧ hp' = [rdr r s (rSh s (A, e)).2.1 (rSh s (A, e)).2.2] ++ shRows o) := by
  unfold rSh sq
  dsimp only
  refine fn_enter Tryz.func61 rfl 8 rfl fun w0 h0 => ?_
  refine SQ (RG ?_)
  refine RP [] .z 2 .a (.i (.blk r 184 [.bool true, .string (mkS s), .int .i64 (↑A : Int), .int .i64 e]) .z) 111 [.string ⟨#[]⟩, .slice none 0 0] fun g1 => ?_
  refine RZ (NT (SQ (RG ?_)))
  refine RR [] (.d .a) (.i 3 (.pointer (some ⟨r, 0, none⟩)) .a) .a ?_
  have ht := goes_rTx s (A, e) hA
  refine RC (dst := some 4) [0] (.d (.k .a)) (ctext_spec r A s e hA hl) ?_
  rintro v _ ⟨rfl, rfl⟩
  obtain ⟨⟨t, At, et⟩, hxt⟩ : ∃ y, y = rTx s (A, e) := ⟨_, rfl⟩
  rw [← hxt] at ht ⊢
  dsimp only at ht ⊢
  refine RR [] (.d .a) (.i 5 (.pointer (some ⟨r, 0, none⟩)) (.k (.d (.k .z)))) (.i (.blk r 184 [.bool true, .string (mkS s), .int .i64 (↑At : Int), .int .i64 et]) (.d (.k .a))) ?_
  refine RC (dst := some 6) [0] (.d (.k .a)) (rowT_spec r At s et ht.2.1 hl) ?_
  rintro v _ ⟨a1, c1, rfl, rfl⟩
  rw [show rRows s (rTx s) (At, et) = rTs s (At, et) from rfl]
  obtain ⟨⟨l, A2, e2⟩, hy⟩ : ∃ x, x = rTs s (At, et) := ⟨_, rfl⟩
  rw [← hy]
  dsimp only
  refine RR [2, 2] .z (.d (.d (.d (.k .a)))) (.k (.i (.blk r 184 [.bool true, .string (mkS s), .int .i64 (↑A2 : Int), .int .i64 e2]) (.i (.blk g1 111 [.string (mkS t), .slice a1 l.length c1]) .z))) ?_
  refine RZ (NT (RE ?_))
  refine NE [1, 0] (.i (.blk r 184 [.bool true, .string (mkS s), .int .i64 (↑A2 : Int), .int .i64 e2]) (.k .z)) (.d (.d (.k .a))) [2, 2] (.agg #[.string (mkS t), .slice a1 l.length c1]) ?_
  exact ⟨⟨t, a1, c1, l⟩, rfl, rfl, rfl⟩
theorem readIn_spec (r A : Nat) (s : List UInt8) (e : Int) (hA : A ≤ s.length) (hl : s.length ≤ 1099511627776) :
    Does Tryz.prog 114 [.pointer (some ⟨r, 0, none⟩)] [rdr r s A e] (fun v hp' => v = .agg (insC (rIn s (A, e)).1).toArray ∧ hp' = [rdr r s (rIn s (A, e)).2.1 (rIn s (A, e)).2.2]) := by
  unfold rIn sq
  dsimp only
  refine fn_enter Tryz.func114 rfl 8 rfl fun w0 h0 => ?_
  refine SQ (RG ?_)
  refine RP [] .z 2 .a (.i (.blk r 184 [.bool true, .string (mkS s), .int .i64 (↑A : Int), .int .i64 e]) .z) 62 [.int .i64 0, .int .i64 0] fun g1 => ?_
  refine RZ (NT (SQ (RG ?_)))
  refine RR [] (.d .a) (.i 3 (.pointer (some ⟨r, 0, none⟩)) .a) .a ?_
  have ho := goes_rI s (A, e) hA
  refine RC (dst := some 4) [0] (.d (.k .a)) (Int_spec r A s e hA hl) ?_
  rintro v _ ⟨rfl, rfl⟩
  obtain ⟨⟨o, Ao, eo⟩, hxo⟩ : ∃ y, y = rI s (A, e) := ⟨_, rfl⟩
  have hyo : rd 0 A e (num (s.drop A)) = (o, Ao, eo) := hxo.symm
  rw [← hxo] at ho ⊢
  rw [hyo]
  dsimp only at ho ⊢
  refine RR [] (.d .a) (.i 5 (.pointer (some ⟨r, 0, none⟩)) (.k (.d (.k .z)))) (.i (.blk r 184 [.bool true, .string (mkS s), .int .i64 (↑Ao : Int), .int .i64 eo]) (.d (.k .a))) ?_
  have ha := goes_rI s (Ao, eo) ho.2.1
  refine RC (dst := some 6) [0] (.d (.k .a)) (Int_spec r Ao s eo ho.2.1 hl) ?_
  rintro v _ ⟨rfl, rfl⟩
  obtain ⟨⟨a, Aa, ea⟩, hxa⟩ : ∃ y, y = rI s (Ao, eo) := ⟨_, rfl⟩
  have hya : rd 0 Ao eo (num (s.drop Ao)) = (a, Aa, ea) := hxa.symm
  rw [← hxa] at ha ⊢
  rw [hya]
  dsimp only at ha ⊢
  refine RR [1, 1] .z (.d (.d (.d (.k .a)))) (.i (.blk r 184 [.bool true, .string (mkS s), .int .i64 (↑Aa : Int), .int .i64 ea]) (.i (.blk g1 62 [.int .i64 o, .int .i64 a]) .z)) ?_
  refine RZ (NT (RE ?_))
  refine NE [0] (.k .z) (.d (.k .a)) [1, 1] (.agg #[.int .i64 o, .int .i64 a]) ?_
  exact ⟨rfl, rfl⟩
theorem readVr_spec (r A : Nat) (s : List UInt8) (e : Int) (hA : A ≤ s.length) (hl : s.length ≤ 1099511627776) :
    Does Tryz.prog 116 [.pointer (some ⟨r, 0, none⟩)] [rdr r s A e] (fun v hp' => v = .agg (varC (rVr s (A, e)).1).toArray ∧ hp' = [rdr r s (rVr s (A, e)).2.1 (rVr s (A, e)).2.2]) := by
  unfold rVr
  dsimp only
  refine fn_enter Tryz.func116 rfl 12 rfl fun w0 h0 => ?_
  refine SQ (RG ?_)
  refine RP [] .z 2 .a (.i (.blk r 184 [.bool true, .string (mkS s), .int .i64 (↑A : Int), .int .i64 e]) .z) 116 [.string ⟨#[]⟩, .int .i64 0, .int .i64 0, .int .i64 0] fun g1 => ?_
  refine RZ (NT (SQ (RG ?_)))
  refine RR [] (.d .a) (.i 3 (.pointer (some ⟨r, 0, none⟩)) .a) .a ?_
  have ht := goes_rTx s (A, e) hA
  refine RC (dst := some 4) [0] (.d (.k .a)) (ctext_spec r A s e hA hl) ?_
  rintro v _ ⟨rfl, rfl⟩
  obtain ⟨⟨t, At, et⟩, hxt⟩ : ∃ y, y = rTx s (A, e) := ⟨_, rfl⟩
  rw [← hxt] at ht ⊢
  dsimp only at ht ⊢
  refine RR [] (.d .a) (.i 5 (.pointer (some ⟨r, 0, none⟩)) (.k (.d (.k .a)))) (.i (.blk r 184 [.bool true, .string (mkS s), .int .i64 (↑At : Int), .int .i64 et]) (.d (.k .a))) ?_
  have ho := goes_rI s (At, et) ht.2.1
  refine RC (dst := some 6) [0] (.d (.k .a)) (Int_spec r At s et ht.2.1 hl) ?_
  rintro v _ ⟨rfl, rfl⟩
  obtain ⟨⟨o, Ao, eo⟩, hxo⟩ : ∃ y, y = rI s (At, et) := ⟨_, rfl⟩
  have hyo : rd 0 At et (num (s.drop At)) = (o, Ao, eo) := hxo.symm
  rw [← hxo] at ho ⊢
  rw [hyo]
  dsimp only at ho ⊢
  refine RR [] (.d .a) (.i 7 (.pointer (some ⟨r, 0, none⟩)) (.k (.d (.k .a)))) (.i (.blk r 184 [.bool true, .string (mkS s), .int .i64 (↑Ao : Int), .int .i64 eo]) (.d (.k .a))) ?_
  have hf := goes_rI s (Ao, eo) ho.2.1
  refine RC (dst := some 8) [0] (.d (.k .a)) (Int_spec r Ao s eo ho.2.1 hl) ?_
  rintro v _ ⟨rfl, rfl⟩
  obtain ⟨⟨f, Af, ef⟩, hxf⟩ : ∃ y, y = rI s (Ao, eo) := ⟨_, rfl⟩
  have hyf : rd 0 Ao eo (num (s.drop Ao)) = (f, Af, ef) := hxf.symm
  rw [← hxf] at hf ⊢
  rw [hyf]
  dsimp only at hf ⊢
  refine RR [] (.d .a) (.i 9 (.pointer (some ⟨r, 0, none⟩)) (.k (.d (.k (.k (.k .z)))))) (.i (.blk r 184 [.bool true, .string (mkS s), .int .i64 (↑Af : Int), .int .i64 ef]) (.d (.k .a))) ?_
  have hu := goes_rI s (Af, ef) hf.2.1
  refine RC (dst := some 10) [0] (.d (.k .a)) (Int_spec r Af s ef hf.2.1 hl) ?_
  rintro v _ ⟨rfl, rfl⟩
  obtain ⟨⟨u, Au, eu⟩, hxu⟩ : ∃ y, y = rI s (Af, ef) := ⟨_, rfl⟩
  have hyu : rd 0 Af ef (num (s.drop Af)) = (u, Au, eu) := hxu.symm
  rw [← hxu] at hu ⊢
  rw [hyu]
  dsimp only at hu ⊢
  refine RR [1, 1, 1, 1] .z (.d (.d (.d (.d (.d (.k .a)))))) (.i (.blk r 184 [.bool true, .string (mkS s), .int .i64 (↑Au : Int), .int .i64 eu]) (.i (.blk g1 116 [.string (mkS t), .int .i64 o, .int .i64 f, .int .i64 u]) .z)) ?_
  refine RZ (NT (RE ?_))
  refine NE [0] (.k .z) (.d (.k .a)) [1, 1, 1, 1] (.agg #[.string (mkS t), .int .i64 o, .int .i64 f, .int .i64 u]) ?_
  exact ⟨rfl, rfl⟩
theorem rowI_spec (r A : Nat) (s : List UInt8) (e : Int) (hA : A ≤ s.length) (hl : s.length ≤ 1099511627776) :
    Does Tryz.prog 113 [.pointer (some ⟨r, 0, none⟩), .func (.func 114) #[] #[]] [rdr r s A e]
      (fun v hp' => ∃ a c, v = .slice a (rRows s (rIn s) (A, e)).1.length c ∧ hp' = [row 62 2 a (rRows s (rIn s) (A, e)).1.length c ((rRows s (rIn s) (A, e)).1.flatMap insC), rdr r s (rRows s (rIn s) (A, e)).2.1 (rRows s (rIn s) (A, e)).2.2]) := by
  obtain ⟨g1, g2, -, -⟩ := goes_rC s 1048576 (A, e) hA
  unfold rRows
  refine fn_enter Tryz.func113 rfl 25 rfl fun w0 h0 => ?_
  refine SQ (RG ?_)
  refine RR [] .z (.i 4 (.slice none 0 0) .a) (.i (.blk r 184 [.bool true, .string (mkS s), .int .i64 (↑A : Int), .int .i64 e]) .z) ?_
  refine RZ (NT (SQ (RG ?_)))
  refine RR [] .z (.i 5 (.slice none 0 0) .a) .a ?_
  refine RZ (NT (SQ (SQ (RG ?_))))
  refine RR [] (.d .a) (.i 7 (.pointer (some ⟨r, 0, none⟩)) .a) .a ?_
  refine RCA (dst := some 8) (RdCount_spec r A s e 1048576 hA hl) ?_
  rintro v _ ⟨rfl, rfl⟩
  obtain ⟨⟨k, A1, e1⟩, hx⟩ : ∃ x, x = rC s 1048576 (A, e) := ⟨_, rfl⟩
  have hx2 : rd 0 A e (cnt (s.drop A) 1048576) = (k, A1, e1) := hx.symm
  rw [← hx] at g1 g2 ⊢
  rw [hx2]
  dsimp only at g1 g2 ⊢
  have hk := rC_rng s (A, e)
  rw [← hx] at hk
  dsimp only at hk
  obtain ⟨n, rfl⟩ := Int.eq_ofNat_of_zero_le hk.1
  obtain ⟨⟨L, A9, e9⟩, ht⟩ : ∃ x, x = rMany (rIn s) (n : Int).toNat (A1, e1) := ⟨_, rfl⟩
  rw [← ht]
  rw [Int.toNat_natCast] at ht
  have hln := many_len (goes_rIn s) n (A1, e1) g2
  rw [← ht] at hln
  dsimp only at hln ⊢
  refine RR [] .z (.i 6 (.int .i64 (↑n : Int)) (.d (.d (.k .a)))) (.i (.blk r 184 [.bool true, .string (mkS s), .int .i64 (↑A1 : Int), .int .i64 e1]) .z) ?_
  refine RZ (NT (BK ?_))
  refine wpc_loop (X := {x : Nat × Option Addr × Nat × List InP × Nat × Int // x.1 ≤ n ∧ x.2.2.2.2.1 ≤ s.length ∧ L = x.2.2.2.1 ++ (rMany (rIn s) x.1 x.2.2.2.2).1 ∧ (A9, e9) = (rMany (rIn s) x.1 x.2.2.2.2).2}) (fun x => St.mk [(6, .int .i64 (x.1.1 : Int)), (5, .slice x.1.2.1 x.1.2.2.2.1.length x.1.2.2.1), (4, .slice none 0 0), (0, .pointer (some ⟨r, 0, none⟩)), (1, .func (.func 114) #[] #[])]
    [row 62 2 x.1.2.1 x.1.2.2.2.1.length x.1.2.2.1 (x.1.2.2.2.1.flatMap insC), rdr r s x.1.2.2.2.2.1 x.1.2.2.2.2.2]) (fun x => x.1.1) ⟨(n, none, 0, [], A1, e1), Nat.le_refl _, g2, by rw [← ht]; rfl, by rw [← ht]⟩ ?_ ?_
  · exact Ent.trans (ent_nil 62 2) (ent_fr (by kernel_rfl))
  rintro ⟨⟨k, a1, c1, l1, A2, e2⟩, hkn, hA2, hL, hp⟩
  dsimp only at hkn hA2 hL hp ⊢
  have hll : l1.length ≤ 1048576 := by
    have := congrArg List.length hL
    rw [List.length_append] at this
    omega
  cases k with
  | zero =>
    rw [show rMany (rIn s) 0 (A2, e2) = ([], A2, e2) from rfl] at hL hp
    cases hp
    rw [List.append_nil] at hL
    subst hL
    refine SQ (SQ (RG ?_))
    refine RR [] .z (.i 15 (.bool false) (.i 6 (.int .i64 0) (.d (.k .a)))) (.k (.i (.blk r 184 [.bool true, .string (mkS s), .int .i64 (↑A9 : Int), .int .i64 e9]) .z)) ?_
    refine RZ (NT (CF (EX (TE (TE (BH (NT (SQ (RG ?_)))))))))
    refine RR [] .z (.i 4 (.slice a1 L.length c1) .z) .a ?_
    refine RZ (NT (RE ?_))
    refine NE [0, 0] .a .z [] (.slice a1 L.length c1) ?_
    exact ⟨a1, c1, rfl, rfl⟩
  | succ k =>
    by_cases he : e2 = 0
    · subst he
      rw [rMany_succ _ _ _ rfl] at hL hp
      have hg := goes_rIn s (A2, 0) hA2
      refine SQ (SQ (RG ?_))
      refine RR [] (.d (.d (.d .a))) (.i 11 (.bool (decide ((↑(k + (1 : Nat)) : Int) > (0 : Int)))) .a) (.k (.i (.blk r 184 [.bool true, .string (mkS s), .int .i64 (↑A2 : Int), .int .i64 0]) .z)) ?_
      refine SR 11 (decide ((↑(k + (1 : Nat)) : Int) > (0 : Int))) true (by simp) ?_
      refine RR [] (.d .a) (.i 12 (.pointer (some ⟨r, 0, none⟩)) (.k (.d (.k .a)))) .a ?_
      refine RC (dst := some 13) [1] (.k .z) (Err_spec r s A2 0) ?_
      rintro v _ ⟨rfl, rfl⟩
      refine RR [] .z (.i 15 (.bool true) (.d (.d (.d (.k .a))))) (.i (.blk r 184 [.bool true, .string (mkS s), .int .i64 (↑A2 : Int), .int .i64 0]) (.d (.k .a))) ?_
      refine RZ (NT (CT (SK (NT (SQ (BK (RG ?_)))))))
      refine RR [] (.d (.d (.d .a))) (.i 20 (.pointer (some ⟨r, 0, none⟩)) (.i 19 (Value.func (Fn.func 114) #[] #[]) (.i 18 (.slice a1 l1.length c1) (.d (.k .a))))) .a ?_
      refine wpr_callv (dst := some 21) (rest := [row 62 2 a1 l1.length c1 (List.flatMap insC l1)]) (first := (#[])) (caps := (#[])) (args := [.pointer (some ⟨r, 0, none⟩)]) (f := 114) (by kernel_rfl) (by kernel_rfl) (readIn_spec r A2 s 0 hA2 hl) (give [0] (by kernel_rfl)) ?_
      rintro v _ ⟨rfl, rfl⟩
      obtain ⟨⟨v, A3, e3⟩, hv⟩ : ∃ x, x = rIn s (A2, 0) := ⟨_, rfl⟩
      rw [← hv] at hg hL hp ⊢
      dsimp only at hg hL hp ⊢
      rw [show insC v = [.int .i64 v.1, .int .i64 v.2] from rfl]
      refine RN [] (.d .a) 22 (fun g3 => (.slice (some ⟨g3, 0, none⟩) 1 1)) (.d (.d (.d (.k .a)))) (.i (.blk r 184 [.bool true, .string (mkS s), .int .i64 (↑A3 : Int), .int .i64 e3]) (.d (.k .a))) 62 [.int .i64 v.fst, .int .i64 v.snd] fun g3 => ?_
      refine wpr_ent (ent_turn 2 (ro (some ⟨g3, 0, none⟩) (insC v)) rfl (turn_rblk (l := insC v) (ins1 _)) rfl) ?_
      refine wpr_app (a := a1) (n := l1.length) (cap := c1) (x := (.slice (some ⟨g3, 0, none⟩) 1 1)) (t := 56) (xt := 56) (dst := some 23) (by kernel_rfl) (e := 62) (sz := 2) (bytes := 16) (by kernel_rfl) 1 (xs := (List.flatMap insC l1)) (by kernel_rfl) (m := 1) (news := (insC v)) (fun w h => src_ro h 2 rfl rfl (fun e => by cases e)) (by unfold maxLen; omega) (by omega) ?_
      intro a3 c3 hn3
      rw [show l1.length + 1 = (l1 ++ [v]).length by simp, show l1.flatMap insC ++ insC v = (l1 ++ [v]).flatMap insC by simp]
      refine RR [] .z (.i 5 (.slice a3 (l1 ++ [v]).length c3) (.d (.d (.d (.k (.d (.k .a))))))) .a ?_
      refine RZ (BN (NT (RG ?_)))
      refine RV true [] .z (.i 6 (.int .i64 ((↑(k + 1) : Int) - 1)) (.k (.d (.k .a)))) .a ([inI64 ((↑(k + (1 : Nat)) : Int) - (1 : Int))]) ⟨by unfold inI64; omega, trivial⟩ ?_
      refine RZ ?_
      rw [show ((k + 1 : Nat) : Int) - 1 = (k : Int) from by omega]
      exact fun a' w' hS' => ⟨⟨(k, a3, c3, l1 ++ [v], A3, e3), by dsimp only; omega, hg.2.1, by rw [hL, List.append_assoc]; rfl, hp⟩, by dsimp only; omega, ent_fr (by kernel_rfl) _ _ (ent_hp [1, 0] rfl _ _ hS')⟩
    · rw [rMany_nil _ _ _ he] at hL hp
      cases hp
      rw [List.append_nil] at hL
      subst hL
      refine SQ (SQ (RG ?_))
      refine RR [] (.d (.d (.d .a))) (.i 11 (.bool (decide ((↑(k + (1 : Nat)) : Int) > (0 : Int)))) .a) (.k (.i (.blk r 184 [.bool true, .string (mkS s), .int .i64 (↑A9 : Int), .int .i64 e9]) .z)) ?_
      refine SR 11 (decide ((↑(k + (1 : Nat)) : Int) > (0 : Int))) true (by simp) ?_
      refine RR [] (.d .a) (.i 12 (.pointer (some ⟨r, 0, none⟩)) (.k (.d (.k .a)))) .a ?_
      refine RC (dst := some 13) [1] (.k .z) (Err_spec r s A9 e9) ?_
      rintro v _ ⟨rfl, rfl⟩
      refine RR [] .z (.i 15 (.bool (e9 == (0 : Int))) (.d (.d (.d (.k .a))))) (.i (.blk r 184 [.bool true, .string (mkS s), .int .i64 (↑A9 : Int), .int .i64 e9]) (.d (.k .a))) ?_
      refine RZ (NT ?_)
      refine SC 15 (e9 == (0 : Int)) false (by simp only [bne_eq_false_iff_eq, beq_eq_false_iff_ne, ne_eq]; omega) ?_
      refine CF (EX (TE (TE (BH (NT (SQ (RG ?_)))))))
      refine RR [] .z (.i 4 (.slice a1 L.length c1) .z) .a ?_
      refine RZ (NT (RE ?_))
      refine NE [1, 0] (.i (row 62 2 a1 L.length c1 (List.flatMap insC L)) (.k .z)) .z [] (.slice a1 L.length c1) ?_
      exact ⟨a1, c1, rfl, rfl⟩
theorem rowVr_spec (r A : Nat) (s : List UInt8) (e : Int) (hA : A ≤ s.length) (hl : s.length ≤ 1099511627776) :
    Does Tryz.prog 115 [.pointer (some ⟨r, 0, none⟩), .func (.func 116) #[] #[]] [rdr r s A e]
      (fun v hp' => ∃ a c, v = .slice a (rRows s (rVr s) (A, e)).1.length c ∧ hp' = [row 116 4 a (rRows s (rVr s) (A, e)).1.length c ((rRows s (rVr s) (A, e)).1.flatMap varC), rdr r s (rRows s (rVr s) (A, e)).2.1 (rRows s (rVr s) (A, e)).2.2]) := by
  obtain ⟨g1, g2, -, -⟩ := goes_rC s 1048576 (A, e) hA
  unfold rRows
  refine fn_enter Tryz.func115 rfl 25 rfl fun w0 h0 => ?_
  refine SQ (RG ?_)
  refine RR [] .z (.i 4 (.slice none 0 0) .a) (.i (.blk r 184 [.bool true, .string (mkS s), .int .i64 (↑A : Int), .int .i64 e]) .z) ?_
  refine RZ (NT (SQ (RG ?_)))
  refine RR [] .z (.i 5 (.slice none 0 0) .a) .a ?_
  refine RZ (NT (SQ (SQ (RG ?_))))
  refine RR [] (.d .a) (.i 7 (.pointer (some ⟨r, 0, none⟩)) .a) .a ?_
  refine RCA (dst := some 8) (RdCount_spec r A s e 1048576 hA hl) ?_
  rintro v _ ⟨rfl, rfl⟩
  obtain ⟨⟨k, A1, e1⟩, hx⟩ : ∃ x, x = rC s 1048576 (A, e) := ⟨_, rfl⟩
  have hx2 : rd 0 A e (cnt (s.drop A) 1048576) = (k, A1, e1) := hx.symm
  rw [← hx] at g1 g2 ⊢
  rw [hx2]
  dsimp only at g1 g2 ⊢
  have hk := rC_rng s (A, e)
  rw [← hx] at hk
  dsimp only at hk
  obtain ⟨n, rfl⟩ := Int.eq_ofNat_of_zero_le hk.1
  obtain ⟨⟨L, A9, e9⟩, ht⟩ : ∃ x, x = rMany (rVr s) (n : Int).toNat (A1, e1) := ⟨_, rfl⟩
  rw [← ht]
  rw [Int.toNat_natCast] at ht
  have hln := many_len (goes_rVr s) n (A1, e1) g2
  rw [← ht] at hln
  dsimp only at hln ⊢
  refine RR [] .z (.i 6 (.int .i64 (↑n : Int)) (.d (.d (.k .a)))) (.i (.blk r 184 [.bool true, .string (mkS s), .int .i64 (↑A1 : Int), .int .i64 e1]) .z) ?_
  refine RZ (NT (BK ?_))
  refine wpc_loop (X := {x : Nat × Option Addr × Nat × List VarP × Nat × Int // x.1 ≤ n ∧ x.2.2.2.2.1 ≤ s.length ∧ L = x.2.2.2.1 ++ (rMany (rVr s) x.1 x.2.2.2.2).1 ∧ (A9, e9) = (rMany (rVr s) x.1 x.2.2.2.2).2}) (fun x => St.mk [(6, .int .i64 (x.1.1 : Int)), (5, .slice x.1.2.1 x.1.2.2.2.1.length x.1.2.2.1), (4, .slice none 0 0), (0, .pointer (some ⟨r, 0, none⟩)), (1, .func (.func 116) #[] #[])]
    [row 116 4 x.1.2.1 x.1.2.2.2.1.length x.1.2.2.1 (x.1.2.2.2.1.flatMap varC), rdr r s x.1.2.2.2.2.1 x.1.2.2.2.2.2]) (fun x => x.1.1) ⟨(n, none, 0, [], A1, e1), Nat.le_refl _, g2, by rw [← ht]; rfl, by rw [← ht]⟩ ?_ ?_
  · exact Ent.trans (ent_nil 116 4) (ent_fr (by kernel_rfl))
  rintro ⟨⟨k, a1, c1, l1, A2, e2⟩, hkn, hA2, hL, hp⟩
  dsimp only at hkn hA2 hL hp ⊢
  have hll : l1.length ≤ 1048576 := by
    have := congrArg List.length hL
    rw [List.length_append] at this
    omega
  cases k with
  | zero =>
    rw [show rMany (rVr s) 0 (A2, e2) = ([], A2, e2) from rfl] at hL hp
    cases hp
    rw [List.append_nil] at hL
    subst hL
    refine SQ (SQ (RG ?_))
    refine RR [] .z (.i 15 (.bool false) (.i 6 (.int .i64 0) (.d (.k .a)))) (.k (.i (.blk r 184 [.bool true, .string (mkS s), .int .i64 (↑A9 : Int), .int .i64 e9]) .z)) ?_
    refine RZ (NT (CF (EX (TE (TE (BH (NT (SQ (RG ?_)))))))))
    refine RR [] .z (.i 4 (.slice a1 L.length c1) .z) .a ?_
    refine RZ (NT (RE ?_))
    refine NE [0, 0] .a .z [] (.slice a1 L.length c1) ?_
    exact ⟨a1, c1, rfl, rfl⟩
  | succ k =>
    by_cases he : e2 = 0
    · subst he
      rw [rMany_succ _ _ _ rfl] at hL hp
      have hg := goes_rVr s (A2, 0) hA2
      refine SQ (SQ (RG ?_))
      refine RR [] (.d (.d (.d .a))) (.i 11 (.bool (decide ((↑(k + (1 : Nat)) : Int) > (0 : Int)))) .a) (.k (.i (.blk r 184 [.bool true, .string (mkS s), .int .i64 (↑A2 : Int), .int .i64 0]) .z)) ?_
      refine SR 11 (decide ((↑(k + (1 : Nat)) : Int) > (0 : Int))) true (by simp) ?_
      refine RR [] (.d .a) (.i 12 (.pointer (some ⟨r, 0, none⟩)) (.k (.d (.k .a)))) .a ?_
      refine RC (dst := some 13) [1] (.k .z) (Err_spec r s A2 0) ?_
      rintro v _ ⟨rfl, rfl⟩
      refine RR [] .z (.i 15 (.bool true) (.d (.d (.d (.k .a))))) (.i (.blk r 184 [.bool true, .string (mkS s), .int .i64 (↑A2 : Int), .int .i64 0]) (.d (.k .a))) ?_
      refine RZ (NT (CT (SK (NT (SQ (BK (RG ?_)))))))
      refine RR [] (.d (.d (.d .a))) (.i 20 (.pointer (some ⟨r, 0, none⟩)) (.i 19 (Value.func (Fn.func 116) #[] #[]) (.i 18 (.slice a1 l1.length c1) (.d (.k .a))))) .a ?_
      refine wpr_callv (dst := some 21) (rest := [row 116 4 a1 l1.length c1 (List.flatMap varC l1)]) (first := (#[])) (caps := (#[])) (args := [.pointer (some ⟨r, 0, none⟩)]) (f := 116) (by kernel_rfl) (by kernel_rfl) (readVr_spec r A2 s 0 hA2 hl) (give [0] (by kernel_rfl)) ?_
      rintro v _ ⟨rfl, rfl⟩
      obtain ⟨⟨v, A3, e3⟩, hv⟩ : ∃ x, x = rVr s (A2, 0) := ⟨_, rfl⟩
      rw [← hv] at hg hL hp ⊢
      dsimp only at hg hL hp ⊢
      rw [show varC v = [.string (mkS v.name), .int .i64 v.slot, .int .i64 v.fr, .int .i64 v.to] from rfl]
      refine RN [] (.d .a) 22 (fun g3 => (.slice (some ⟨g3, 0, none⟩) 1 1)) (.d (.d (.d (.k .a)))) (.i (.blk r 184 [.bool true, .string (mkS s), .int .i64 (↑A3 : Int), .int .i64 e3]) (.d (.k .a))) 116 [.string (mkS v.name), .int .i64 v.slot, .int .i64 v.fr, .int .i64 v.to] fun g3 => ?_
      refine wpr_ent (ent_turn 2 (ro (some ⟨g3, 0, none⟩) (varC v)) rfl (turn_rblk (l := varC v) (var1 _)) rfl) ?_
      refine wpr_app (a := a1) (n := l1.length) (cap := c1) (x := (.slice (some ⟨g3, 0, none⟩) 1 1)) (t := 57) (xt := 57) (dst := some 23) (by kernel_rfl) (e := 116) (sz := 4) (bytes := 40) (by kernel_rfl) 1 (xs := (List.flatMap varC l1)) (by kernel_rfl) (m := 1) (news := (varC v)) (fun w h => src_ro h 2 rfl rfl (fun e => by cases e)) (by unfold maxLen; omega) (by omega) ?_
      intro a3 c3 hn3
      rw [show l1.length + 1 = (l1 ++ [v]).length by simp, show l1.flatMap varC ++ varC v = (l1 ++ [v]).flatMap varC by simp]
      refine RR [] .z (.i 5 (.slice a3 (l1 ++ [v]).length c3) (.d (.d (.d (.k (.d (.k .a))))))) .a ?_
      refine RZ (BN (NT (RG ?_)))
      refine RV true [] .z (.i 6 (.int .i64 ((↑(k + 1) : Int) - 1)) (.k (.d (.k .a)))) .a ([inI64 ((↑(k + (1 : Nat)) : Int) - (1 : Int))]) ⟨by unfold inI64; omega, trivial⟩ ?_
      refine RZ ?_
      rw [show ((k + 1 : Nat) : Int) - 1 = (k : Int) from by omega]
      exact fun a' w' hS' => ⟨⟨(k, a3, c3, l1 ++ [v], A3, e3), by dsimp only; omega, hg.2.1, by rw [hL, List.append_assoc]; rfl, hp⟩, by dsimp only; omega, ent_fr (by kernel_rfl) _ _ (ent_hp [1, 0] rfl _ _ hS')⟩
    · rw [rMany_nil _ _ _ he] at hL hp
      cases hp
      rw [List.append_nil] at hL
      subst hL
      refine SQ (SQ (RG ?_))
      refine RR [] (.d (.d (.d .a))) (.i 11 (.bool (decide ((↑(k + (1 : Nat)) : Int) > (0 : Int)))) .a) (.k (.i (.blk r 184 [.bool true, .string (mkS s), .int .i64 (↑A9 : Int), .int .i64 e9]) .z)) ?_
      refine SR 11 (decide ((↑(k + (1 : Nat)) : Int) > (0 : Int))) true (by simp) ?_
      refine RR [] (.d .a) (.i 12 (.pointer (some ⟨r, 0, none⟩)) (.k (.d (.k .a)))) .a ?_
      refine RC (dst := some 13) [1] (.k .z) (Err_spec r s A9 e9) ?_
      rintro v _ ⟨rfl, rfl⟩
      refine RR [] .z (.i 15 (.bool (e9 == (0 : Int))) (.d (.d (.d (.k .a))))) (.i (.blk r 184 [.bool true, .string (mkS s), .int .i64 (↑A9 : Int), .int .i64 e9]) (.d (.k .a))) ?_
      refine RZ (NT ?_)
      refine SC 15 (e9 == (0 : Int)) false (by simp only [bne_eq_false_iff_eq, beq_eq_false_iff_ne, ne_eq]; omega) ?_
      refine CF (EX (TE (TE (BH (NT (SQ (RG ?_)))))))
      refine RR [] .z (.i 4 (.slice a1 L.length c1) .z) .a ?_
      refine RZ (NT (RE ?_))
      refine NE [1, 0] (.i (row 116 4 a1 L.length c1 (List.flatMap varC L)) (.k .z)) .z [] (.slice a1 L.length c1) ?_
      exact ⟨a1, c1, rfl, rfl⟩
theorem rowSh_spec (r A : Nat) (s : List UInt8) (e : Int) (hA : A ≤ s.length) (hl : s.length ≤ 1099511627776) :
    Does Tryz.prog 60 [.pointer (some ⟨r, 0, none⟩), .func (.func 61) #[] #[]] [rdr r s A e]
      (fun v hp' => ∃ a c, ∃ l' : List ShV, l'.map ShV.p = (rRows s (rSh s) (A, e)).1 ∧ v = .slice a l'.length c ∧ hp' = [row 111 2 a l'.length c (l'.flatMap shC), star (l'.flatMap shRows), rdr r s (rRows s (rSh s) (A, e)).2.1 (rRows s (rSh s) (A, e)).2.2]) := by
  obtain ⟨g1, g2, -, -⟩ := goes_rC s 1048576 (A, e) hA
  unfold rRows
  refine fn_enter Tryz.func60 rfl 25 rfl fun w0 h0 => ?_
  refine SQ (RG ?_)
  refine RR [] .z (.i 4 (.slice none 0 0) .a) (.i (.blk r 184 [.bool true, .string (mkS s), .int .i64 (↑A : Int), .int .i64 e]) .z) ?_
  refine RZ (NT (SQ (RG ?_)))
  refine RR [] .z (.i 5 (.slice none 0 0) .a) .a ?_
  refine RZ (NT (SQ (SQ (RG ?_))))
  refine RR [] (.d .a) (.i 7 (.pointer (some ⟨r, 0, none⟩)) .a) .a ?_
  refine RCA (dst := some 8) (RdCount_spec r A s e 1048576 hA hl) ?_
  rintro v _ ⟨rfl, rfl⟩
  obtain ⟨⟨k, A1, e1⟩, hx⟩ : ∃ x, x = rC s 1048576 (A, e) := ⟨_, rfl⟩
  have hx2 : rd 0 A e (cnt (s.drop A) 1048576) = (k, A1, e1) := hx.symm
  rw [← hx] at g1 g2 ⊢
  rw [hx2]
  dsimp only at g1 g2 ⊢
  have hk := rC_rng s (A, e)
  rw [← hx] at hk
  dsimp only at hk
  obtain ⟨n, rfl⟩ := Int.eq_ofNat_of_zero_le hk.1
  obtain ⟨⟨L, A9, e9⟩, ht⟩ : ∃ x, x = rMany (rSh s) (n : Int).toNat (A1, e1) := ⟨_, rfl⟩
  rw [← ht]
  rw [Int.toNat_natCast] at ht
  have hln := many_len (goes_rSh s) n (A1, e1) g2
  rw [← ht] at hln
  dsimp only at hln ⊢
  refine RR [] .z (.i 6 (.int .i64 (↑n : Int)) (.d (.d (.k .a)))) (.i (.blk r 184 [.bool true, .string (mkS s), .int .i64 (↑A1 : Int), .int .i64 e1]) .z) ?_
  refine RZ (NT (BK ?_))
  refine wpc_loop (X := {x : Nat × Option Addr × Nat × List ShV × Nat × Int // x.1 ≤ n ∧ x.2.2.2.2.1 ≤ s.length ∧ L = x.2.2.2.1.map ShV.p ++ (rMany (rSh s) x.1 x.2.2.2.2).1 ∧ (A9, e9) = (rMany (rSh s) x.1 x.2.2.2.2).2}) (fun x => St.mk [(6, .int .i64 (x.1.1 : Int)), (5, .slice x.1.2.1 x.1.2.2.2.1.length x.1.2.2.1), (4, .slice none 0 0), (0, .pointer (some ⟨r, 0, none⟩)), (1, .func (.func 61) #[] #[])]
    [row 111 2 x.1.2.1 x.1.2.2.2.1.length x.1.2.2.1 (x.1.2.2.2.1.flatMap shC), star (x.1.2.2.2.1.flatMap shRows), rdr r s x.1.2.2.2.2.1 x.1.2.2.2.2.2]) (fun x => x.1.1) ⟨(n, none, 0, [], A1, e1), Nat.le_refl _, g2, by rw [← ht]; rfl, by rw [← ht]⟩ ?_ ?_
  · exact Ent.trans ent_star_nil (Ent.trans (ent_nil 111 2) (ent_fr (by kernel_rfl)))
  rintro ⟨⟨k, a1, c1, l1, A2, e2⟩, hkn, hA2, hL, hp⟩
  dsimp only at hkn hA2 hL hp ⊢
  have hll : l1.length ≤ 1048576 := by
    have := congrArg List.length hL
    rw [List.length_append, List.length_map] at this
    omega
  cases k with
  | zero =>
    rw [show rMany (rSh s) 0 (A2, e2) = ([], A2, e2) from rfl] at hL hp
    cases hp
    rw [List.append_nil] at hL
    subst hL
    refine SQ (SQ (RG ?_))
    refine RR [] .z (.i 15 (.bool false) (.i 6 (.int .i64 0) (.d (.k .a)))) (.k (.k (.i (.blk r 184 [.bool true, .string (mkS s), .int .i64 (↑A9 : Int), .int .i64 e9]) .z))) ?_
    refine RZ (NT (CF (EX (TE (TE (BH (NT (SQ (RG ?_)))))))))
    refine RR [] .z (.i 4 (.slice a1 l1.length c1) .z) .a ?_
    refine RZ (NT (RE ?_))
    refine NE [0, 0, 0] .a .z [] (.slice a1 l1.length c1) ?_
    exact ⟨a1, c1, l1, rfl, rfl, rfl⟩
  | succ k =>
    by_cases he : e2 = 0
    · subst he
      rw [rMany_succ _ _ _ rfl] at hL hp
      have hg := goes_rSh s (A2, 0) hA2
      refine SQ (SQ (RG ?_))
      refine RR [] (.d (.d (.d .a))) (.i 11 (.bool (decide ((↑(k + (1 : Nat)) : Int) > (0 : Int)))) .a) (.k (.k (.i (.blk r 184 [.bool true, .string (mkS s), .int .i64 (↑A2 : Int), .int .i64 0]) .z))) ?_
      refine SR 11 (decide ((↑(k + (1 : Nat)) : Int) > (0 : Int))) true (by simp) ?_
      refine RR [] (.d .a) (.i 12 (.pointer (some ⟨r, 0, none⟩)) (.k (.d (.k .a)))) .a ?_
      refine RC (dst := some 13) [2] (.k (.k .z)) (Err_spec r s A2 0) ?_
      rintro v _ ⟨rfl, rfl⟩
      refine RR [] .z (.i 15 (.bool true) (.d (.d (.d (.k .a))))) (.i (.blk r 184 [.bool true, .string (mkS s), .int .i64 (↑A2 : Int), .int .i64 0]) (.d (.k .a))) ?_
      refine RZ (NT (CT (SK (NT (SQ (BK (RG ?_)))))))
      refine RR [] (.d (.d (.d .a))) (.i 20 (.pointer (some ⟨r, 0, none⟩)) (.i 19 (Value.func (Fn.func 61) #[] #[]) (.i 18 (.slice a1 l1.length c1) (.d (.k .a))))) .a ?_
      refine wpr_callv (dst := some 21) (rest := [row 111 2 a1 l1.length c1 (List.flatMap shC l1), star (List.flatMap shRows l1)]) (first := (#[])) (caps := (#[])) (args := [.pointer (some ⟨r, 0, none⟩)]) (f := 61) (by kernel_rfl) (by kernel_rfl) (readSh_spec r A2 s 0 hA2 hl) (give [0] (by kernel_rfl)) ?_
      rintro v _ ⟨o, ho, rfl, rfl⟩
      rw [show shRows o = [row 9 1 o.fa o.fields.length o.fc (strsC o.fields)] from rfl]
      obtain ⟨⟨v, A3, e3⟩, hv⟩ : ∃ x, x = rSh s (A2, 0) := ⟨_, rfl⟩
      rw [← hv] at hg hL hp ho ⊢
      dsimp only at hg hL hp ho ⊢
      refine RN [] (.d .a) 22 (fun g3 => (.slice (some ⟨g3, 0, none⟩) 1 1)) (.d (.d (.d (.k .a)))) (.i (.blk r 184 [.bool true, .string (mkS s), .int .i64 (↑A3 : Int), .int .i64 e3]) (.d (.k .a))) 111 [.string (mkS o.name), .slice o.fa o.fields.length o.fc] fun g3 => ?_
      refine wpr_ent (ent_turn 4 (ro (some ⟨g3, 0, none⟩) (shC o)) rfl (turn_rblk (sh1 _)) rfl) ?_
      refine wpr_app (a := a1) (n := l1.length) (cap := c1) (x := (.slice (some ⟨g3, 0, none⟩) 1 1)) (t := 23) (xt := 23) (dst := some 23) (by kernel_rfl) (e := 111) (sz := 2) (bytes := 40) (by kernel_rfl) 2 (xs := (List.flatMap shC l1)) (by kernel_rfl) (m := 1) (news := (shC o)) (fun w h => src_ro h 4 rfl rfl (fun e => by cases e)) (by unfold maxLen; omega) (by omega) ?_
      intro a3 c3 hn3
      rw [show l1.flatMap shC ++ shC o = (l1 ++ [o]).flatMap shC by simp, show l1.length + 1 = (l1 ++ [o]).length by simp]
      refine RR [] .z (.i 5 (.slice a3 (l1 ++ [o]).length c3) (.d (.d (.d (.k (.d (.k .a))))))) .a ?_
      refine RZ (BN (NT (RG ?_)))
      refine RV true [] .z (.i 6 (.int .i64 ((↑(k + 1) : Int) - 1)) (.k (.d (.k .a)))) .a ([inI64 ((↑(k + (1 : Nat)) : Int) - (1 : Int))]) ⟨by unfold inI64; omega, trivial⟩ ?_
      refine RZ ?_
      refine nx_ent (Ent.trans (ent_hp [3, 1, 0, 0] rfl) (ent_star_snoc trivial)) ?_
      rw [show l1.flatMap shRows ++ [row 9 1 o.fa o.fields.length o.fc (strsC o.fields)] = (l1 ++ [o]).flatMap shRows by simp [shRows]]
      rw [show ((k + 1 : Nat) : Int) - 1 = (k : Int) from by omega]
      exact fun a' w' hS' => ⟨⟨(k, a3, c3, l1 ++ [o], A3, e3), by dsimp only; omega, hg.2.1, by rw [hL, List.map_append, List.append_assoc, ← ho]; rfl, hp⟩, by dsimp only; omega, ent_fr (by kernel_rfl) _ _ (ent_hp [2, 0, 0] rfl _ _ hS')⟩
    · rw [rMany_nil _ _ _ he] at hL hp
      cases hp
      rw [List.append_nil] at hL
      subst hL
      refine SQ (SQ (RG ?_))
      refine RR [] (.d (.d (.d .a))) (.i 11 (.bool (decide ((↑(k + (1 : Nat)) : Int) > (0 : Int)))) .a) (.k (.k (.i (.blk r 184 [.bool true, .string (mkS s), .int .i64 (↑A9 : Int), .int .i64 e9]) .z))) ?_
      refine SR 11 (decide ((↑(k + (1 : Nat)) : Int) > (0 : Int))) true (by simp) ?_
      refine RR [] (.d .a) (.i 12 (.pointer (some ⟨r, 0, none⟩)) (.k (.d (.k .a)))) .a ?_
      refine RC (dst := some 13) [2] (.k (.k .z)) (Err_spec r s A9 e9) ?_
      rintro v _ ⟨rfl, rfl⟩
      refine RR [] .z (.i 15 (.bool (e9 == (0 : Int))) (.d (.d (.d (.k .a))))) (.i (.blk r 184 [.bool true, .string (mkS s), .int .i64 (↑A9 : Int), .int .i64 e9]) (.d (.k .a))) ?_
      refine RZ (NT ?_)
      refine SC 15 (e9 == (0 : Int)) false (by simp only [bne_eq_false_iff_eq, beq_eq_false_iff_ne, ne_eq]; omega) ?_
      refine CF (EX (TE (TE (BH (NT (SQ (RG ?_)))))))
      refine RR [] .z (.i 4 (.slice a1 l1.length c1) .z) .a ?_
      refine RZ (NT (RE ?_))
      refine NE [1, 1, 0] (.i (row 111 2 a1 l1.length c1 (List.flatMap shC l1)) (.i (star (List.flatMap shRows l1)) (.k .z))) .z [] (.slice a1 l1.length c1) ?_
      exact ⟨a1, c1, l1, rfl, rfl, rfl⟩
theorem readU_spec (r A : Nat) (s : List UInt8) (e : Int) (hA : A ≤ s.length) (hl : s.length ≤ 1099511627776) :
    Does Tryz.prog 63 [.pointer (some ⟨r, 0, none⟩)] [rdr r s A e] (fun v hp' => ∃ o : UnV, o.p = (rU s (A, e)).1 ∧ v = .agg #[.string (mkS o.name), .int .i64 o.params, .int .i64 o.slots, .int .i64 o.stack, .bool o.result, .slice o.ia o.ins.length o.ic, .slice o.va o.vars.length o.vc] ∧ hp' = [rdr r s (rU s (A, e)).2.1 (rU s (A, e)).2.2] ++ unRows o) := by
  unfold rU
  dsimp only
  refine fn_enter Tryz.func63 rfl 18 rfl fun w0 h0 => ?_
  refine SQ (RG ?_)
  refine RP [] .z 2 .a (.i (.blk r 184 [.bool true, .string (mkS s), .int .i64 (↑A : Int), .int .i64 e]) .z) 59 [.string ⟨#[]⟩, .int .i64 0, .int .i64 0, .int .i64 0, .bool false, .slice none 0 0, .slice none 0 0] fun g1 => ?_
  refine RZ (NT (SQ (RG ?_)))
  refine RR [] (.d .a) (.i 3 (.pointer (some ⟨r, 0, none⟩)) .a) .a ?_
  have ht := goes_rTx s (A, e) hA
  refine RC (dst := some 4) [0] (.d (.k .a)) (ctext_spec r A s e hA hl) ?_
  rintro v _ ⟨rfl, rfl⟩
  obtain ⟨⟨t, At, et⟩, hxt⟩ : ∃ y, y = rTx s (A, e) := ⟨_, rfl⟩
  rw [← hxt] at ht ⊢
  dsimp only at ht ⊢
  refine RR [] (.d .a) (.i 5 (.pointer (some ⟨r, 0, none⟩)) (.k (.d (.k .a)))) (.i (.blk r 184 [.bool true, .string (mkS s), .int .i64 (↑At : Int), .int .i64 et]) (.d (.k .a))) ?_
  have hp := goes_rI s (At, et) ht.2.1
  refine RC (dst := some 6) [0] (.d (.k .a)) (Int_spec r At s et ht.2.1 hl) ?_
  rintro v _ ⟨rfl, rfl⟩
  obtain ⟨⟨p, Ap, ep⟩, hxp⟩ : ∃ y, y = rI s (At, et) := ⟨_, rfl⟩
  have hyp : rd 0 At et (num (s.drop At)) = (p, Ap, ep) := hxp.symm
  rw [← hxp] at hp ⊢
  rw [hyp]
  dsimp only at hp ⊢
  refine RR [] (.d .a) (.i 7 (.pointer (some ⟨r, 0, none⟩)) (.k (.d (.k .a)))) (.i (.blk r 184 [.bool true, .string (mkS s), .int .i64 (↑Ap : Int), .int .i64 ep]) (.d (.k .a))) ?_
  have hq := goes_rI s (Ap, ep) hp.2.1
  refine RC (dst := some 8) [0] (.d (.k .a)) (Int_spec r Ap s ep hp.2.1 hl) ?_
  rintro v _ ⟨rfl, rfl⟩
  obtain ⟨⟨q, Aq, eq⟩, hxq⟩ : ∃ y, y = rI s (Ap, ep) := ⟨_, rfl⟩
  have hyq : rd 0 Ap ep (num (s.drop Ap)) = (q, Aq, eq) := hxq.symm
  rw [← hxq] at hq ⊢
  rw [hyq]
  dsimp only at hq ⊢
  refine RR [] (.d .a) (.i 9 (.pointer (some ⟨r, 0, none⟩)) (.k (.d (.k .a)))) (.i (.blk r 184 [.bool true, .string (mkS s), .int .i64 (↑Aq : Int), .int .i64 eq]) (.d (.k .a))) ?_
  have hk := goes_rI s (Aq, eq) hq.2.1
  refine RC (dst := some 10) [0] (.d (.k .a)) (Int_spec r Aq s eq hq.2.1 hl) ?_
  rintro v _ ⟨rfl, rfl⟩
  obtain ⟨⟨k, Ak, ek⟩, hxk⟩ : ∃ y, y = rI s (Aq, eq) := ⟨_, rfl⟩
  have hyk : rd 0 Aq eq (num (s.drop Aq)) = (k, Ak, ek) := hxk.symm
  rw [← hxk] at hk ⊢
  rw [hyk]
  dsimp only at hk ⊢
  refine RR [] (.d .a) (.i 11 (.pointer (some ⟨r, 0, none⟩)) (.k (.d (.k .a)))) (.i (.blk r 184 [.bool true, .string (mkS s), .int .i64 (↑Ak : Int), .int .i64 ek]) (.d (.k .a))) ?_
  have hb := goes_rBo s (Ak, ek) hk.2.1
  refine RC (dst := some 12) [0] (.d (.k .a)) (Bool_spec r Ak s ek hk.2.1 hl) ?_
  rintro v _ ⟨rfl, rfl⟩
  obtain ⟨⟨b, Ab, eb⟩, hxb⟩ : ∃ y, y = rBo s (Ak, ek) := ⟨_, rfl⟩
  have hyb : rd false Ak ek (bol (s.drop Ak)) = (b, Ab, eb) := hxb.symm
  rw [← hxb] at hb ⊢
  rw [hyb]
  dsimp only at hb ⊢
  refine RR [] (.d .a) (.i 13 (.pointer (some ⟨r, 0, none⟩)) (.k (.d (.k .a)))) (.i (.blk r 184 [.bool true, .string (mkS s), .int .i64 (↑Ab : Int), .int .i64 eb]) (.d (.k .a))) ?_
  have hi := goes_rows (goes_rIn s) (Ab, eb) hb.2.1
  refine RC (dst := some 14) [0] (.d (.k .a)) (rowI_spec r Ab s eb hb.2.1 hl) ?_
  rintro v _ ⟨qa, ca, rfl, rfl⟩
  obtain ⟨⟨la, Ai, ei⟩, hxi⟩ : ∃ x, x = rRows s (rIn s) (Ab, eb) := ⟨_, rfl⟩
  rw [← hxi] at hi ⊢
  dsimp only at hi ⊢
  refine RR [] (.d .a) (.i 15 (.pointer (some ⟨r, 0, none⟩)) (.k (.d (.k (.k (.k (.k (.k (.k .z))))))))) (.k (.i (.blk r 184 [.bool true, .string (mkS s), .int .i64 (↑Ai : Int), .int .i64 ei]) (.d (.k .a)))) ?_
  refine RC (dst := some 16) [1] (.k (.d (.k .a))) (rowVr_spec r Ai s ei hi.2.1 hl) ?_
  rintro v _ ⟨qb, cb, rfl, rfl⟩
  obtain ⟨⟨lb, Ab, eb⟩, hxb⟩ : ∃ x, x = rRows s (rVr s) (Ai, ei) := ⟨_, rfl⟩
  rw [← hxb]
  dsimp only
  refine RR [3, 3, 3, 3, 3, 3, 3] .z (.d (.d (.d (.d (.d (.d (.d (.d (.k .a))))))))) (.k (.i (.blk r 184 [.bool true, .string (mkS s), .int .i64 (↑Ab : Int), .int .i64 eb]) (.d (.k (.u (.i (.string (mkS t)) (.i (.int .i64 p) (.i (.int .i64 q) (.i (.int .i64 k) (.i (.bool b) (.i (.slice qa la.length ca) (.i (.slice qb lb.length cb) .z))))))) .a))))) ?_
  refine RZ (NT (RE ?_))
  refine NE [1, 1, 0] (.i (.blk r 184 [.bool true, .string (mkS s), .int .i64 (↑Ab : Int), .int .i64 eb]) (.i (row 62 2 qa la.length ca (List.flatMap insC la)) (.k .z))) (.d (.d (.d (.k .a)))) [3, 3, 3, 3, 3, 3, 3] (.agg #[.string (mkS t), .int .i64 p, .int .i64 q, .int .i64 k, .bool b, .slice qa la.length ca, .slice qb lb.length cb]) ?_
  exact ⟨⟨t, p, q, k, b, qa, ca, la, qb, cb, lb⟩, rfl, rfl, rfl⟩
theorem rowU_spec (r A : Nat) (s : List UInt8) (e : Int) (hA : A ≤ s.length) (hl : s.length ≤ 1099511627776) :
    Does Tryz.prog 62 [.pointer (some ⟨r, 0, none⟩), .func (.func 63) #[] #[]] [rdr r s A e]
      (fun v hp' => ∃ a c, ∃ l' : List UnV, l'.map UnV.p = (rRows s (rU s) (A, e)).1 ∧ v = .slice a l'.length c ∧ hp' = [row 59 7 a l'.length c (l'.flatMap unC), star (l'.flatMap unRows), rdr r s (rRows s (rU s) (A, e)).2.1 (rRows s (rU s) (A, e)).2.2]) := by
  obtain ⟨g1, g2, -, -⟩ := goes_rC s 1048576 (A, e) hA
  unfold rRows
  refine fn_enter Tryz.func62 rfl 25 rfl fun w0 h0 => ?_
  refine SQ (RG ?_)
  refine RR [] .z (.i 4 (.slice none 0 0) .a) (.i (.blk r 184 [.bool true, .string (mkS s), .int .i64 (↑A : Int), .int .i64 e]) .z) ?_
  refine RZ (NT (SQ (RG ?_)))
  refine RR [] .z (.i 5 (.slice none 0 0) .a) .a ?_
  refine RZ (NT (SQ (SQ (RG ?_))))
  refine RR [] (.d .a) (.i 7 (.pointer (some ⟨r, 0, none⟩)) .a) .a ?_
  refine RCA (dst := some 8) (RdCount_spec r A s e 1048576 hA hl) ?_
  rintro v _ ⟨rfl, rfl⟩
  obtain ⟨⟨k, A1, e1⟩, hx⟩ : ∃ x, x = rC s 1048576 (A, e) := ⟨_, rfl⟩
  have hx2 : rd 0 A e (cnt (s.drop A) 1048576) = (k, A1, e1) := hx.symm
  rw [← hx] at g1 g2 ⊢
  rw [hx2]
  dsimp only at g1 g2 ⊢
  have hk := rC_rng s (A, e)
  rw [← hx] at hk
  dsimp only at hk
  obtain ⟨n, rfl⟩ := Int.eq_ofNat_of_zero_le hk.1
  obtain ⟨⟨L, A9, e9⟩, ht⟩ : ∃ x, x = rMany (rU s) (n : Int).toNat (A1, e1) := ⟨_, rfl⟩
  rw [← ht]
  rw [Int.toNat_natCast] at ht
  have hln := many_len (goes_rU s) n (A1, e1) g2
  rw [← ht] at hln
  dsimp only at hln ⊢
  refine RR [] .z (.i 6 (.int .i64 (↑n : Int)) (.d (.d (.k .a)))) (.i (.blk r 184 [.bool true, .string (mkS s), .int .i64 (↑A1 : Int), .int .i64 e1]) .z) ?_
  refine RZ (NT (BK ?_))
  refine wpc_loop (X := {x : Nat × Option Addr × Nat × List UnV × Nat × Int // x.1 ≤ n ∧ x.2.2.2.2.1 ≤ s.length ∧ L = x.2.2.2.1.map UnV.p ++ (rMany (rU s) x.1 x.2.2.2.2).1 ∧ (A9, e9) = (rMany (rU s) x.1 x.2.2.2.2).2}) (fun x => St.mk [(6, .int .i64 (x.1.1 : Int)), (5, .slice x.1.2.1 x.1.2.2.2.1.length x.1.2.2.1), (4, .slice none 0 0), (0, .pointer (some ⟨r, 0, none⟩)), (1, .func (.func 63) #[] #[])]
    [row 59 7 x.1.2.1 x.1.2.2.2.1.length x.1.2.2.1 (x.1.2.2.2.1.flatMap unC), star (x.1.2.2.2.1.flatMap unRows), rdr r s x.1.2.2.2.2.1 x.1.2.2.2.2.2]) (fun x => x.1.1) ⟨(n, none, 0, [], A1, e1), Nat.le_refl _, g2, by rw [← ht]; rfl, by rw [← ht]⟩ ?_ ?_
  · exact Ent.trans ent_star_nil (Ent.trans (ent_nil 59 7) (ent_fr (by kernel_rfl)))
  rintro ⟨⟨k, a1, c1, l1, A2, e2⟩, hkn, hA2, hL, hp⟩
  dsimp only at hkn hA2 hL hp ⊢
  have hll : l1.length ≤ 1048576 := by
    have := congrArg List.length hL
    rw [List.length_append, List.length_map] at this
    omega
  cases k with
  | zero =>
    rw [show rMany (rU s) 0 (A2, e2) = ([], A2, e2) from rfl] at hL hp
    cases hp
    rw [List.append_nil] at hL
    subst hL
    refine SQ (SQ (RG ?_))
    refine RR [] .z (.i 15 (.bool false) (.i 6 (.int .i64 0) (.d (.k .a)))) (.k (.k (.i (.blk r 184 [.bool true, .string (mkS s), .int .i64 (↑A9 : Int), .int .i64 e9]) .z))) ?_
    refine RZ (NT (CF (EX (TE (TE (BH (NT (SQ (RG ?_)))))))))
    refine RR [] .z (.i 4 (.slice a1 l1.length c1) .z) .a ?_
    refine RZ (NT (RE ?_))
    refine NE [0, 0, 0] .a .z [] (.slice a1 l1.length c1) ?_
    exact ⟨a1, c1, l1, rfl, rfl, rfl⟩
  | succ k =>
    by_cases he : e2 = 0
    · subst he
      rw [rMany_succ _ _ _ rfl] at hL hp
      have hg := goes_rU s (A2, 0) hA2
      refine SQ (SQ (RG ?_))
      refine RR [] (.d (.d (.d .a))) (.i 11 (.bool (decide ((↑(k + (1 : Nat)) : Int) > (0 : Int)))) .a) (.k (.k (.i (.blk r 184 [.bool true, .string (mkS s), .int .i64 (↑A2 : Int), .int .i64 0]) .z))) ?_
      refine SR 11 (decide ((↑(k + (1 : Nat)) : Int) > (0 : Int))) true (by simp) ?_
      refine RR [] (.d .a) (.i 12 (.pointer (some ⟨r, 0, none⟩)) (.k (.d (.k .a)))) .a ?_
      refine RC (dst := some 13) [2] (.k (.k .z)) (Err_spec r s A2 0) ?_
      rintro v _ ⟨rfl, rfl⟩
      refine RR [] .z (.i 15 (.bool true) (.d (.d (.d (.k .a))))) (.i (.blk r 184 [.bool true, .string (mkS s), .int .i64 (↑A2 : Int), .int .i64 0]) (.d (.k .a))) ?_
      refine RZ (NT (CT (SK (NT (SQ (BK (RG ?_)))))))
      refine RR [] (.d (.d (.d .a))) (.i 20 (.pointer (some ⟨r, 0, none⟩)) (.i 19 (Value.func (Fn.func 63) #[] #[]) (.i 18 (.slice a1 l1.length c1) (.d (.k .a))))) .a ?_
      refine wpr_callv (dst := some 21) (rest := [row 59 7 a1 l1.length c1 (List.flatMap unC l1), star (List.flatMap unRows l1)]) (first := (#[])) (caps := (#[])) (args := [.pointer (some ⟨r, 0, none⟩)]) (f := 63) (by kernel_rfl) (by kernel_rfl) (readU_spec r A2 s 0 hA2 hl) (give [0] (by kernel_rfl)) ?_
      rintro v _ ⟨o, ho, rfl, rfl⟩
      rw [show unRows o = [row 62 2 o.ia o.ins.length o.ic (o.ins.flatMap insC), row 116 4 o.va o.vars.length o.vc (o.vars.flatMap varC)] from rfl]
      obtain ⟨⟨v, A3, e3⟩, hv⟩ : ∃ x, x = rU s (A2, 0) := ⟨_, rfl⟩
      rw [← hv] at hg hL hp ho ⊢
      dsimp only at hg hL hp ho ⊢
      refine RN [] (.d .a) 22 (fun g3 => (.slice (some ⟨g3, 0, none⟩) 1 1)) (.d (.d (.d (.k .a)))) (.i (.blk r 184 [.bool true, .string (mkS s), .int .i64 (↑A3 : Int), .int .i64 e3]) (.d (.k .a))) 59 [.string (mkS o.name), .int .i64 o.params, .int .i64 o.slots, .int .i64 o.stack, .bool o.result, .slice o.ia o.ins.length o.ic, .slice o.va o.vars.length o.vc] fun g3 => ?_
      refine wpr_ent (ent_turn 5 (ro (some ⟨g3, 0, none⟩) (unC o)) rfl (turn_rblk (un1 _)) rfl) ?_
      refine wpr_app (a := a1) (n := l1.length) (cap := c1) (x := (.slice (some ⟨g3, 0, none⟩) 1 1)) (t := 24) (xt := 24) (dst := some 23) (by kernel_rfl) (e := 59) (sz := 7) (bytes := 96) (by kernel_rfl) 3 (xs := (List.flatMap unC l1)) (by kernel_rfl) (m := 1) (news := (unC o)) (fun w h => src_ro h 5 rfl rfl (fun e => by cases e)) (by unfold maxLen; omega) (by omega) ?_
      intro a3 c3 hn3
      rw [show l1.flatMap unC ++ unC o = (l1 ++ [o]).flatMap unC by simp, show l1.length + 1 = (l1 ++ [o]).length by simp]
      refine RR [] .z (.i 5 (.slice a3 (l1 ++ [o]).length c3) (.d (.d (.d (.k (.d (.k .a))))))) .a ?_
      refine RZ (BN (NT (RG ?_)))
      refine RV true [] .z (.i 6 (.int .i64 ((↑(k + 1) : Int) - 1)) (.k (.d (.k .a)))) .a ([inI64 ((↑(k + (1 : Nat)) : Int) - (1 : Int))]) ⟨by unfold inI64; omega, trivial⟩ ?_
      refine RZ ?_
      refine nx_ent (Ent.trans (ent_hp [4, 1, 1, 0, 0] rfl) (Ent.trans (ent_star_snoc trivial) (ent_star_snoc trivial))) ?_
      rw [show l1.flatMap unRows ++ [row 62 2 o.ia o.ins.length o.ic (o.ins.flatMap insC)] ++ [row 116 4 o.va o.vars.length o.vc (o.vars.flatMap varC)] = (l1 ++ [o]).flatMap unRows by simp [unRows]]
      rw [show ((k + 1 : Nat) : Int) - 1 = (k : Int) from by omega]
      exact fun a' w' hS' => ⟨⟨(k, a3, c3, l1 ++ [o], A3, e3), by dsimp only; omega, hg.2.1, by rw [hL, List.map_append, List.append_assoc, ← ho]; rfl, hp⟩, by dsimp only; omega, ent_fr (by kernel_rfl) _ _ (ent_hp [2, 0, 0] rfl _ _ hS')⟩
    · rw [rMany_nil _ _ _ he] at hL hp
      cases hp
      rw [List.append_nil] at hL
      subst hL
      refine SQ (SQ (RG ?_))
      refine RR [] (.d (.d (.d .a))) (.i 11 (.bool (decide ((↑(k + (1 : Nat)) : Int) > (0 : Int)))) .a) (.k (.k (.i (.blk r 184 [.bool true, .string (mkS s), .int .i64 (↑A9 : Int), .int .i64 e9]) .z))) ?_
      refine SR 11 (decide ((↑(k + (1 : Nat)) : Int) > (0 : Int))) true (by simp) ?_
      refine RR [] (.d .a) (.i 12 (.pointer (some ⟨r, 0, none⟩)) (.k (.d (.k .a)))) .a ?_
      refine RC (dst := some 13) [2] (.k (.k .z)) (Err_spec r s A9 e9) ?_
      rintro v _ ⟨rfl, rfl⟩
      refine RR [] .z (.i 15 (.bool (e9 == (0 : Int))) (.d (.d (.d (.k .a))))) (.i (.blk r 184 [.bool true, .string (mkS s), .int .i64 (↑A9 : Int), .int .i64 e9]) (.d (.k .a))) ?_
      refine RZ (NT ?_)
      refine SC 15 (e9 == (0 : Int)) false (by simp only [bne_eq_false_iff_eq, beq_eq_false_iff_ne, ne_eq]; omega) ?_
      refine CF (EX (TE (TE (BH (NT (SQ (RG ?_)))))))
      refine RR [] .z (.i 4 (.slice a1 l1.length c1) .z) .a ?_
      refine RZ (NT (RE ?_))
      refine NE [1, 1, 0] (.i (row 59 7 a1 l1.length c1 (List.flatMap unC l1)) (.i (star (List.flatMap unRows l1)) (.k .z))) .z [] (.slice a1 l1.length c1) ?_
      exact ⟨a1, c1, l1, rfl, rfl, rfl⟩
end Go.Proofs.YtgcfomhlgipllaaGreatDoor
namespace Go.Proofs.YtgcfomhlgipllaaGreatDoor
open Go Go.Sx
theorem view_gSh {l : List ShV} : View (star (l.flatMap shRows)) (gSh l) := view_star_sub fun c' hc' => by
  obtain ⟨o, ho, rfl⟩ := List.mem_map.1 hc'
  exact ⟨_, List.mem_flatMap.2 ⟨o, ho, List.mem_cons_self ..⟩, view_row.holds, view_row.own⟩
theorem view_gUn {l : List UnV} : View (star (l.flatMap unRows)) (gUn l) := view_star_sub fun c' hc' => by
  obtain ⟨o, ho, hc'⟩ := List.mem_flatMap.1 hc'
  simp only [unRo, List.mem_cons, List.not_mem_nil, or_false] at hc'
  rcases hc' with rfl | rfl
  · exact ⟨_, List.mem_flatMap.2 ⟨o, ho, List.mem_cons_self ..⟩, view_row.holds, view_row.own⟩
  · exact ⟨_, List.mem_flatMap.2 ⟨o, ho, List.mem_cons_of_mem _ (List.mem_cons_self ..)⟩, view_row.holds, view_row.own⟩
def noCv : CoV := ⟨none, 0, [], none, 0, [], none, 0, [], 0⟩
theorem noCv_ok : noCv.ok := by
  unfold noCv CoV.ok i64r
  exact ⟨Nat.zero_le _, fun x hx => (List.not_mem_nil hx).elim, Nat.zero_le _, fun x hx => (List.not_mem_nil hx).elim, Nat.zero_le _, fun x hx => (List.not_mem_nil hx).elim, by decide, by decide⟩
def coH (c : CoV) : Hp := [row 9 1 c.sa c.strs.length c.sc (strsC c.strs), row 111 2 c.ha c.shapes.length c.hc (c.shapes.flatMap shC), star (c.shapes.flatMap shRows), row 59 7 c.ua c.units.length c.uc (c.units.flatMap unC), star (c.units.flatMap unRows)]
set_option maxHeartbeats 8000000 in
theorem cLoad_spec (a : Option Addr) (c : Nat) (bs : List UInt8) (ha : a = none → bs = []) (hl : bs.length ≤ 34359738368) :
    Does Tryz.prog 26 [.slice a bs.length c] [ro a (u8s bs), gWords] (fun v hp' => ∃ s : CoV, s.p = ldC bs ∧ s.ok ∧ v = .tuple #[.agg (coC s).toArray, .int .i64 (ldE bs)] ∧ hp' = coH s) := by
  refine fn_enter Tryz.func26 rfl 29 rfl fun w0 h0 => ?_
  refine SQ (RG ?_)
  refine RP [] (.d .a) 2 .a .a 26 [.slice none 0 0, .slice none 0 0, .slice none 0 0, .int .i64 0] fun g1 => ?_
  refine RR [] .z (.i 3 (.int .i64 0) .a) .a ?_
  refine RZ (NT (SQ (RG ?_)))
  refine RR [] (.d .a) (.i 7 (.slice a bs.length c) (.k (.k .z))) .a ?_
  refine RCG (dst := some 8) .a (NewReader_spec a c bs ha) (GV (GI []) 0 view_ro) ?_
  rintro v _ ⟨r, rfl, rfl⟩
  refine RR [] .z (.i 4 (.pointer (some ⟨r, 0, none⟩)) (.d (.d (.k .a)))) (.i (.blk r 184 [.bool true, .string (mkS bs), .int .i64 0, .int .i64 0]) (.d (.k .a))) ?_
  refine RZ (NT (SQ (RG ?_)))
  refine RR [] (.d .a) (.i 9 (.pointer (some ⟨r, 0, none⟩)) .a) .a ?_
  have h1 := goes_rows (goes_rTx bs) (0, 0) (Nat.zero_le _)
  refine RC (dst := some 10) [0] (.d (.k .a)) (rowT_spec r 0 bs 0 (Nat.zero_le _) (by omega)) ?_
  rintro v _ ⟨q1, c1, rfl, rfl⟩
  obtain ⟨⟨l1, A1, e1⟩, hx1⟩ : ∃ x, x = rRows bs (rTx bs) (0, 0) := ⟨_, rfl⟩
  rw [← hx1] at h1 ⊢
  dsimp only at h1 ⊢
  refine RR [] (.d .a) (.i 11 (.pointer (some ⟨r, 0, none⟩)) (.k (.d (.k .a)))) (.k (.i (.blk r 184 [.bool true, .string (mkS bs), .int .i64 (↑A1 : Int), .int .i64 e1]) (.d (.k .a)))) ?_
  have h2 := goes_rows (goes_rSh bs) (A1, e1) h1.2.1
  refine RC (dst := some 12) [1] (.k (.d (.k .a))) (rowSh_spec r A1 bs e1 h1.2.1 (by omega)) ?_
  rintro v _ ⟨q2, c2, l2, hl2, rfl, rfl⟩
  obtain ⟨⟨L2, A2, e2⟩, hx2⟩ : ∃ x, x = rRows bs (rSh bs) (A1, e1) := ⟨_, rfl⟩
  rw [← hx2] at h2 hl2 ⊢
  dsimp only at h2 hl2 ⊢
  refine RR [] (.d .a) (.i 13 (.pointer (some ⟨r, 0, none⟩)) (.k (.d (.k .a)))) (.k (.k (.i (.blk r 184 [.bool true, .string (mkS bs), .int .i64 (↑A2 : Int), .int .i64 e2]) (.d (.k .a))))) ?_
  have h3 := goes_rows (goes_rU bs) (A2, e2) h2.2.1
  refine RC (dst := some 14) [2] (.k (.k (.d (.k .a)))) (rowU_spec r A2 bs e2 h2.2.1 (by omega)) ?_
  rintro v _ ⟨q3, c3, l3, hl3, rfl, rfl⟩
  obtain ⟨⟨L3, A3, e3⟩, hx3⟩ : ∃ x, x = rRows bs (rU bs) (A2, e2) := ⟨_, rfl⟩
  rw [← hx3] at h3 hl3 ⊢
  dsimp only at h3 hl3 ⊢
  refine RR [] (.d .a) (.i 15 (.pointer (some ⟨r, 0, none⟩)) (.k (.d (.k .a)))) (.k (.k (.i (.blk r 184 [.bool true, .string (mkS bs), .int .i64 (↑A3 : Int), .int .i64 e3]) (.d (.k .a))))) ?_
  have h4 := goes_rI bs (A3, e3) h3.2.1
  refine RC (dst := some 16) [2] (.k (.k (.d (.k .a)))) (Int_spec r A3 bs e3 h3.2.1 (by omega)) ?_
  rintro v _ ⟨rfl, rfl⟩
  obtain ⟨⟨m, A4, e4⟩, hx4⟩ : ∃ x, x = rI bs (A3, e3) := ⟨_, rfl⟩
  have hy4 : rd 0 A3 e3 (num (bs.drop A3)) = (m, A4, e4) := hx4.symm
  rw [← hx4] at h4
  rw [hy4]
  dsimp only at h4 ⊢
  refine RP [] (.d (.d .a)) 5 (.i 17 (.agg #[.slice q1 l1.length c1, .slice q2 l2.length c2, .slice q3 l3.length c3, .int .i64 m]) (.d (.d (.d (.d (.d (.k .a))))))) (.i (.blk r 184 [.bool true, .string (mkS bs), .int .i64 (↑A4 : Int), .int .i64 e4]) (.d (.k .a))) 26 [.slice none 0 0, .slice none 0 0, .slice none 0 0, .int .i64 0] fun g2 => ?_
  refine RR [9, 9, 9, 9] .z (.k (.d (.k .a))) (.k (.k (.k (.k (.k (.k (.k (.k (.k (.u (.i (.slice q1 l1.length c1) (.i (.slice q2 l2.length c2) (.i (.slice q3 l3.length c3) (.i (.int .i64 m) .z)))) .a)))))))))) ?_
  refine RZ (NT (SQ (SQ (RG ?_))))
  refine RR [] (.d .a) (.i 18 (.pointer (some ⟨r, 0, none⟩)) (.k (.d (.k .a)))) .a ?_
  refine RC (dst := some 19) [0] (.d (.k .a)) (End_spec r bs A4 e4) ?_
  rintro v _ ⟨rfl, rfl⟩
  refine RR [] .z (.i 6 (.int .i64 (endE bs (↑A4 : Int) e4)) (.d (.d (.k .a)))) (.i (.blk r 184 [.bool true, .string (mkS bs), .int .i64 (↑A4 : Int), .int .i64 e4]) (.d (.k .a))) ?_
  refine RZ (NT (SQ (RG ?_)))
  refine RR [] .z (.i 21 (.bool (endE bs (↑A4 : Int) e4 != (0 : Int))) .a) .a ?_
  refine RZ (NT ?_)
  have hS : rCo bs (0, 0) = (⟨l1, L2, L3, m⟩, A4, e4) := by
    unfold rCo rTs
    rw [← hx1]; dsimp only
    rw [← hx2]; dsimp only
    rw [← hx3]; dsimp only
    rw [← hx4]
  have hP : CoV.p ⟨q1, c1, l1, q2, c2, l2, q3, c3, l3, m⟩ = ⟨l1, L2, L3, m⟩ := by unfold CoV.p; dsimp only; rw [hl2, hl3]
  have hok : CoV.ok ⟨q1, c1, l1, q2, c2, l2, q3, c3, l3, m⟩ := co_ok (s := bs) (p := (0, 0)) (by rw [hP, hS])
  obtain ⟨E, hE⟩ : ∃ E, E = endE bs A4 e4 := ⟨_, rfl⟩
  have hLE : ldE bs = if E ≠ 0 then E else if rightC ⟨l1, L2, L3, m⟩ then 0 else 2 := by unfold ldE; rw [hS, hE]
  rw [← hE]
  by_cases hE0 : E ≠ 0
  · rw [if_pos hE0] at hLE
    rw [hLE, ldC_bad (by rw [hLE]; exact hE0)]
    refine SC 21 (E != (0 : Int)) true (by simp only [bne_iff_ne, beq_iff_eq, ne_eq]; omega) ?_
    refine CT (SQ (RG ?_))
    refine RR [8, 8, 8, 8] .z (.i 3 (.int .i64 E) (.d (.d (.d (.k (.d (.k .a))))))) .a ?_
    refine RZ (NT (RE (TR ?_)))
    refine nx_ent (Ent.trans ent_star_nil (Ent.trans (ent_nil 59 7) (Ent.trans ent_star_nil (Ent.trans (ent_nil 111 2) (ent_nil 9 1))))) ?_
    refine NE [0, 0, 0, 0, 0] (.k (.k (.k (.k (.k .z))))) (.d (.d (.d (.d (.d (.k .a)))))) [13, 13, 13, 13] (.tuple #[.agg #[.slice none 0 0, .slice none 0 0, .slice none 0 0, .int .i64 0], .int .i64 E]) ?_
    exact ⟨noCv, rfl, noCv_ok, rfl, rfl⟩
  · rw [if_neg hE0] at hLE
    have hE1 := Classical.not_not.1 hE0
    subst hE1
    have hck := right_spec _ hok
    rw [show coC ⟨q1, c1, l1, q2, c2, l2, q3, c3, l3, m⟩ = [.slice q1 l1.length c1, .slice q2 l2.length c2, .slice q3 l3.length c3, .int .i64 m] from rfl, hP] at hck
    unfold coHp at hck
    dsimp only at hck
    refine CF (SK (NT (SQ (SQ (RG ?_)))))
    refine RR [9, 9, 9, 9] (.d .a) (.i 24 (.agg #[.slice q1 l1.length c1, .slice q2 l2.length c2, .slice q3 l3.length c3, .int .i64 m]) (.d (.d (.k .a)))) .a ?_
    refine RCG (dst := some 25) .a (hck) (GV (GV (GV (GV (GV (GV (GI []) 7 view_ro) 2 view_gUn) 1 view_row) 4 view_gSh) 3 view_row) 5 view_row) ?_
    rintro v _ ⟨rfl, rfl⟩
    cases hm : rightC ⟨l1, L2, L3, m⟩ with
    | false =>
      rw [hm] at hLE
      rw [hLE, ldC_bad (by rw [hLE]; decide)]
      refine RR [] .z (.i 26 (.bool true) (.d (.d (.k .a)))) .a ?_
      refine RZ (NT (CT (SQ (RG ?_))))
      refine RR [8, 8, 8, 8] .z (.i 3 (.int .i64 2) (.d (.k (.d (.k .a))))) .a ?_
      refine RZ (NT (RE (TR ?_)))
      refine nx_ent (Ent.trans ent_star_nil (Ent.trans (ent_nil 59 7) (Ent.trans ent_star_nil (Ent.trans (ent_nil 111 2) (ent_nil 9 1))))) ?_
      refine NE [0, 0, 0, 0, 0] (.k (.k (.k (.k (.k .z))))) (.d (.d (.d (.d (.d (.k .a)))))) [13, 13, 13, 13] (.tuple #[.agg #[.slice none 0 0, .slice none 0 0, .slice none 0 0, .int .i64 0], .int .i64 2]) ?_
      exact ⟨noCv, rfl, noCv_ok, rfl, rfl⟩
    | true =>
      rw [hm] at hLE
      have hLS : ldC bs = ⟨l1, L2, L3, m⟩ := by unfold ldC; rw [hLE, hS]; rfl
      rw [hLE, hLS]
      refine RR [] .z (.i 26 (.bool false) (.d (.d (.k .a)))) .a ?_
      refine RZ (NT (CF (SK (NT (SQ (RG ?_))))))
      refine RR [9, 9, 9, 9, 8, 8, 8, 8] .z (.d (.d (.k .a))) (.k (.k (.k (.k (.k (.k (.k (.k (.u (.i (.slice q1 l1.length c1) (.i (.slice q2 l2.length c2) (.i (.slice q3 l3.length c3) (.i (.int .i64 m) .z)))) .a))))))))) ?_
      refine RZ (NT (RE ?_))
      refine NE [5, 3, 3, 1, 1] (.i (row 9 1 q1 l1.length c1 (strsC l1)) (.i (row 111 2 q2 l2.length c2 (List.flatMap shC l2)) (.i (star (List.flatMap shRows l2)) (.d (.k (.k .z)))))) (.k (.d (.d (.d (.d (.d (.k .a))))))) [8, 8, 8, 8] (.tuple #[.agg #[.slice q1 l1.length c1, .slice q2 l2.length c2, .slice q3 l3.length c3, .int .i64 m], .int .i64 0]) ?_
      exact ⟨⟨q1, c1, l1, q2, c2, l2, q3, c3, l3, m⟩, hP, hok, rfl, rfl⟩
end Go.Proofs.YtgcfomhlgipllaaGreatDoor
namespace Go.Proofs.YtgcfomhlgipllaaGreatDoor
open Go Go.Sx
theorem light_spec (c : CoV) (hc : c.ok) : Does Tryz.prog 14 [.agg (coC c).toArray] (coHp c) (fun r hp' => ∃ b, r = .bool b ∧ hp' = []) := by
  obtain ⟨hs1, hs2, hh1, hh2, hu1, hu2, hm⟩ := hc
  rw [show coC c = [.slice c.sa c.strs.length c.sc, .slice c.ha c.shapes.length c.hc, .slice c.ua c.units.length c.uc, .int .i64 c.main] from rfl]
  unfold coHp
  refine fn_enter Tryz.func14 rfl 46 rfl fun w0 h0 => ?_
  refine SQ (RG ?_)
  refine RP [] (.d .a) 1 .z .a 26 [.slice c.sa c.strs.length c.sc, .slice c.ha c.shapes.length c.hc, .slice c.ua c.units.length c.uc, .int .i64 c.main] fun g1 => ?_
  refine RR [] .z (.i 2 (.bool false) .a) .a ?_
  refine RZ (NT (SQ (RG ?_)))
  refine RV true [5, 5, 5] .z (.i 3 (.int .i64 ((↑c.strs.length : Int) + (↑c.shapes.length : Int) + (↑c.units.length : Int))) .a) .a ([inI64 ((↑c.strs.length : Int) + (↑c.shapes.length : Int)), inI64 ((↑c.strs.length : Int) + (↑c.shapes.length : Int) + (↑c.units.length : Int))]) ⟨by unfold inI64; omega, by unfold inI64; omega, trivial⟩ ?_
  refine RZ (NT (SQ (SQ (RG ?_))))
  refine RR [] .z (.i 4 (.int .i64 0) .a) .a ?_
  refine RZ (NT (BK ?_))
  obtain ⟨n0, hn0, hn1⟩ : ∃ n0 : Int, (c.strs.length : Int) + c.shapes.length + c.units.length = n0 ∧ 0 ≤ n0 ∧ n0 ≤ 6300000 := ⟨c.strs.length + c.shapes.length + c.units.length, rfl, by omega, by omega⟩
  rw [hn0]
  refine wpc_loop (X := {x : Nat × Int // x.1 ≤ c.units.length ∧ 0 ≤ x.2 ∧ x.2 ≤ 6300000}) (fun x => St.mk [(4, .int .i64 (x.1.1 : Int)), (3, .int .i64 x.1.2), (2, .bool false), (1, .pointer (some ⟨g1, 0, none⟩))] [ro c.ua (c.units.flatMap unC), gUn c.units, .blk g1 26 [.slice c.sa c.strs.length c.sc, .slice c.ha c.shapes.length c.hc, .slice c.ua c.units.length c.uc, .int .i64 c.main]]) (fun x => c.units.length - x.1.1) ⟨(0, n0), Nat.zero_le _, hn1⟩ (Ent.trans (ent_hp [3, 3, 3] rfl) (ent_fr (by kernel_rfl))) ?_
  rintro ⟨⟨i, n⟩, hi, hn⟩
  dsimp only at hi hn ⊢
  by_cases hlt : i < c.units.length ∧ n < 3000
  · obtain ⟨hlt, h5⟩ := hlt
    obtain ⟨-, -, -, -, x1, x2, -, -⟩ := hu2 _ (List.getElem_mem hlt)
    refine wpc_fact (fun w h => ro_addr h 0 rfl (by rw [uns_len]; omega)) ?_
    rintro ⟨g0, o0, hca⟩
    rw [hca]
    refine SQ (SQ (RG ?_))
    refine RR [2] (.d (.d (.d (.d (.d (.d .a)))))) (.i 21 (.bool (decide ((↑i : Int) < (↑c.units.length : Int)))) .a) .a ?_
    refine SR 21 (decide ((↑i : Int) < (↑c.units.length : Int))) true (decide_eq_true (by omega)) ?_
    refine RR [] .z (.i 24 (.bool (decide (n < (3000 : Int)))) (.d (.d (.k .a)))) .a ?_
    refine RZ (NT ?_)
    refine SC 24 (decide (n < (3000 : Int))) true (decide_eq_true (by omega)) ?_
    refine CT (SK (NT (SQ (BK ?_))))
    refine wpc_draw (by kernel_rfl) [ro (some ⟨g0, o0, none⟩) (List.flatMap unC c.units), .blk g1 26 [.slice c.sa c.strs.length c.sc, .slice c.ha c.shapes.length c.hc, .slice (some ⟨g0, o0, none⟩) c.units.length c.uc, .int .i64 c.main]] (sub_of [0, 2] (by kernel_rfl)) 18 (by kernel_rfl) ?_
    refine wpa_take true [(0, []), (1, []), (2, [1]), (3, []), (4, []), (5, []), (9, []), (10, [1]), (11, []), (12, []), (13, [])] ([(40, .pointer (some ⟨g0, o0 + i * 7 + 6, none⟩)), (32, .pointer (some ⟨g0, o0 + i * 7 + 5, none⟩)), (27, .int .i64 n), (4, .int .i64 (↑i : Int)), (3, .int .i64 n), (2, .bool false), (1, .pointer (some ⟨g1, 0, none⟩))]) (#[true, true, true, true, true, true, false, false, false, true, true, true, true, true, false, false, false, false]) [(0 : Int) ≤ (↑i : Int) ∧ (↑i : Int) < (↑c.units.length : Int), (0 : Int) ≤ (↑i : Int) ∧ (↑i : Int) < (↑c.units.length : Int)] (n := 7) (by kernel_rfl) (by kernel_rfl) (by kernel_rfl) ⟨by omega, by omega, trivial⟩ ?_
    refine wpa_qld (i := 6) (n := 6) (by kernel_rfl) (by kernel_rfl) (by kernel_rfl) (t := 56) (a := ⟨g0, o0 + i * 7 + 5, none⟩) (dst := some 33) (by kernel_rfl) false 1 (by kernel_rfl) (by simp) [.slice c.units[i].ia c.units[i].ins.length c.units[i].ic] rfl (fun w h => ld_roL h 0 rfl (i * 7 + 5) (uns_fld hlt 5 1 (by decide))) ?_
    refine wpa_qld (i := 14) (n := 5) (by kernel_rfl) (by kernel_rfl) (by kernel_rfl) (t := 57) (a := ⟨g0, o0 + i * 7 + 6, none⟩) (dst := some 41) (by kernel_rfl) false 1 (by kernel_rfl) (by simp) [.slice c.units[i].va c.units[i].vars.length c.units[i].vc] rfl (fun w h => ld_roL h 0 rfl (i * 7 + 6) (uns_fld hlt 6 1 (by decide))) ?_
    refine wpa_take true [(7, []), (8, []), (15, []), (16, []), (17, [])] ([(3, .int .i64 (n + (↑c.units[i].ins.length : Int) + (↑c.units[i].vars.length : Int))), (4, .int .i64 (↑i : Int)), (2, .bool false), (1, .pointer (some ⟨g1, 0, none⟩))]) (#[true, true, true, true, true, true, true, true, true, true, true, true, true, true, true, true, true, true]) ([inI64 (n + (↑c.units[i].ins.length : Int)), inI64 (n + (↑c.units[i].ins.length : Int) + (↑c.units[i].vars.length : Int))]) (n := 0) (by kernel_rfl) (by kernel_rfl) (by kernel_rfl) ⟨by unfold inI64; omega, by unfold inI64; omega, trivial⟩ ?_
    refine wpa_done 0 (by kernel_rfl) ?_
    refine BN (NT (RG ?_))
    refine RV true [] .z (.i 4 (.int .i64 ((↑i : Int) + 1)) (.k (.d (.k .a)))) .a ([inI64 ((↑i : Int) + (1 : Int))]) ⟨by unfold inI64; omega, trivial⟩ ?_
    refine RZ ?_
    rw [← hca]
    exact fun a' w' hS' => ⟨⟨(i + 1, n + c.units[i].ins.length + c.units[i].vars.length), hlt, by dsimp only; omega, by dsimp only; omega⟩, by dsimp only; omega, ent_fr (by kernel_rfl) _ _ (ent_hp [0, 0, 0] rfl _ _ hS')⟩
  · refine SQ (SQ (RG ?_))
    refine RR [2] (.d (.d (.d (.d (.d (.d .a)))))) (.i 21 (.bool (decide ((↑i : Int) < (↑c.units.length : Int)))) .a) .a ?_
    refine wpr_join ⟨[(24, .bool false), (4, (.int .i64 (↑i : Int))), (3, (.int .i64 n)), (2, (.bool false)), (1, (.pointer (some ⟨g1, 0, none⟩)))], [ro c.ua (List.flatMap unC c.units), gUn c.units, .blk g1 26 [.slice c.sa c.strs.length c.sc, .slice c.ha c.shapes.length c.hc, .slice c.ua c.units.length c.uc, .int .i64 c.main]]⟩ (fun Q1 hQ1 hk => ?_) ?_
    · by_cases h : i < c.units.length
      · have h5 : ¬ n < 3000 := fun h5 => hlt ⟨h, h5⟩
        refine SR 21 (decide ((↑i : Int) < (↑c.units.length : Int))) true (decide_eq_true (by omega)) ?_
        refine RR [] .z (.i 24 (.bool (decide (n < (3000 : Int)))) (.d (.d (.k .a)))) .a ?_
        refine RZ ?_
        rw [decide_eq_false h5]
        exact nx_ent (ent_hp [0, 0, 0] rfl) (nx_ent (ent_fr (by kernel_rfl)) hk)
      · refine SR 21 (decide ((↑i : Int) < (↑c.units.length : Int))) false (decide_eq_false (by omega)) ?_
        refine RR [] .z (.i 24 (.bool false) (.d (.d (.k .a)))) .a ?_
        refine RZ ?_
        exact nx_ent (ent_hp [0, 0, 0] rfl) (nx_ent (ent_fr (by kernel_rfl)) hk)
    · refine NT (CF (EX (TE (TE (BH (NT (SQ (RG ?_))))))))
      refine RR [] .z (.i 2 (.bool (decide (n < (3000 : Int)))) .z) .a ?_
      refine RZ (NT (RE ?_))
      refine NE [] .z .a [] (.bool (decide (n < 3000))) ?_
      exact ⟨_, rfl, rfl⟩
/-! ### the example -/
def exU (gi : Nat) (I : List InP) : UnV := ⟨[109, 97, 105, 110], 0, 0, 1, false, some ⟨gi, 0, none⟩, 4, I, none, 0, []⟩
def exCo (gi gu : Nat) (I : List InP) : CoV := ⟨none, 0, [], none, 0, [], some ⟨gu, 0, none⟩, 1, [exU gi I], 0⟩
def exI : List InP := [(0, 1), (1, 2), (34, 1), (23, 0)]
def baI : List InP := [(0, 1), (1, 2), (6, 1), (23, 0)]
def exUP (I : List InP) : UnitP := ⟨[109, 97, 105, 110], 0, 0, 1, false, I, []⟩
def exP (I : List InP) : CodeP := ⟨[], [], [exUP I], 0⟩
theorem z64 : i64r 0 := ⟨by decide, by decide⟩
theorem o64 : i64r 1 := ⟨by decide, by decide⟩
theorem exCo_p (gi gu : Nat) (I : List InP) : (exCo gi gu I).p = exP I := rfl
theorem exCo_ok (gi gu : Nat) (I : List InP) (hl : I.length = 4) (h : ∀ x ∈ I, InP.ok x) : (exCo gi gu I).ok := by
  refine ⟨Nat.zero_le _, fun x hx => (List.not_mem_nil hx).elim, Nat.zero_le _, fun x hx => (List.not_mem_nil hx).elim, (by show 1 ≤ 1048576; omega), fun x hx => ?_, z64⟩
  rw [List.mem_singleton.1 hx]
  exact ⟨(by show 4 ≤ 1048576; omega), z64, z64, o64, (by show I.length ≤ 1048576; omega), Nat.zero_le _, h, fun v hv => (List.not_mem_nil hv).elim⟩
theorem exI_ok : ∀ x ∈ exI, InP.ok x := by
  intro x hx
  simp only [exI, List.mem_cons, List.not_mem_nil, or_false] at hx
  rcases hx with rfl | rfl | rfl | rfl <;> exact ⟨⟨by decide, by decide⟩, ⟨by decide, by decide⟩⟩
theorem baI_ok : ∀ x ∈ baI, InP.ok x := by
  intro x hx
  simp only [baI, List.mem_cons, List.not_mem_nil, or_false] at hx
  rcases hx with rfl | rfl | rfl | rfl <;> exact ⟨⟨by decide, by decide⟩, ⟨by decide, by decide⟩⟩
theorem ba_form : formB (exP baI) = false := by decide +kernel
theorem ba_right : rightC (exP baI) = false := by unfold rightC; rw [ba_form]; rfl
theorem ex_form : formB (exP exI) = true := by decide +kernel
def exG : Gr := gr (exP exI) (exUP exI)
theorem ex_rinv : RInv exG [0, 0, 1, 0] := by
  have r0 : Reach exG 0 0 := .zero
  have r1 : Reach exG 1 0 := Reach.step (j := 1) r0 (by decide +kernel)
  have r2 : Reach exG 2 1 := Reach.step (j := 2) r1 (by decide +kernel)
  have r3 : Reach exG 3 0 := Reach.step (j := 3) r2 (by decide +kernel)
  refine ⟨rfl, fun k hk h0 => ?_, fun k hk h0 => ?_, rfl⟩
  · have hk : k < 4 := hk
    obtain rfl | rfl | rfl | rfl : k = 0 ∨ k = 1 ∨ k = 2 ∨ k = 3 := by omega
    · exact r0
    · exact r1
    · exact r2
    · exact r3
  · have hk : k < 4 := hk
    obtain rfl | rfl | rfl | rfl : k = 0 ∨ k = 1 ∨ k = 2 ∨ k = 3 := by omega
    · exact absurd (show (0 : Int) ≤ 0 by decide) h0
    · exact absurd (show (0 : Int) ≤ 0 by decide) h0
    · exact absurd (show (0 : Int) ≤ 1 by decide) h0
    · exact absurd (show (0 : Int) ≤ 0 by decide) h0
theorem ex_shut : ∀ k, k < [0, 0, 1, 0].length → Shut exG ([0, 0, 1, 0] : List Int) k := fun k hk v hv h0 => by
  have hk : k < 4 := hk
  obtain rfl | rfl | rfl | rfl : k = 0 ∨ k = 1 ∨ k = 2 ∨ k = 3 := by omega
  all_goals (cases hv; exact ⟨by decide +kernel, by decide +kernel⟩)
theorem ex_fine : fineB exG = true := fineB_t (rinv_fine ex_rinv ex_shut)
theorem ex_hts : htsL exG = [0, 0, 1, 0] := (rinv_hts ex_rinv ex_shut).symm
theorem ex_right : rightC (exP exI) = true := by
  unfold rightC
  rw [ex_form, Bool.true_and]
  show (fineB exG && true) = true
  rw [ex_fine]; rfl
def exL : List Tx := [[102, 110, 32, 109, 97, 105, 110], [48, 32, 109, 97, 114, 107, 32, 49], [49, 32, 105, 110, 116, 32, 50], [50, 32, 112, 114, 105, 110, 116, 32, 49], [51, 32, 114, 101, 116, 117, 114, 110, 32, 48]]
theorem ex_list : listC (exP exI) = exL := by
  have d : ∀ n, n < 10 → Lib.decDigits n = [UInt8.ofNat (48 + n)] := fun n h => by rw [Lib.decDigits, dif_pos h]
  simp [listC, listU, lineI, exP, exUP, exI, exL, bareB, opName, opNames, Lib.itoa, d, List.range_succ]
end Go.Proofs.YtgcfomhlgipllaaGreatDoor
namespace Go.Proofs.YtgcfomhlgipllaaGreatDoor
open Go Go.Sx
theorem rtexts_spec (la : Option Addr) (lc : Nat) (l : List Tx) (hl : l.length ≤ 1048576) (ht : ∀ t ∈ l, okText t) (hB : (encTs l).length ≤ 549755813888) :
    Does Tryz.prog 104 [.slice la l.length lc] [ro la (strsC l)] (fun r hp' => r = .string (mkS (encTs l)) ∧ hp' = []) := by
  have hEl := encR_l encT l
  have hB : (encR encT l).length ≤ 549755813888 := hB
  refine fn_enter Tryz.func104 rfl 22 rfl fun w0 h0 => ?_
  refine SQ (RG ?_)
  refine RR [] .z (.i 2 (.string ⟨#[]⟩) .a) .a ?_
  refine RZ (NT (SQ (RG ?_)))
  refine RR [] (.d (.d .a)) (.i 6 (.int .i64 (↑l.length : Int)) .a) .a ?_
  refine RC (dst := some 7) [] .a (RInt_spec l.length (by omega) (by omega)) ?_
  rintro r _ ⟨rfl, rfl⟩
  obtain ⟨b0, hb0⟩ : ∃ b0, b0 = encI l.length := ⟨_, rfl⟩
  rw [← hb0] at hEl ⊢
  refine RR [] .z (.i 3 (.string (mkS b0)) (.d (.d (.k .a)))) .a ?_
  refine RZ (NT (SQ (SQ (RG ?_))))
  refine RR [] .z (.i 4 (.int .i64 0) .a) .a ?_
  refine RZ (NT (BK ?_))
  refine wpc_loop (X := {i : Nat // i ≤ l.length}) (fun x => St.mk [(4, .int .i64 (x.1 : Int)), (3, .string (mkS (b0 ++ (l.take x.1).flatMap encT))), (2, .string ⟨#[]⟩), (0, .slice la l.length lc)] [ro la (strsC l)]) (fun x => l.length - x.1) ⟨0, Nat.zero_le _⟩ ?_ ?_
  · show Ent _ _ (St.mk [_, (3, .string (mkS (b0 ++ []))), _, _] _)
    rw [List.append_nil]
    exact ent_fr (by kernel_rfl)
  rintro ⟨i, hi⟩
  dsimp only at hi ⊢
  by_cases hlt : i < l.length
  · have hme := flat_take_le encT hlt
    have hti := ht _ (List.getElem_mem hlt)
    unfold okText at hti
    obtain ⟨b2, hb2⟩ : ∃ b2, b2 = b0 ++ (l.take i).flatMap encT := ⟨_, rfl⟩
    have hbl : b2.length = b0.length + ((l.take i).flatMap encT).length := by rw [hb2, List.length_append]
    rw [← hb2]
    refine wpc_fact (fun w h => ro_addr h 0 rfl (by rw [strsC_len]; omega)) ?_
    rintro ⟨g0, o0, rfl⟩
    refine SQ (SQ (RG ?_))
    refine RR [] .z (.i 11 (.bool (decide ((↑i : Int) < (↑l.length : Int)))) .a) .a ?_
    refine RZ (NT ?_)
    refine SC 11 (decide ((↑i : Int) < (↑l.length : Int))) true (decide_eq_true (by omega)) ?_
    refine CT (SK (NT (SQ (BK (RG ?_)))))
    refine RV true [] (.d (.d (.d (.d .a)))) (.i 17 (.pointer (some ⟨g0, o0 + i * 1, none⟩)) (.i 14 (.string (mkS b2)) (.d (.d (.k .a))))) .a [(0 : Int) ≤ (↑i : Int) ∧ (↑i : Int) < (↑l.length : Int)] ⟨by omega, trivial⟩ ?_
    refine wpr_eq (ld (t := 9) (a := ⟨g0, o0 + i * 1, none⟩) (dst := some 18) (by kernel_rfl) false 1 (by kernel_rfl) (by simp) [.string (mkS l[i])] rfl (fun w h => ld_ro h 0 rfl (i * 1) (strs_at hlt))) ?_
    refine RC (dst := some 19) [] .a (RText_spec l[i] (by omega)) ?_
    rintro r _ ⟨rfl, rfl⟩
    refine RV true [] .z (.i 3 (.string (mkS (b2 ++ encT l[i]))) (.d (.d (.d (.d (.k (.d (.k .a)))))))) .a ([b2.length + (encT l[i]).length ≤ (9223372036854775807 : Nat)]) ⟨by omega, trivial⟩ ?_
    refine RZ (BN (NT (RG ?_)))
    refine RV true [] .z (.i 4 (.int .i64 ((↑i : Int) + 1)) (.k (.d (.k .a)))) .a ([inI64 ((↑i : Int) + (1 : Int))]) ⟨by unfold inI64; omega, trivial⟩ ?_
    refine RZ ?_
    rw [show b2 ++ encT l[i] = b0 ++ (l.take (i + 1)).flatMap encT from by rw [hb2, flat_take_succ encT hlt, List.append_assoc]]
    exact fun a' w' hS' => ⟨⟨i + 1, hlt⟩, by dsimp only; omega, ent_fr (by kernel_rfl) _ _ (ent_hp [0] rfl _ _ hS')⟩
  · obtain rfl : i = l.length := by omega
    refine SQ (SQ (RG ?_))
    refine RR [] .z (.i 11 (.bool (decide ((↑l.length : Int) < (↑l.length : Int)))) .a) .a ?_
    refine RZ (NT ?_)
    refine SC 11 (decide ((↑l.length : Int) < (↑l.length : Int))) false (by simp) ?_
    refine CF (EX (TE (TE (BH (NT (SQ (RG ?_)))))))
    refine RR [] .z (.i 2 (.string (mkS (b0 ++ List.flatMap encT (List.take l.length l)))) .z) .a ?_
    refine RZ (NT (RE ?_))
    refine NE [] .z .a [] (.string (mkS (b0 ++ List.flatMap encT (List.take l.length l)))) ?_
    exact ⟨by rw [List.take_length, hb0]; rfl, rfl⟩
set_option maxHeartbeats 16000000 in
theorem rput_spec (c : CoV) (hc : c.ok) (hB : (encCo c.p).length ≤ 549755813888) : Does Tryz.prog 50 [.agg (coC c).toArray] (coHp c) (fun r hp' => r = .string (mkS (encCo c.p)) ∧ hp' = []) := by
  obtain ⟨hs1, hs2, hh1, hh2, hu1, hu2, hm0, hm1⟩ := id hc
  have hCo : coC c = [.slice c.sa c.strs.length c.sc, .slice c.ha c.shapes.length c.hc, .slice c.ua c.units.length c.uc, .int .i64 c.main] := rfl
  rw [hCo]
  unfold coHp
  have hE0 : (encCo c.p).length = (encTs c.strs).length + (encR encSh (c.shapes.map ShV.p)).length + (encR encU (c.units.map UnV.p)).length + (encI c.main).length := by
    unfold encCo CoV.p; simp only [List.length_append]
  have hE1 := encR_l encSh (c.shapes.map ShV.p)
  have hE2 := encR_l encU (c.units.map UnV.p)
  rw [List.length_map] at hE1 hE2
  refine fn_enter Tryz.func50 rfl 150 rfl fun w0 h0 => ?_
  refine SQ (RG ?_)
  refine RP [] (.d .a) 1 .z .a 26 [.slice c.sa c.strs.length c.sc, .slice c.ha c.shapes.length c.hc, .slice c.ua c.units.length c.uc, .int .i64 c.main] fun g1 => ?_
  refine RR [] .z (.i 2 (.string ⟨#[]⟩) .a) .a ?_
  refine RZ (NT (SQ ?_))
  refine wpc_draw (by kernel_rfl) [ro c.sa (strsC c.strs), ro c.ha (List.flatMap shC c.shapes), .blk g1 26 [.slice c.sa c.strs.length c.sc, .slice c.ha c.shapes.length c.hc, .slice c.ua c.units.length c.uc, .int .i64 c.main]] (sub_of [0, 1, 5] (by kernel_rfl)) 9 (by kernel_rfl) ?_
  refine TK 4 [(0, []), (1, [2]), (3, []), (4, [2]), (5, [])] (.i 15 (.int .i64 (↑c.shapes.length : Int)) (.i 11 (.slice c.sa c.strs.length c.sc) .a)) (#[true, true, false, true, true, true, false, false, false]) ?_
  refine AC (dst := some 12) 3 2 .a (rtexts_spec c.sa c.sc c.strs hs1 hs2 (by omega)) (GV (GI []) 0 view_ro) [0, 1, 5] ?_
  rintro r _ ⟨rfl, rfl⟩
  refine AC (dst := some 16) 2 6 .a (RInt_spec c.shapes.length (by omega) (by omega)) (GI []) [0, 1, 5] ?_
  rintro r _ ⟨rfl, rfl⟩
  refine wpa_take true [(7, []), (8, [])] ([(3, .string (mkS (encTs c.strs ++ encI (↑c.shapes.length : Int)))), (2, .string ⟨#[]⟩), (1, .pointer (some ⟨g1, 0, none⟩))]) (#[true, true, true, true, true, true, true, true, true]) ([(encTs c.strs).length + (encI (↑c.shapes.length : Int)).length ≤ (9223372036854775807 : Nat)]) (n := 0) (by kernel_rfl) (by kernel_rfl) (by kernel_rfl) ⟨by omega, trivial⟩ ?_
  refine wpa_done 0 (by kernel_rfl) ?_
  refine NT (SQ (SQ (RG ?_)))
  refine RR [] .z (.i 4 (.int .i64 0) .a) .a ?_
  refine RZ (NT (BK ?_))
  obtain ⟨b1, hb1⟩ : ∃ b, b = encTs c.strs ++ encI c.shapes.length := ⟨_, rfl⟩
  have hbl1 : b1.length = (encTs c.strs).length + (encI c.shapes.length).length := by rw [hb1, List.length_append]
  rw [← hb1]
  refine wpc_loop (X := {i : Nat // i ≤ c.shapes.length}) (fun x => St.mk [(4, .int .i64 (x.1 : Int)), (3, .string (mkS (b1 ++ ((c.shapes.map ShV.p).take x.1).flatMap encSh))), (2, .string ⟨#[]⟩), (1, .pointer (some ⟨g1, 0, none⟩))] [ro c.ha (c.shapes.flatMap shC), gSh c.shapes, ro c.ua (c.units.flatMap unC), gUn c.units, .blk g1 26 [.slice c.sa c.strs.length c.sc, .slice c.ha c.shapes.length c.hc, .slice c.ua c.units.length c.uc, .int .i64 c.main]]) (fun x => c.shapes.length - x.1) ⟨0, Nat.zero_le _⟩ ?_ ?_
  · show Ent _ _ (St.mk [_, (3, .string (mkS (b1 ++ []))), _, _] _)
    rw [List.append_nil]
    exact Ent.trans (ent_hp [1, 1, 1, 1, 1] rfl) (ent_fr (by kernel_rfl))
  rintro ⟨i, hi⟩
  dsimp only at hi ⊢
  by_cases hlt : i < c.shapes.length
  · have hme := mp_take_le ShV.p encSh hlt
    obtain ⟨b2, hb2⟩ : ∃ b2, b2 = b1 ++ ((c.shapes.map ShV.p).take i).flatMap encSh := ⟨_, rfl⟩
    have hbl : b2.length = b1.length + (((c.shapes.map ShV.p).take i).flatMap encSh).length := by rw [hb2, List.length_append]
    have hxl : (encSh c.shapes[i].p).length = (encT c.shapes[i].name).length + (encTs c.shapes[i].fields).length := by unfold encSh ShV.p; rw [List.length_append]
    rw [← hb2]
    obtain ⟨x1, x2, x3⟩ := hh2 _ (List.getElem_mem hlt)
    unfold okText at x1
    refine wpc_fact (fun w h => ro_addr h 0 rfl (by rw [shs_len]; omega)) ?_
    rintro ⟨g0, o0, hha⟩
    rw [hha]
    refine SQ (SQ (RG ?_))
    refine RR [4] .z (.i 22 (.bool (decide ((↑i : Int) < (↑c.shapes.length : Int)))) .a) .a ?_
    refine RZ (NT ?_)
    refine SC 22 (decide ((↑i : Int) < (↑c.shapes.length : Int))) true (decide_eq_true (by omega)) ?_
    refine CT (SK (NT (SQ (BK ?_))))
    refine wpc_draw (by kernel_rfl) [ro (some ⟨g0, o0, none⟩) (List.flatMap shC c.shapes), .blk g1 26 [.slice c.sa c.strs.length c.sc, .slice (some ⟨g0, o0, none⟩) c.shapes.length c.hc, .slice c.ua c.units.length c.uc, .int .i64 c.main]] (sub_of [0, 4] (by kernel_rfl)) 18 (by kernel_rfl) ?_
    refine wpa_take true [(0, []), (1, []), (2, [1]), (3, []), (4, []), (5, []), (9, []), (10, [1]), (11, []), (12, []), (13, [])] ([(38, .pointer (some ⟨g0, o0 + i * 2 + 1, none⟩)), (30, .pointer (some ⟨g0, o0 + i * 2, none⟩)), (25, .string (mkS b2)), (4, .int .i64 (↑i : Int)), (3, .string (mkS b2)), (2, .string ⟨#[]⟩), (1, .pointer (some ⟨g1, 0, none⟩))]) (#[true, true, true, true, true, true, false, false, false, true, true, true, true, true, false, false, false, false]) [(0 : Int) ≤ (↑i : Int) ∧ (↑i : Int) < (↑c.shapes.length : Int), (0 : Int) ≤ (↑i : Int) ∧ (↑i : Int) < (↑c.shapes.length : Int)] (n := 7) (by kernel_rfl) (by kernel_rfl) (by kernel_rfl) ⟨by omega, by omega, trivial⟩ ?_
    refine wpa_qld (i := 6) (n := 6) (by kernel_rfl) (by kernel_rfl) (by kernel_rfl) (t := 9) (a := ⟨g0, o0 + i * 2, none⟩) (dst := some 31) (by kernel_rfl) false 1 (by kernel_rfl) (by simp) [.string (mkS c.shapes[i].name)] rfl (fun w h => ld_roL h 0 rfl (i * 2) (shs_fld hlt 0 1 (by decide))) ?_
    refine wpa_qld (i := 14) (n := 5) (by kernel_rfl) (by kernel_rfl) (by kernel_rfl) (t := 22) (a := ⟨g0, o0 + i * 2 + 1, none⟩) (dst := some 39) (by kernel_rfl) false 1 (by kernel_rfl) (by simp) [.slice c.shapes[i].fa c.shapes[i].fields.length c.shapes[i].fc] rfl (fun w h => ld_roL h 0 rfl (i * 2 + 1) (shs_fld hlt 1 1 (by decide))) ?_
    refine AC (dst := some 32) 4 7 .a (RText_spec c.shapes[i].name (by omega)) (GI []) [0, 4] ?_
    rintro r _ ⟨rfl, rfl⟩
    refine wpa_take true [(8, [])] ([(33, .string (mkS (b2 ++ encT c.shapes[i].name))), (39, .slice c.shapes[i].fa c.shapes[i].fields.length c.shapes[i].fc), (4, .int .i64 (↑i : Int)), (3, .string (mkS b2)), (2, .string ⟨#[]⟩), (1, .pointer (some ⟨g1, 0, none⟩))]) (#[true, true, true, true, true, true, true, true, true, true, true, true, true, true, true, false, false, false]) ([b2.length + (encT c.shapes[i].name).length ≤ (9223372036854775807 : Nat)]) (n := 3) (by kernel_rfl) (by kernel_rfl) (by kernel_rfl) ⟨by omega, trivial⟩ ?_
    refine wpa_ent (ent_copy 1 (ro c.shapes[i].fa (strsC c.shapes[i].fields)) rfl (fun h => h) (view_in (shRo_in hlt) view_ro)) ?_
    refine AC (dst := some 40) 2 15 .a (rtexts_spec c.shapes[i].fa c.shapes[i].fc c.shapes[i].fields x2 x3 (by omega)) (GV (GI []) 0 view_ro) [1, 5] ?_
    rintro r _ ⟨rfl, rfl⟩
    refine wpa_take true [(16, []), (17, [])] ([(3, .string (mkS (b2 ++ encT c.shapes[i].name ++ encTs c.shapes[i].fields))), (4, .int .i64 (↑i : Int)), (2, .string ⟨#[]⟩), (1, .pointer (some ⟨g1, 0, none⟩))]) (#[true, true, true, true, true, true, true, true, true, true, true, true, true, true, true, true, true, true]) ([(b2 ++ encT c.shapes[i].name).length + (encTs c.shapes[i].fields).length ≤ (9223372036854775807 : Nat)]) (n := 0) (by kernel_rfl) (by kernel_rfl) (by kernel_rfl) ⟨by simp only [List.length_append, List.length_cons, List.length_nil, show ∀ l : List UInt8, (ByteArray.mk l.toArray).size = l.length from fun _ => rfl]; omega, trivial⟩ ?_
    refine wpa_done 0 (by kernel_rfl) ?_
    refine BN (NT (RG ?_))
    refine RV true [] .z (.i 4 (.int .i64 ((↑i : Int) + 1)) (.k (.d (.k .a)))) .a ([inI64 ((↑i : Int) + (1 : Int))]) ⟨by unfold inI64; omega, trivial⟩ ?_
    refine RZ ?_
    rw [← hha, show b2 ++ encT c.shapes[i].name ++ encTs c.shapes[i].fields = b1 ++ ((c.shapes.map ShV.p).take (i + 1)).flatMap encSh from by rw [hb2, mp_take_succ ShV.p encSh hlt]; unfold encSh ShV.p; simp]
    exact fun a' w' hS' => ⟨⟨i + 1, hlt⟩, by dsimp only; omega, ent_fr (by kernel_rfl) _ _ (ent_hp [1, 1, 1, 1, 1] rfl _ _ hS')⟩
  obtain rfl : i = c.shapes.length := by omega
  rw [show (c.shapes.map ShV.p).take c.shapes.length = c.shapes.map ShV.p from List.take_of_length_le (by rw [List.length_map]; exact Nat.le_refl _)]
  obtain ⟨b2, hb2⟩ : ∃ b2, b2 = b1 ++ (c.shapes.map ShV.p).flatMap encSh := ⟨_, rfl⟩
  have hbl2 : b2.length = b1.length + ((c.shapes.map ShV.p).flatMap encSh).length := by rw [hb2, List.length_append]
  rw [← hb2]
  refine SQ (SQ (RG ?_))
  refine RR [4] .z (.i 22 (.bool (decide ((↑c.shapes.length : Int) < (↑c.shapes.length : Int)))) .a) .a ?_
  refine RZ (NT ?_)
  refine SC 22 (decide ((↑c.shapes.length : Int) < (↑c.shapes.length : Int))) false (by simp) ?_
  refine CF (EX (TE (TE (BH (NT (SQ (RG ?_)))))))
  refine RR [4] (.d (.d (.d (.d .a)))) (.i 45 (.int .i64 (↑c.units.length : Int)) (.i 42 (.string (mkS b2)) (.d (.d (.d (.k .a)))))) .a ?_
  refine RC (dst := some 46) [] .a (RInt_spec c.units.length (by omega) (by omega)) ?_
  rintro r _ ⟨rfl, rfl⟩
  refine RV true [] .z (.i 3 (.string (mkS (b2 ++ encI (↑c.units.length : Int)))) (.d (.d (.d (.d (.k .a)))))) .a ([b2.length + (encI (↑c.units.length : Int)).length ≤ (9223372036854775807 : Nat)]) ⟨by omega, trivial⟩ ?_
  refine RZ (NT (SQ (SQ (RG ?_))))
  refine RR [] .z (.i 5 (.int .i64 0) .a) .a ?_
  refine RZ (NT (BK ?_))
  obtain ⟨b3, hb3⟩ : ∃ b3, b3 = b2 ++ encI c.units.length := ⟨_, rfl⟩
  have hbl3 : b3.length = b2.length + (encI c.units.length).length := by rw [hb3, List.length_append]
  rw [← hb3]
  refine wpc_loop (X := {i : Nat // i ≤ c.units.length}) (fun x => St.mk [(5, .int .i64 (x.1 : Int)), (3, .string (mkS (b3 ++ ((c.units.map UnV.p).take x.1).flatMap encU))), (2, .string ⟨#[]⟩), (1, .pointer (some ⟨g1, 0, none⟩))] [ro c.ua (c.units.flatMap unC), gUn c.units, .blk g1 26 [.slice c.sa c.strs.length c.sc, .slice c.ha c.shapes.length c.hc, .slice c.ua c.units.length c.uc, .int .i64 c.main]]) (fun x => c.units.length - x.1) ⟨0, Nat.zero_le _⟩ ?_ ?_
  · show Ent _ _ (St.mk [_, (3, .string (mkS (b3 ++ []))), _, _] _)
    rw [List.append_nil]
    exact Ent.trans (ent_hp [2, 2, 2] rfl) (ent_fr (by kernel_rfl))
  rintro ⟨i, hi⟩
  dsimp only at hi ⊢
  by_cases hlt : i < c.units.length
  · have hme := mp_take_le UnV.p encU hlt
    obtain ⟨b4, hb4⟩ : ∃ b4, b4 = b3 ++ ((c.units.map UnV.p).take i).flatMap encU := ⟨_, rfl⟩
    have hbl4 : b4.length = b3.length + (((c.units.map UnV.p).take i).flatMap encU).length := by rw [hb4, List.length_append]
    obtain ⟨x1, ⟨p1, p2⟩, ⟨q1, q2⟩, ⟨k1, k2⟩, x5, x6, x7, x8⟩ := hu2 _ (List.getElem_mem hlt)
    unfold okText at x1
    have hxl : (encU c.units[i].p).length = (encT c.units[i].name).length + (encI c.units[i].params).length + (encI c.units[i].slots).length + (encI c.units[i].stack).length + (encB c.units[i].result).length + (encR encIn c.units[i].ins).length + (encR encVr c.units[i].vars).length := by unfold encU UnV.p; simp only [List.length_append]
    have hxi := encR_l encIn c.units[i].ins
    have hxv := encR_l encVr c.units[i].vars
    have hb1' : (encB c.units[i].result).length = 1 := rfl
    rw [← hb4]
    refine wpc_fact (fun w h => ro_addr h 0 rfl (by rw [uns_len]; omega)) ?_
    rintro ⟨g0, o0, hua⟩
    rw [hua]
    refine SQ (SQ (RG ?_))
    refine RR [2] .z (.i 52 (.bool (decide ((↑i : Int) < (↑c.units.length : Int)))) .a) .a ?_
    refine RZ (NT ?_)
    refine SC 52 (decide ((↑i : Int) < (↑c.units.length : Int))) true (decide_eq_true (by omega)) ?_
    refine CT (SK (NT (SQ (BK (SQ (RG ?_))))))
    refine RV true [2] (.d (.d (.d (.d .a)))) (.i 58 (.pointer (some ⟨g0, o0 + i * 7, none⟩)) (.d (.d (.k .a)))) .a [(0 : Int) ≤ (↑i : Int) ∧ (↑i : Int) < (↑c.units.length : Int)] ⟨by omega, trivial⟩ ?_
    refine wpr_eq (ld (t := 59) (a := ⟨g0, o0 + i * 7, none⟩) (dst := some 59) (by kernel_rfl) true 7 (by kernel_rfl) (by simp) (unC c.units[i]) rfl (fun w h => ld_ro h 0 rfl (i * 7) (uns_at hlt))) ?_
    refine RP [] (.d .a) 6 (.i 59 (.agg #[.string (mkS c.units[i].name), .int .i64 c.units[i].params, .int .i64 c.units[i].slots, .int .i64 c.units[i].stack, .bool c.units[i].result, .slice c.units[i].ia c.units[i].ins.length c.units[i].ic, .slice c.units[i].va c.units[i].vars.length c.units[i].vc]) (.d (.d (.k .a)))) .a 59 [.string ⟨#[]⟩, .int .i64 0, .int .i64 0, .int .i64 0, .bool false, .slice none 0 0, .slice none 0 0] fun g2 => ?_
    refine RR [3, 3, 3, 3, 3, 3, 3] .z (.k (.d (.k .a))) (.k (.k (.k (.u (.i (.string (mkS c.units[i].name)) (.i (.int .i64 c.units[i].params) (.i (.int .i64 c.units[i].slots) (.i (.int .i64 c.units[i].stack) (.i (.bool c.units[i].result) (.i (.slice c.units[i].ia c.units[i].ins.length c.units[i].ic) (.i (.slice c.units[i].va c.units[i].vars.length c.units[i].vc) .z))))))) .a)))) ?_
    refine RZ (NT (SQ ?_))
    refine wpc_draw (by kernel_rfl) [.blk g2 59 [.string (mkS c.units[i].name), .int .i64 c.units[i].params, .int .i64 c.units[i].slots, .int .i64 c.units[i].stack, .bool c.units[i].result, .slice c.units[i].ia c.units[i].ins.length c.units[i].ic, .slice c.units[i].va c.units[i].vars.length c.units[i].vc]] (sub_of [3] (by kernel_rfl)) 27 (by kernel_rfl) ?_
    refine TK 13 [(0, []), (1, []), (2, [0]), (5, []), (6, [0]), (9, []), (10, [0]), (13, []), (14, [0]), (17, []), (18, [0]), (21, []), (22, [0]), (23, [])] (.i 83 (.int .i64 (↑c.units[i].ins.length : Int)) (.i 78 (.bool c.units[i].result) (.i 74 (.int .i64 c.units[i].stack) (.i 70 (.int .i64 c.units[i].slots) (.i 66 (.int .i64 c.units[i].params) (.i 62 (.string (mkS c.units[i].name)) (.i 60 (.string (mkS b4)) .a))))))) (#[true, true, true, false, false, true, true, false, false, true, true, false, false, true, true, false, false, true, true, false, false, true, true, true, false, false, false]) ?_
    refine AC (dst := some 63) 12 3 .a (RText_spec c.units[i].name (by omega)) (GI []) [3] ?_
    rintro r _ ⟨rfl, rfl⟩
    refine wpa_take true [(4, [])] ([(64, .string (mkS (b4 ++ encT c.units[i].name))), (83, .int .i64 (↑c.units[i].ins.length : Int)), (78, .bool c.units[i].result), (74, .int .i64 c.units[i].stack), (70, .int .i64 c.units[i].slots), (66, .int .i64 c.units[i].params), (6, .pointer (some ⟨g2, 0, none⟩)), (5, .int .i64 (↑i : Int)), (3, .string (mkS b4)), (2, .string ⟨#[]⟩), (1, .pointer (some ⟨g1, 0, none⟩))]) (#[true, true, true, true, true, true, true, false, false, true, true, false, false, true, true, false, false, true, true, false, false, true, true, true, false, false, false]) ([b4.length + (encT c.units[i].name).length ≤ (9223372036854775807 : Nat)]) (n := 11) (by kernel_rfl) (by kernel_rfl) (by kernel_rfl) ⟨by omega, trivial⟩ ?_
    refine AC (dst := some 67) 10 7 .a (RInt_spec c.units[i].params p1 p2) (GI []) [3] ?_
    rintro r _ ⟨rfl, rfl⟩
    refine wpa_take true [(8, [])] ([(68, .string (mkS (b4 ++ encT c.units[i].name ++ encI c.units[i].params))), (83, .int .i64 (↑c.units[i].ins.length : Int)), (78, .bool c.units[i].result), (74, .int .i64 c.units[i].stack), (70, .int .i64 c.units[i].slots), (6, .pointer (some ⟨g2, 0, none⟩)), (5, .int .i64 (↑i : Int)), (3, .string (mkS b4)), (2, .string ⟨#[]⟩), (1, .pointer (some ⟨g1, 0, none⟩))]) (#[true, true, true, true, true, true, true, true, true, true, true, false, false, true, true, false, false, true, true, false, false, true, true, true, false, false, false]) ([(b4 ++ encT c.units[i].name).length + (encI c.units[i].params).length ≤ (9223372036854775807 : Nat)]) (n := 9) (by kernel_rfl) (by kernel_rfl) (by kernel_rfl) ⟨by simp only [List.length_append, List.length_cons, List.length_nil, show ∀ l : List UInt8, (ByteArray.mk l.toArray).size = l.length from fun _ => rfl]; omega, trivial⟩ ?_
    refine AC (dst := some 71) 8 11 .a (RInt_spec c.units[i].slots q1 q2) (GI []) [3] ?_
    rintro r _ ⟨rfl, rfl⟩
    refine wpa_take true [(12, [])] ([(72, .string (mkS (b4 ++ encT c.units[i].name ++ encI c.units[i].params ++ encI c.units[i].slots))), (83, .int .i64 (↑c.units[i].ins.length : Int)), (78, .bool c.units[i].result), (74, .int .i64 c.units[i].stack), (6, .pointer (some ⟨g2, 0, none⟩)), (5, .int .i64 (↑i : Int)), (3, .string (mkS b4)), (2, .string ⟨#[]⟩), (1, .pointer (some ⟨g1, 0, none⟩))]) (#[true, true, true, true, true, true, true, true, true, true, true, true, true, true, true, false, false, true, true, false, false, true, true, true, false, false, false]) ([(b4 ++ encT c.units[i].name ++ encI c.units[i].params).length + (encI c.units[i].slots).length ≤ (9223372036854775807 : Nat)]) (n := 7) (by kernel_rfl) (by kernel_rfl) (by kernel_rfl) ⟨by simp only [List.length_append, List.length_cons, List.length_nil, show ∀ l : List UInt8, (ByteArray.mk l.toArray).size = l.length from fun _ => rfl]; omega, trivial⟩ ?_
    refine AC (dst := some 75) 6 15 .a (RInt_spec c.units[i].stack k1 k2) (GI []) [3] ?_
    rintro r _ ⟨rfl, rfl⟩
    refine wpa_take true [(16, [])] ([(76, .string (mkS (b4 ++ encT c.units[i].name ++ encI c.units[i].params ++ encI c.units[i].slots ++ encI c.units[i].stack))), (83, .int .i64 (↑c.units[i].ins.length : Int)), (78, .bool c.units[i].result), (6, .pointer (some ⟨g2, 0, none⟩)), (5, .int .i64 (↑i : Int)), (3, .string (mkS b4)), (2, .string ⟨#[]⟩), (1, .pointer (some ⟨g1, 0, none⟩))]) (#[true, true, true, true, true, true, true, true, true, true, true, true, true, true, true, true, true, true, true, false, false, true, true, true, false, false, false]) ([(b4 ++ encT c.units[i].name ++ encI c.units[i].params ++ encI c.units[i].slots).length + (encI c.units[i].stack).length ≤ (9223372036854775807 : Nat)]) (n := 5) (by kernel_rfl) (by kernel_rfl) (by kernel_rfl) ⟨by simp only [List.length_append, List.length_cons, List.length_nil, show ∀ l : List UInt8, (ByteArray.mk l.toArray).size = l.length from fun _ => rfl]; omega, trivial⟩ ?_
    refine AC (dst := some 79) 4 19 .a (RBool_spec c.units[i].result) (GI []) [3] ?_
    rintro r _ ⟨rfl, rfl⟩
    refine wpa_take true [(20, [])] ([(80, .string (mkS (b4 ++ encT c.units[i].name ++ encI c.units[i].params ++ encI c.units[i].slots ++ encI c.units[i].stack ++ encB c.units[i].result))), (83, .int .i64 (↑c.units[i].ins.length : Int)), (6, .pointer (some ⟨g2, 0, none⟩)), (5, .int .i64 (↑i : Int)), (3, .string (mkS b4)), (2, .string ⟨#[]⟩), (1, .pointer (some ⟨g1, 0, none⟩))]) (#[true, true, true, true, true, true, true, true, true, true, true, true, true, true, true, true, true, true, true, true, true, true, true, true, false, false, false]) ([(b4 ++ encT c.units[i].name ++ encI c.units[i].params ++ encI c.units[i].slots ++ encI c.units[i].stack).length + (encB c.units[i].result).length ≤ (9223372036854775807 : Nat)]) (n := 3) (by kernel_rfl) (by kernel_rfl) (by kernel_rfl) ⟨by simp only [List.length_append, List.length_cons, List.length_nil, show ∀ l : List UInt8, (ByteArray.mk l.toArray).size = l.length from fun _ => rfl]; omega, trivial⟩ ?_
    refine AC (dst := some 84) 2 24 .a (RInt_spec c.units[i].ins.length (by omega) (by omega)) (GI []) [3] ?_
    rintro r _ ⟨rfl, rfl⟩
    refine wpa_take true [(25, []), (26, [])] ([(3, .string (mkS (b4 ++ encT c.units[i].name ++ encI c.units[i].params ++ encI c.units[i].slots ++ encI c.units[i].stack ++ encB c.units[i].result ++ encI (↑c.units[i].ins.length : Int)))), (6, .pointer (some ⟨g2, 0, none⟩)), (5, .int .i64 (↑i : Int)), (2, .string ⟨#[]⟩), (1, .pointer (some ⟨g1, 0, none⟩))]) (#[true, true, true, true, true, true, true, true, true, true, true, true, true, true, true, true, true, true, true, true, true, true, true, true, true, true, true]) ([(b4 ++ encT c.units[i].name ++ encI c.units[i].params ++ encI c.units[i].slots ++ encI c.units[i].stack ++ encB c.units[i].result).length + (encI (↑c.units[i].ins.length : Int)).length ≤ (9223372036854775807 : Nat)]) (n := 0) (by kernel_rfl) (by kernel_rfl) (by kernel_rfl) ⟨by simp only [List.length_append, List.length_cons, List.length_nil, show ∀ l : List UInt8, (ByteArray.mk l.toArray).size = l.length from fun _ => rfl]; omega, trivial⟩ ?_
    refine wpa_done 0 (by kernel_rfl) ?_
    refine NT (SQ (SQ (RG ?_)))
    refine RR [] .z (.i 7 (.int .i64 0) .a) .a ?_
    refine RZ (NT (BK ?_))
    obtain ⟨b6, hb6⟩ : ∃ b, b = b4 ++ encT c.units[i].name ++ encI c.units[i].params ++ encI c.units[i].slots ++ encI c.units[i].stack ++ encB c.units[i].result ++ encI c.units[i].ins.length := ⟨_, rfl⟩
    have hbl6 : b6.length = b4.length + (encT c.units[i].name).length + (encI c.units[i].params).length + (encI c.units[i].slots).length + (encI c.units[i].stack).length + 1 + (encI c.units[i].ins.length).length := by rw [hb6]; simp only [List.length_append, hb1']
    rw [← hb6]
    refine wpc_ent (ent_copy 1 (ro c.units[i].ia (c.units[i].ins.flatMap insC)) rfl (fun h => h) (view_in (unRo_in1 hlt) view_ro)) ?_
    refine wpc_ent (ent_copy 2 (ro c.units[i].va (c.units[i].vars.flatMap varC)) rfl (fun h => h) (view_in (unRo_in2 hlt) view_ro)) ?_
    refine wpc_loop (X := {m : Nat // m ≤ c.units[i].ins.length}) (fun x => St.mk [(7, .int .i64 (x.1 : Int)), (6, .pointer (some ⟨g2, 0, none⟩)), (5, .int .i64 (i : Int)), (3, .string (mkS (b6 ++ (c.units[i].ins.take x.1).flatMap encIn))), (2, .string ⟨#[]⟩), (1, .pointer (some ⟨g1, 0, none⟩))] [ro (some ⟨g0, o0, none⟩) (c.units.flatMap unC), gUn c.units, ro c.units[i].ia (c.units[i].ins.flatMap insC), ro c.units[i].va (c.units[i].vars.flatMap varC), .blk g1 26 [.slice c.sa c.strs.length c.sc, .slice c.ha c.shapes.length c.hc, .slice (some ⟨g0, o0, none⟩) c.units.length c.uc, .int .i64 c.main], .blk g2 59 [.string (mkS c.units[i].name), .int .i64 c.units[i].params, .int .i64 c.units[i].slots, .int .i64 c.units[i].stack, .bool c.units[i].result, .slice c.units[i].ia c.units[i].ins.length c.units[i].ic, .slice c.units[i].va c.units[i].vars.length c.units[i].vc]]) (fun x => c.units[i].ins.length - x.1) ⟨0, Nat.zero_le _⟩ ?_ ?_
    · show Ent _ _ (St.mk [_, _, _, (3, .string (mkS (b6 ++ []))), _, _] _)
      rw [List.append_nil]
      exact Ent.trans (ent_hp [2, 2, 1, 0, 0, 0] rfl) (ent_fr (by kernel_rfl))
    rintro ⟨m, hm⟩
    dsimp only at hm ⊢
    by_cases hmt : m < c.units[i].ins.length
    · have hme2 := flat_take_le encIn hmt
      obtain ⟨b7, hb7⟩ : ∃ b, b = b6 ++ (c.units[i].ins.take m).flatMap encIn := ⟨_, rfl⟩
      have hbl7 : b7.length = b6.length + ((c.units[i].ins.take m).flatMap encIn).length := by rw [hb7, List.length_append]
      rw [← hb7]
      obtain ⟨⟨y1, y2⟩, y3, y4⟩ := x7 _ (List.getElem_mem hmt)
      have e2 : (encIn c.units[i].ins[m]).length = (encI c.units[i].ins[m].1).length + (encI c.units[i].ins[m].2).length := by unfold encIn; rw [List.length_append]
      refine wpc_fact (fun w h => ro_addr h 2 rfl (by rw [ins_len]; omega)) ?_
      rintro ⟨g5, o5, hia⟩
      rw [hia]
      refine SQ (SQ (RG ?_))
      refine RR [5] .z (.i 90 (.bool (decide ((↑m : Int) < (↑c.units[i].ins.length : Int)))) .a) .a ?_
      refine RZ (NT ?_)
      refine SC 90 (decide ((↑m : Int) < (↑c.units[i].ins.length : Int))) true (decide_eq_true (by omega)) ?_
      refine CT (SK (NT (SQ (BK ?_))))
      refine wpc_draw (by kernel_rfl) [ro (some ⟨g5, o5, none⟩) (List.flatMap insC c.units[i].ins), .blk g2 59 [.string (mkS c.units[i].name), .int .i64 c.units[i].params, .int .i64 c.units[i].slots, .int .i64 c.units[i].stack, .bool c.units[i].result, .slice (some ⟨g5, o5, none⟩) c.units[i].ins.length c.units[i].ic, .slice c.units[i].va c.units[i].vars.length c.units[i].vc]] (sub_of [2, 5] (by kernel_rfl)) 18 (by kernel_rfl) ?_
      refine wpa_take true [(0, []), (1, []), (2, [1]), (3, []), (4, []), (5, []), (9, []), (10, [1]), (11, []), (12, []), (13, [])] ([(106, .pointer (some ⟨g5, o5 + m * 2 + 1, none⟩)), (98, .pointer (some ⟨g5, o5 + m * 2, none⟩)), (93, .string (mkS b7)), (7, .int .i64 (↑m : Int)), (6, .pointer (some ⟨g2, 0, none⟩)), (5, .int .i64 (↑i : Int)), (3, .string (mkS b7)), (2, .string ⟨#[]⟩), (1, .pointer (some ⟨g1, 0, none⟩))]) (#[true, true, true, true, true, true, false, false, false, true, true, true, true, true, false, false, false, false]) [(0 : Int) ≤ (↑m : Int) ∧ (↑m : Int) < (↑c.units[i].ins.length : Int), (0 : Int) ≤ (↑m : Int) ∧ (↑m : Int) < (↑c.units[i].ins.length : Int)] (n := 7) (by kernel_rfl) (by kernel_rfl) (by kernel_rfl) ⟨by omega, by omega, trivial⟩ ?_
      refine wpa_qld (i := 6) (n := 6) (by kernel_rfl) (by kernel_rfl) (by kernel_rfl) (t := 60) (a := ⟨g5, o5 + m * 2, none⟩) (dst := some 99) (by kernel_rfl) false 1 (by kernel_rfl) (by simp) [.int .i64 c.units[i].ins[m].1] rfl (fun w h => ld_roL h 0 rfl (m * 2) (ins_fld hmt 0 1 (by decide))) ?_
      refine wpa_qld (i := 14) (n := 5) (by kernel_rfl) (by kernel_rfl) (by kernel_rfl) (t := 3) (a := ⟨g5, o5 + m * 2 + 1, none⟩) (dst := some 107) (by kernel_rfl) false 1 (by kernel_rfl) (by simp) [.int .i64 c.units[i].ins[m].2] rfl (fun w h => ld_roL h 0 rfl (m * 2 + 1) (ins_fld hmt 1 1 (by decide))) ?_
      refine AC (dst := some 100) 4 7 .a (RInt_spec c.units[i].ins[m].1 y1 y2) (GI []) [2, 5] ?_
      rintro r _ ⟨rfl, rfl⟩
      refine wpa_take true [(8, [])] ([(101, .string (mkS (b7 ++ encI c.units[i].ins[m].fst))), (107, .int .i64 c.units[i].ins[m].snd), (7, .int .i64 (↑m : Int)), (6, .pointer (some ⟨g2, 0, none⟩)), (5, .int .i64 (↑i : Int)), (3, .string (mkS b7)), (2, .string ⟨#[]⟩), (1, .pointer (some ⟨g1, 0, none⟩))]) (#[true, true, true, true, true, true, true, true, true, true, true, true, true, true, true, false, false, false]) ([b7.length + (encI c.units[i].ins[m].fst).length ≤ (9223372036854775807 : Nat)]) (n := 3) (by kernel_rfl) (by kernel_rfl) (by kernel_rfl) ⟨by omega, trivial⟩ ?_
      refine AC (dst := some 108) 2 15 .a (RInt_spec c.units[i].ins[m].2 y3 y4) (GI []) [2, 5] ?_
      rintro r _ ⟨rfl, rfl⟩
      refine wpa_take true [(16, []), (17, [])] ([(3, .string (mkS (b7 ++ encI c.units[i].ins[m].fst ++ encI c.units[i].ins[m].snd))), (7, .int .i64 (↑m : Int)), (6, .pointer (some ⟨g2, 0, none⟩)), (5, .int .i64 (↑i : Int)), (2, .string ⟨#[]⟩), (1, .pointer (some ⟨g1, 0, none⟩))]) (#[true, true, true, true, true, true, true, true, true, true, true, true, true, true, true, true, true, true]) ([(b7 ++ encI c.units[i].ins[m].fst).length + (encI c.units[i].ins[m].snd).length ≤ (9223372036854775807 : Nat)]) (n := 0) (by kernel_rfl) (by kernel_rfl) (by kernel_rfl) ⟨by simp only [List.length_append, List.length_cons, List.length_nil, show ∀ l : List UInt8, (ByteArray.mk l.toArray).size = l.length from fun _ => rfl]; omega, trivial⟩ ?_
      refine wpa_done 0 (by kernel_rfl) ?_
      refine BN (NT (RG ?_))
      refine RV true [] .z (.i 7 (.int .i64 ((↑m : Int) + 1)) (.k (.d (.k .a)))) .a ([inI64 ((↑m : Int) + (1 : Int))]) ⟨by unfold inI64; omega, trivial⟩ ?_
      refine RZ ?_
      rw [← hia, show b7 ++ encI c.units[i].ins[m].1 ++ encI c.units[i].ins[m].2 = b6 ++ (c.units[i].ins.take (m + 1)).flatMap encIn from by rw [hb7, flat_take_succ encIn hmt]; unfold encIn; simp]
      exact fun a' w' hS' => ⟨⟨m + 1, hmt⟩, by dsimp only; omega, ent_fr (by kernel_rfl) _ _ (ent_hp [0, 0, 0, 0, 0, 0] rfl _ _ hS')⟩
    obtain rfl : m = c.units[i].ins.length := by omega
    rw [List.take_length]
    obtain ⟨b7, hb7⟩ : ∃ b, b = b6 ++ c.units[i].ins.flatMap encIn := ⟨_, rfl⟩
    have hbl7 : b7.length = b6.length + (c.units[i].ins.flatMap encIn).length := by rw [hb7, List.length_append]
    rw [← hb7]
    refine SQ (SQ (RG ?_))
    refine RR [5] .z (.i 90 (.bool (decide ((↑c.units[i].ins.length : Int) < (↑c.units[i].ins.length : Int)))) .a) .a ?_
    refine RZ (NT ?_)
    refine SC 90 (decide ((↑c.units[i].ins.length : Int) < (↑c.units[i].ins.length : Int))) false (by simp) ?_
    refine CF (EX (TE (TE (BH (NT (SQ (RG ?_)))))))
    refine RR [5] (.d (.d (.d (.d .a)))) (.i 113 (.int .i64 (↑c.units[i].vars.length : Int)) (.i 110 (.string (mkS b7)) (.d (.d (.d (.k .a)))))) .a ?_
    refine RC (dst := some 114) [] .a (RInt_spec c.units[i].vars.length (by omega) (by omega)) ?_
    rintro r _ ⟨rfl, rfl⟩
    refine RV true [] .z (.i 3 (.string (mkS (b7 ++ encI (↑c.units[i].vars.length : Int)))) (.d (.d (.d (.k (.k (.d (.k .a)))))))) .a ([b7.length + (encI (↑c.units[i].vars.length : Int)).length ≤ (9223372036854775807 : Nat)]) ⟨by omega, trivial⟩ ?_
    refine RZ (NT (SQ (RG ?_)))
    refine RR [] .z (.i 8 (.int .i64 0) .a) .a ?_
    refine RZ (NT (BK ?_))
    obtain ⟨b8, hb8⟩ : ∃ b, b = b7 ++ encI c.units[i].vars.length := ⟨_, rfl⟩
    have hbl8 : b8.length = b7.length + (encI c.units[i].vars.length).length := by rw [hb8, List.length_append]
    rw [← hb8]
    refine wpc_loop (X := {m : Nat // m ≤ c.units[i].vars.length}) (fun x => St.mk [(8, .int .i64 (x.1 : Int)), (6, .pointer (some ⟨g2, 0, none⟩)), (5, .int .i64 (i : Int)), (3, .string (mkS (b8 ++ (c.units[i].vars.take x.1).flatMap encVr))), (2, .string ⟨#[]⟩), (1, .pointer (some ⟨g1, 0, none⟩))] [ro (some ⟨g0, o0, none⟩) (c.units.flatMap unC), gUn c.units, ro c.units[i].va (c.units[i].vars.flatMap varC), .blk g1 26 [.slice c.sa c.strs.length c.sc, .slice c.ha c.shapes.length c.hc, .slice (some ⟨g0, o0, none⟩) c.units.length c.uc, .int .i64 c.main], .blk g2 59 [.string (mkS c.units[i].name), .int .i64 c.units[i].params, .int .i64 c.units[i].slots, .int .i64 c.units[i].stack, .bool c.units[i].result, .slice c.units[i].ia c.units[i].ins.length c.units[i].ic, .slice c.units[i].va c.units[i].vars.length c.units[i].vc]]) (fun x => c.units[i].vars.length - x.1) ⟨0, Nat.zero_le _⟩ ?_ ?_
    · show Ent _ _ (St.mk [_, _, _, (3, .string (mkS (b8 ++ []))), _, _] _)
      rw [List.append_nil]
      exact Ent.trans (ent_hp [0, 0, 1, 1, 1] rfl) (ent_fr (by kernel_rfl))
    rintro ⟨m, hm⟩
    dsimp only at hm ⊢
    by_cases hmt : m < c.units[i].vars.length
    · have hme2 := flat_take_le encVr hmt
      obtain ⟨b9, hb9⟩ : ∃ b, b = b8 ++ (c.units[i].vars.take m).flatMap encVr := ⟨_, rfl⟩
      have hbl9 : b9.length = b8.length + ((c.units[i].vars.take m).flatMap encVr).length := by rw [hb9, List.length_append]
      rw [← hb9]
      obtain ⟨y1, ⟨y2, y3⟩, ⟨y4, y5⟩, y6, y7⟩ := x8 _ (List.getElem_mem hmt)
      unfold okText at y1
      have e5 : (encVr c.units[i].vars[m]).length = (encT c.units[i].vars[m].name).length + (encI c.units[i].vars[m].slot).length + (encI c.units[i].vars[m].fr).length + (encI c.units[i].vars[m].to).length := by unfold encVr; simp only [List.length_append]
      refine wpc_fact (fun w h => ro_addr h 2 rfl (by rw [vars_len]; omega)) ?_
      rintro ⟨g5, o5, hia⟩
      rw [hia]
      refine SQ (SQ (RG ?_))
      refine RR [4] .z (.i 120 (.bool (decide ((↑m : Int) < (↑c.units[i].vars.length : Int)))) .a) .a ?_
      refine RZ (NT ?_)
      refine SC 120 (decide ((↑m : Int) < (↑c.units[i].vars.length : Int))) true (decide_eq_true (by omega)) ?_
      refine CT (SK (NT (SQ (BK (SQ (RG ?_))))))
      refine RV true [4] (.d (.d (.d (.d .a)))) (.i 126 (.pointer (some ⟨g5, o5 + m * 4, none⟩)) (.d (.d (.k .a)))) .a [(0 : Int) ≤ (↑m : Int) ∧ (↑m : Int) < (↑c.units[i].vars.length : Int)] ⟨by omega, trivial⟩ ?_
      refine wpr_eq (ld (t := 116) (a := ⟨g5, o5 + m * 4, none⟩) (dst := some 127) (by kernel_rfl) true 4 (by kernel_rfl) (by simp) (varC c.units[i].vars[m]) rfl (fun w h => ld_ro h 2 rfl (m * 4) (vars_at hmt))) ?_
      refine RP [] (.d .a) 9 (.i 127 (.agg #[.string (mkS c.units[i].vars[m].name), .int .i64 c.units[i].vars[m].slot, .int .i64 c.units[i].vars[m].fr, .int .i64 c.units[i].vars[m].to]) (.d (.d (.k .a)))) .a 116 [.string ⟨#[]⟩, .int .i64 0, .int .i64 0, .int .i64 0] fun g3 => ?_
      refine RR [5, 5, 5, 5] .z (.k (.d (.k .a))) (.k (.k (.k (.k (.k (.u (.i (.string (mkS c.units[i].vars[m].name)) (.i (.int .i64 c.units[i].vars[m].slot) (.i (.int .i64 c.units[i].vars[m].fr) (.i (.int .i64 c.units[i].vars[m].to) .z)))) .a)))))) ?_
      refine RZ (NT ?_)
      refine wpc_draw (by kernel_rfl) [.blk g3 116 [.string (mkS c.units[i].vars[m].name), .int .i64 c.units[i].vars[m].slot, .int .i64 c.units[i].vars[m].fr, .int .i64 c.units[i].vars[m].to]] (sub_of [5] (by kernel_rfl)) 18 (by kernel_rfl) ?_
      refine TK 9 [(0, []), (1, []), (2, [0]), (5, []), (6, [0]), (9, []), (10, [0]), (13, []), (14, [0])] (.i 142 (.int .i64 c.units[i].vars[m].to) (.i 138 (.int .i64 c.units[i].vars[m].fr) (.i 134 (.int .i64 c.units[i].vars[m].slot) (.i 130 (.string (mkS c.units[i].vars[m].name)) (.i 128 (.string (mkS b9)) (.d (.k .a))))))) (#[true, true, true, false, false, true, true, false, false, true, true, false, false, true, true, false, false, false]) ?_
      refine AC (dst := some 131) 8 3 .a (RText_spec c.units[i].vars[m].name (by omega)) (GI []) [5] ?_
      rintro r _ ⟨rfl, rfl⟩
      refine wpa_take true [(4, [])] ([(132, .string (mkS (b9 ++ encT c.units[i].vars[m].name))), (142, .int .i64 c.units[i].vars[m].to), (138, .int .i64 c.units[i].vars[m].fr), (134, .int .i64 c.units[i].vars[m].slot), (8, .int .i64 (↑m : Int)), (6, .pointer (some ⟨g2, 0, none⟩)), (5, .int .i64 (↑i : Int)), (3, .string (mkS b9)), (2, .string ⟨#[]⟩), (1, .pointer (some ⟨g1, 0, none⟩))]) (#[true, true, true, true, true, true, true, false, false, true, true, false, false, true, true, false, false, false]) ([b9.length + (encT c.units[i].vars[m].name).length ≤ (9223372036854775807 : Nat)]) (n := 7) (by kernel_rfl) (by kernel_rfl) (by kernel_rfl) ⟨by omega, trivial⟩ ?_
      refine AC (dst := some 135) 6 7 .a (RInt_spec c.units[i].vars[m].slot y2 y3) (GI []) [5] ?_
      rintro r _ ⟨rfl, rfl⟩
      refine wpa_take true [(8, [])] ([(136, .string (mkS (b9 ++ encT c.units[i].vars[m].name ++ encI c.units[i].vars[m].slot))), (142, .int .i64 c.units[i].vars[m].to), (138, .int .i64 c.units[i].vars[m].fr), (8, .int .i64 (↑m : Int)), (6, .pointer (some ⟨g2, 0, none⟩)), (5, .int .i64 (↑i : Int)), (3, .string (mkS b9)), (2, .string ⟨#[]⟩), (1, .pointer (some ⟨g1, 0, none⟩))]) (#[true, true, true, true, true, true, true, true, true, true, true, false, false, true, true, false, false, false]) ([(b9 ++ encT c.units[i].vars[m].name).length + (encI c.units[i].vars[m].slot).length ≤ (9223372036854775807 : Nat)]) (n := 5) (by kernel_rfl) (by kernel_rfl) (by kernel_rfl) ⟨by simp only [List.length_append, List.length_cons, List.length_nil, show ∀ l : List UInt8, (ByteArray.mk l.toArray).size = l.length from fun _ => rfl]; omega, trivial⟩ ?_
      refine AC (dst := some 139) 4 11 .a (RInt_spec c.units[i].vars[m].fr y4 y5) (GI []) [5] ?_
      rintro r _ ⟨rfl, rfl⟩
      refine wpa_take true [(12, [])] ([(140, .string (mkS (b9 ++ encT c.units[i].vars[m].name ++ encI c.units[i].vars[m].slot ++ encI c.units[i].vars[m].fr))), (142, .int .i64 c.units[i].vars[m].to), (8, .int .i64 (↑m : Int)), (6, .pointer (some ⟨g2, 0, none⟩)), (5, .int .i64 (↑i : Int)), (3, .string (mkS b9)), (2, .string ⟨#[]⟩), (1, .pointer (some ⟨g1, 0, none⟩))]) (#[true, true, true, true, true, true, true, true, true, true, true, true, true, true, true, false, false, false]) ([(b9 ++ encT c.units[i].vars[m].name ++ encI c.units[i].vars[m].slot).length + (encI c.units[i].vars[m].fr).length ≤ (9223372036854775807 : Nat)]) (n := 3) (by kernel_rfl) (by kernel_rfl) (by kernel_rfl) ⟨by simp only [List.length_append, List.length_cons, List.length_nil, show ∀ l : List UInt8, (ByteArray.mk l.toArray).size = l.length from fun _ => rfl]; omega, trivial⟩ ?_
      refine AC (dst := some 143) 2 15 .a (RInt_spec c.units[i].vars[m].to y6 y7) (GI []) [5] ?_
      rintro r _ ⟨rfl, rfl⟩
      refine wpa_take true [(16, []), (17, [])] ([(3, .string (mkS (b9 ++ encT c.units[i].vars[m].name ++ encI c.units[i].vars[m].slot ++ encI c.units[i].vars[m].fr ++ encI c.units[i].vars[m].to))), (8, .int .i64 (↑m : Int)), (6, .pointer (some ⟨g2, 0, none⟩)), (5, .int .i64 (↑i : Int)), (2, .string ⟨#[]⟩), (1, .pointer (some ⟨g1, 0, none⟩))]) (#[true, true, true, true, true, true, true, true, true, true, true, true, true, true, true, true, true, true]) ([(b9 ++ encT c.units[i].vars[m].name ++ encI c.units[i].vars[m].slot ++ encI c.units[i].vars[m].fr).length + (encI c.units[i].vars[m].to).length ≤ (9223372036854775807 : Nat)]) (n := 0) (by kernel_rfl) (by kernel_rfl) (by kernel_rfl) ⟨by simp only [List.length_append, List.length_cons, List.length_nil, show ∀ l : List UInt8, (ByteArray.mk l.toArray).size = l.length from fun _ => rfl]; omega, trivial⟩ ?_
      refine wpa_done 0 (by kernel_rfl) ?_
      refine BN (NT (RG ?_))
      refine RV true [] .z (.i 8 (.int .i64 ((↑m : Int) + 1)) (.k (.d (.k .a)))) .a ([inI64 ((↑m : Int) + (1 : Int))]) ⟨by unfold inI64; omega, trivial⟩ ?_
      refine RZ ?_
      rw [← hia, show b9 ++ encT c.units[i].vars[m].name ++ encI c.units[i].vars[m].slot ++ encI c.units[i].vars[m].fr ++ encI c.units[i].vars[m].to = b8 ++ (c.units[i].vars.take (m + 1)).flatMap encVr from by rw [hb9, flat_take_succ encVr hmt]; unfold encVr; simp]
      exact fun a' w' hS' => ⟨⟨m + 1, hmt⟩, by dsimp only; omega, ent_fr (by kernel_rfl) _ _ (ent_hp [0, 0, 0, 0, 0] rfl _ _ hS')⟩
    obtain rfl : m = c.units[i].vars.length := by omega
    rw [List.take_length]
    refine SQ (SQ (RG ?_))
    refine RR [4] .z (.i 120 (.bool (decide ((↑c.units[i].vars.length : Int) < (↑c.units[i].vars.length : Int)))) .a) .a ?_
    refine RZ (NT ?_)
    refine SC 120 (decide ((↑c.units[i].vars.length : Int) < (↑c.units[i].vars.length : Int))) false (by simp) ?_
    refine CF (EX (TE (TE (BH (BN (NT (RG ?_)))))))
    refine RV true [] .z (.i 5 (.int .i64 ((↑i : Int) + 1)) (.d (.d (.d (.d (.d (.k .a))))))) .a ([inI64 ((↑i : Int) + (1 : Int))]) ⟨by unfold inI64; omega, trivial⟩ ?_
    refine RZ ?_
    rw [← hua, show b8 ++ c.units[i].vars.flatMap encVr = b3 ++ ((c.units.map UnV.p).take (i + 1)).flatMap encU from by rw [hb8, hb7, hb6, hb4, mp_take_succ UnV.p encU hlt]; unfold encU encR UnV.p; simp]
    exact fun a' w' hS' => ⟨⟨i + 1, hlt⟩, by dsimp only; omega, ent_fr (by kernel_rfl) _ _ (ent_hp [0, 0, 1] rfl _ _ hS')⟩
  · obtain rfl : i = c.units.length := by omega
    rw [show (c.units.map UnV.p).take c.units.length = c.units.map UnV.p from List.take_of_length_le (by rw [List.length_map]; exact Nat.le_refl _)]
    obtain ⟨b4, hb4⟩ : ∃ b, b = b3 ++ (c.units.map UnV.p).flatMap encU := ⟨_, rfl⟩
    have hbl4 : b4.length = b3.length + ((c.units.map UnV.p).flatMap encU).length := by rw [hb4, List.length_append]
    rw [← hb4]
    refine SQ (SQ (RG ?_))
    refine RR [2] .z (.i 52 (.bool (decide ((↑c.units.length : Int) < (↑c.units.length : Int)))) .a) .a ?_
    refine RZ (NT ?_)
    refine SC 52 (decide ((↑c.units.length : Int) < (↑c.units.length : Int))) false (by simp) ?_
    refine CF (EX (TE (TE (BH (NT (SQ (RG ?_)))))))
    refine RR [2] (.d (.d (.d .a))) (.i 147 (.int .i64 c.main) (.i 145 (.string (mkS b4)) (.d (.d (.d (.d (.k .z))))))) .a ?_
    refine RC (dst := some 148) [] .a (RInt_spec c.main hm0 hm1) ?_
    rintro r _ ⟨rfl, rfl⟩
    refine RV true [] .z (.i 2 (.string (mkS (b4 ++ encI c.main))) .z) .a ([b4.length + (encI c.main).length ≤ (9223372036854775807 : Nat)]) ⟨by omega, trivial⟩ ?_
    refine RZ (NT (RE ?_))
    refine NE [] .z .a [] (.string (mkS (b4 ++ encI c.main))) ?_
    exact ⟨by rw [show b4 ++ encI c.main = encCo c.p from by rw [hb4, hb3, hb2, hb1]; unfold encCo encR CoV.p; simp], rfl⟩
theorem rBytes_spec (c : CoV) (hc : c.ok) : Does Tryz.prog 22 [.agg (coC c).toArray] (coHp c) (fun v hp' => v = (if rightC c.p = true then .tuple #[.string (mkS (encCo c.p)), .int .i64 0] else .tuple #[.string ⟨#[]⟩, .int .i64 2]) ∧ hp' = []) := by
  have h := rright_spec c hc
  have hp := fun hB => rput_spec c hc hB
  have hcc := hc
  rw [show coC c = [.slice c.sa c.strs.length c.sc, .slice c.ha c.shapes.length c.hc, .slice c.ua c.units.length c.uc, .int .i64 c.main] from rfl] at h hp ⊢
  unfold coHp at h hp ⊢
  refine fn_enter Tryz.func22 rfl 9 rfl fun w0 h0 => ?_
  refine SQ (RG ?_)
  refine RP [] (.d .a) 1 .z .a 26 [.slice c.sa c.strs.length c.sc, .slice c.ha c.shapes.length c.hc, .slice c.ua c.units.length c.uc, .int .i64 c.main] fun g1 => ?_
  refine RR [] .z (.i 3 (.int .i64 0) (.i 2 (.string ⟨#[]⟩) .a)) .a ?_
  refine RZ (NT (SQ (SQ (RG ?_))))
  refine RR [5, 5, 5, 5] (.d .a) (.i 4 (.agg #[.slice c.sa c.strs.length c.sc, .slice c.ha c.shapes.length c.hc, .slice c.ua c.units.length c.uc, .int .i64 c.main]) .a) .a ?_
  refine RCG (dst := some 5) .a (h) (GV (GV (GV (GV (GV (GI []) 4 view_self) 3 view_ro) 2 view_self) 1 view_ro) 0 view_ro) ?_
  rintro v _ ⟨rfl, rfl⟩
  cases hb : rightC c.p with
  | true =>
    have hB := encCo_l (right_n hcc hb) (right_head hb)
    have hp2 := hp (by omega)
    refine RR [] .z (.i 6 (.bool false) (.d (.d (.k .a)))) .a ?_
    refine RZ (NT (CF (SK (NT (SQ (RG ?_))))))
    refine RR [5, 5, 5, 5] (.d .a) (.i 7 (.agg #[.slice c.sa c.strs.length c.sc, .slice c.ha c.shapes.length c.hc, .slice c.ua c.units.length c.uc, .int .i64 c.main]) (.d (.k (.k .z)))) .a ?_
    refine RCG (dst := some 8) .a (hp2) (GV (GV (GV (GV (GV (GI []) 4 view_self) 3 view_ro) 2 view_self) 1 view_ro) 0 view_ro) ?_
    rintro v _ ⟨rfl, rfl⟩
    refine RR [] .z (.d (.d (.k (.i 2 (.string (mkS (encCo c.p))) .z)))) .a ?_
    refine RZ (NT (RE ?_))
    refine NE [] .z .a [] (.tuple #[.string (mkS (encCo c.p)), .int .i64 0]) ?_
    exact ⟨rfl, rfl⟩
  | false =>
    refine RR [] .z (.i 6 (.bool true) (.d (.d (.k .a)))) .a ?_
    refine RZ (NT (CT (SQ (RG ?_))))
    refine RR [] .z (.i 3 (.int .i64 2) (.d (.d (.k .a)))) .a ?_
    refine RZ (NT (RE (TR ?_)))
    refine NE [] .z .a [] (.tuple #[.string ⟨#[]⟩, .int .i64 2]) ?_
    exact ⟨rfl, rfl⟩
theorem rSame_spec (c d : CoV) (hc : c.ok) (hd : d.ok) (hB : (encCo c.p).length ≤ 549755813888) (hD : (encCo d.p).length ≤ 549755813888) :
    Does Tryz.prog 28 [.agg (coC c).toArray, .agg (coC d).toArray] (coHp c ++ coHp d) (fun v hp' => v = .bool (decide (encCo c.p = encCo d.p)) ∧ hp' = []) := by
  have h1 := rput_spec c hc hB
  have h2 := rput_spec d hd hD
  rw [show coC c = [.slice c.sa c.strs.length c.sc, .slice c.ha c.shapes.length c.hc, .slice c.ua c.units.length c.uc, .int .i64 c.main] from rfl] at h1 ⊢
  rw [show coC d = [.slice d.sa d.strs.length d.sc, .slice d.ha d.shapes.length d.hc, .slice d.ua d.units.length d.uc, .int .i64 d.main] from rfl] at h2 ⊢
  unfold coHp at h1 h2 ⊢
  refine fn_enter Tryz.func28 rfl 10 rfl fun w0 h0 => ?_
  refine SQ (RG ?_)
  refine RP [] (.d .a) 2 (.d (.k .a)) .a 26 [.slice c.sa c.strs.length c.sc, .slice c.ha c.shapes.length c.hc, .slice c.ua c.units.length c.uc, .int .i64 c.main] fun g1 => ?_
  refine RP [] (.d .a) 3 (.k .z) .a 26 [.slice d.sa d.strs.length d.sc, .slice d.ha d.shapes.length d.hc, .slice d.ua d.units.length d.uc, .int .i64 d.main] fun g2 => ?_
  refine RR [] .z (.i 4 (.bool false) .a) .a ?_
  refine RZ (NT (SQ ?_))
  refine wpc_draw (by kernel_rfl) [.blk g1 26 [.slice c.sa c.strs.length c.sc, .slice c.ha c.shapes.length c.hc, .slice c.ua c.units.length c.uc, .int .i64 c.main], .blk g2 26 [.slice d.sa d.strs.length d.sc, .slice d.ha d.shapes.length d.hc, .slice d.ua d.units.length d.uc, .int .i64 d.main]] (sub_of [10, 11] (by kernel_rfl)) 6 (by kernel_rfl) ?_
  refine TK 4 [(0, [0, 0, 0, 0]), (2, [1, 1, 1, 1])] (.i 7 (.agg #[.slice d.sa d.strs.length d.sc, .slice d.ha d.shapes.length d.hc, .slice d.ua d.units.length d.uc, .int .i64 d.main]) (.i 5 (.agg #[.slice c.sa c.strs.length c.sc, .slice c.ha c.shapes.length c.hc, .slice c.ua c.units.length c.uc, .int .i64 c.main]) (.k .z))) (#[true, false, true, false, false, false]) ?_
  refine AC (dst := some 6) 3 1 .a (h1) (GV (GV (GV (GV (GV (GI []) 4 view_self) 3 view_ro) 2 view_self) 1 view_ro) 0 view_ro) [10, 11] ?_
  rintro v _ ⟨rfl, rfl⟩
  refine AC (dst := some 8) 2 3 .a (h2) (GV (GV (GV (GV (GV (GI []) 9 view_self) 8 view_ro) 7 view_self) 6 view_ro) 5 view_ro) [10, 11] ?_
  rintro v _ ⟨rfl, rfl⟩
  refine TK 0 [(4, []), (5, [])] (.i 4 (.bool (decide (encCo c.p = encCo d.p))) .z) (#[true, true, true, true, true, true]) ?_
  refine wpa_done 0 (by kernel_rfl) ?_
  refine NT (RE ?_)
  refine NE [] .z .a [] (.bool (decide (encCo c.p = encCo d.p))) ?_
  exact ⟨rfl, rfl⟩
end Go.Proofs.YtgcfomhlgipllaaGreatDoor
namespace Go.Proofs.YtgcfomhlgipllaaGreatDoor
open Go Go.Sx
theorem Does.ent {P : Program} {f : FuncId} {args : List Value} {pre pre' : Hp} {R R2 : Value → Hp → Prop} (h : Does P f args pre R) (e : ∀ Γ : Cx, Ent Γ ⟨[], pre'⟩ ⟨[], pre⟩)
    (k : ∀ v hp', R v hp' → ∃ hp2, R2 v hp2 ∧ (∀ Γ : Cx, Ent Γ ⟨[], hp'⟩ ⟨[], hp2⟩) ∧ ∀ c ∈ hp2, c.rw) : Does P f args pre' R2 := fun w hw => by
  have hS : Sat ⟨P, w, foot pre', 0, []⟩ ⟨[], pre'⟩ ⟨#[], []⟩ w := ⟨rfl, rfl, fun i v hi => (by cases hi), hw, Ext.refl _ _, Bd.self _ _⟩
  have h2 := e _ _ _ hS
  refine (h w h2.hs).mono ?_
  rintro e' w' ⟨v, hp', hR, rfl, h3, h4, h5, h6⟩
  obtain ⟨hp2, hR2, he2, hrw⟩ := k v hp' hR
  have hS' : Sat ⟨P, w, foot pre, 0, []⟩ ⟨[], hp'⟩ ⟨#[], []⟩ w' := ⟨rfl, rfl, fun i v hi => (by cases hi), h3, h4, h5⟩
  have h7 := he2 _ _ _ hS'
  have hsub : ∀ k, foot pre k → foot pre' k ∨ w.heap.size ≤ k := fun k ⟨c, hc, hcr, hk⟩ => h2.bd c hc hcr k hk
  refine ⟨v, hp2, hR2, rfl, h7.hs, ⟨h7.ext.os, h7.ext.tape, h7.ext.output, h7.ext.size, fun k hk hF => h7.ext.block k hk fun hF' => ?_⟩, fun c hc hcr k hk => ?_, hrw⟩
  · rcases hsub k hF' with h8 | h8
    · exact hF h8
    · omega
  · rcases h7.bd c hc hcr k hk with h8 | h8
    · exact hsub k h8
    · exact .inr h8
theorem ent_roz {Γ : Cx} {fr : Fr} {rest : Hp} : Ent Γ ⟨fr, rest⟩ ⟨fr, ro none ([] : List Value) :: rest⟩ := ent_ro (hp := []) (c' := ro none ([] : List Value)) (fun w h => ⟨fun u hu => (by cases hu), rfl⟩) (fun w h k hk => absurd rfl hk.2) (fun h => h)
theorem insL_one (I : List InP) : Sx.One (I.flatMap insC) := by
  intro v hv
  obtain ⟨x, _, hx⟩ := List.mem_flatMap.1 hv
  exact ins1 x v hx
theorem exEnt {Γ : Cx} {fr : Fr} {rest : Hp} (gi gu : Nat) (I : List InP) : Ent Γ ⟨fr, .blk gi 62 (I.flatMap insC) :: .blk gu 59 (unC (exU gi I)) :: rest⟩ ⟨fr, coHp (exCo gi gu I) ++ rest⟩ := by
  have e1 : Ent Γ ⟨fr, .blk gi 62 (I.flatMap insC) :: .blk gu 59 (unC (exU gi I)) :: rest⟩ ⟨fr, ro (some ⟨gi, 0, none⟩) (I.flatMap insC) :: .blk gu 59 (unC (exU gi I)) :: rest⟩ := ent_turn 0 _ rfl (turn_rblk (insL_one I)) rfl
  have e2 : Ent Γ ⟨fr, ro (some ⟨gi, 0, none⟩) (I.flatMap insC) :: .blk gu 59 (unC (exU gi I)) :: rest⟩ ⟨fr, ro (some ⟨gi, 0, none⟩) (I.flatMap insC) :: ro (some ⟨gu, 0, none⟩) (unC (exU gi I)) :: rest⟩ := ent_turn 1 _ rfl (turn_rblk (un1 _)) rfl
  have e3 : Ent Γ ⟨fr, ro (some ⟨gi, 0, none⟩) (I.flatMap insC) :: ro (some ⟨gu, 0, none⟩) (unC (exU gi I)) :: rest⟩ ⟨fr, ro none ([] : List Value) :: ro (some ⟨gi, 0, none⟩) (I.flatMap insC) :: ro (some ⟨gu, 0, none⟩) (unC (exU gi I)) :: rest⟩ := ent_roz
  have e4 : Ent Γ ⟨fr, ro none ([] : List Value) :: ro (some ⟨gi, 0, none⟩) (I.flatMap insC) :: ro (some ⟨gu, 0, none⟩) (unC (exU gi I)) :: rest⟩ ⟨fr, ro (some ⟨gi, 0, none⟩) (I.flatMap insC) :: ro none ([] : List Value) :: ro (some ⟨gu, 0, none⟩) (unC (exU gi I)) :: rest⟩ := ent_perm (List.Perm.swap _ _ _)
  have e5 : Ent Γ ⟨fr, ro (some ⟨gi, 0, none⟩) (I.flatMap insC) :: ro none ([] : List Value) :: ro (some ⟨gu, 0, none⟩) (unC (exU gi I)) :: rest⟩ ⟨fr, gUn [exU gi I] :: ro (some ⟨gu, 0, none⟩) (unC (exU gi I)) :: rest⟩ := ent_bag (hp := [ro (some ⟨gi, 0, none⟩) (I.flatMap insC), ro none ([] : List Value)])
  have e6 : Ent Γ ⟨fr, gUn [exU gi I] :: ro (some ⟨gu, 0, none⟩) (unC (exU gi I)) :: rest⟩ ⟨fr, ro (some ⟨gu, 0, none⟩) (unC (exU gi I)) :: gUn [exU gi I] :: rest⟩ := ent_perm (List.Perm.swap _ _ _)
  exact e1.trans (e2.trans (e3.trans (e4.trans (e5.trans (e6.trans (Ent.trans ent_bag_nil (Ent.trans ent_roz ent_roz)))))))
theorem example_spec : Does Tryz.prog 38 [] [] (fun v hp' => ∃ gi gu, v = .agg #[.slice none 0 0, .slice none 0 0, .slice (some ⟨gu, 0, none⟩) 1 1, .int .i64 0] ∧ hp' = [.blk gi 62 [.int .i64 0, .int .i64 1, .int .i64 1, .int .i64 2, .int .i64 34, .int .i64 1, .int .i64 23, .int .i64 0], .blk gu 59 [.string ⟨#[109, 97, 105, 110]⟩, .int .i64 0, .int .i64 0, .int .i64 1, .bool false, .slice (some ⟨gi, 0, none⟩) 4 4, .slice none 0 0]]) := by
  refine fn_enter Tryz.func38 rfl 9 rfl fun w0 h0 => ?_
  refine SQ (RG ?_)
  refine RP [] .z 0 .a .a 26 [.slice none 0 0, .slice none 0 0, .slice none 0 0, .int .i64 0] fun g1 => ?_
  refine RZ (NT (SQ (RG ?_)))
  refine RN [] (.d (.d (.d (.d (.d .a))))) 5 (fun g2 => (.slice (some ⟨g2, 0, none⟩) 4 4)) .a .a 62 [.int .i64 0, .int .i64 1, .int .i64 1, .int .i64 2, .int .i64 34, .int .i64 1, .int .i64 23, .int .i64 0] fun g2 => ?_
  refine RN [] (.d (.d .a)) 7 (fun g3 => (.slice (some ⟨g3, 0, none⟩) 1 1)) (.d (.k .a)) .a 59 [.string (ByteArray.mk #[109, 97, 105, 110]), .int .i64 0, .int .i64 0, .int .i64 1, .bool false, .slice (some ⟨g2, 0, none⟩) 4 4, .slice none 0 0] fun g3 => ?_
  refine RR [0, 0, 0, 0] .z (.d (.k .a)) (.u (.k (.k (.i (.slice (some ⟨g3, 0, none⟩) 1 1) (.d (.k .a))))) .a) ?_
  refine RZ (NT (RE ?_))
  refine NE [1, 1] (.d (.k .a)) (.k .z) [0, 0, 0, 0] (.agg #[.slice none 0 0, .slice none 0 0, .slice (some ⟨g3, 0, none⟩) 1 1, .int .i64 0]) ?_
  exact ⟨g2, g3, rfl, rfl⟩
theorem exHeights (gi gu : Nat) : Does Tryz.prog 16 [.agg #[.slice none 0 0, .slice none 0 0, .slice (some ⟨gu, 0, none⟩) 1 1, .int .i64 0], .int .i64 0] [.blk gi 62 [.int .i64 0, .int .i64 1, .int .i64 1, .int .i64 2, .int .i64 34, .int .i64 1, .int .i64 23, .int .i64 0], .blk gu 59 [.string ⟨#[109, 97, 105, 110]⟩, .int .i64 0, .int .i64 0, .int .i64 1, .bool false, .slice (some ⟨gi, 0, none⟩) 4 4, .slice none 0 0], gWords]
    (fun v hp' => ∃ a' c', v = .tuple #[.slice a' 4 c', .int .i64 0] ∧ hp' = [row 3 1 a' 4 c' (ints [0, 0, 1, 0])]) :=
  Does.ent (cHeights_spec (exCo gi gu exI) (exCo_ok gi gu exI rfl exI_ok) 0) (fun Γ => exEnt gi gu exI) (fun v hp' h => by
    rw [exCo_p, if_neg (by rw [ex_right]; decide), if_neg (by rw [show uptoB 0 ((exCo gi gu exI).units.length : Int) = true from rfl]; decide)] at h
    obtain ⟨k, hk, hk0, a', c', rfl, rfl⟩ := h
    have hk : k < 1 := hk
    obtain rfl : k = 0 := by omega
    have e : ∀ x : UnV, x = exU gi exI → htsL (gr (exP exI) x.p) = [0, 0, 1, 0] := fun x hx => by rw [hx]; exact ex_hts
    have e2 := e ((exCo gi gu exI).units[0]'hk) rfl
    refine ⟨_, ⟨a', c', ?_, rfl⟩, fun Γ a w h => ?_, fun c hc => by rw [List.mem_singleton.1 hc]; trivial⟩
    · exact congrArg (fun l : List Int => Value.tuple #[Value.slice a' l.length c', Value.int IntKind.i64 0]) e2
    · exact (congrArg (fun l : List Int => [row 3 1 a' l.length c' (ints l)]) e2) ▸ h)
theorem exList (gi gu : Nat) : Does Tryz.prog 23 [.agg #[.slice none 0 0, .slice none 0 0, .slice (some ⟨gu, 0, none⟩) 1 1, .int .i64 0]] [.blk gi 62 [.int .i64 0, .int .i64 1, .int .i64 1, .int .i64 2, .int .i64 34, .int .i64 1, .int .i64 23, .int .i64 0], .blk gu 59 [.string ⟨#[109, 97, 105, 110]⟩, .int .i64 0, .int .i64 0, .int .i64 1, .bool false, .slice (some ⟨gi, 0, none⟩) 4 4, .slice none 0 0], gWords, gPow, gNames]
    (fun v hp' => ∃ a' c', v = .tuple #[.slice a' 5 c', .int .i64 0] ∧ hp' = [row 9 1 a' 5 c' (strsC exL)]) :=
  Does.ent (cList_spec (exCo gi gu exI) (exCo_ok gi gu exI rfl exI_ok)) (fun Γ => exEnt gi gu exI) (fun v hp' h => by
    rw [exCo_p, if_pos ex_right, ex_list] at h
    obtain ⟨a', c', rfl, rfl⟩ := h
    exact ⟨_, ⟨a', c', rfl, rfl⟩, fun Γ a w h => h, fun c hc => by rw [List.mem_singleton.1 hc]; trivial⟩)
theorem ex_n : nCo (exP exI) := exCo_p 0 0 exI ▸ right_n (exCo_ok 0 0 exI rfl exI_ok) (by rw [exCo_p]; exact ex_right)
theorem exBytes (gi gu : Nat) : Does Tryz.prog 21 [.agg #[.slice none 0 0, .slice none 0 0, .slice (some ⟨gu, 0, none⟩) 1 1, .int .i64 0]] [.blk gi 62 [.int .i64 0, .int .i64 1, .int .i64 1, .int .i64 2, .int .i64 34, .int .i64 1, .int .i64 23, .int .i64 0], .blk gu 59 [.string ⟨#[109, 97, 105, 110]⟩, .int .i64 0, .int .i64 0, .int .i64 1, .bool false, .slice (some ⟨gi, 0, none⟩) 4 4, .slice none 0 0], gWords]
    (fun v hp' => ∃ a' c', v = .tuple #[.slice a' (encCo (exP exI)).length c', .int .i64 0] ∧ hp' = [row 5 1 a' (encCo (exP exI)).length c' (u8s (encCo (exP exI)))]) :=
  Does.ent (cBytes_spec (exCo gi gu exI) (exCo_ok gi gu exI rfl exI_ok)) (fun Γ => exEnt gi gu exI) (fun v hp' h => by
    rw [exCo_p, if_pos ex_right] at h
    obtain ⟨a', c', rfl, rfl⟩ := h
    exact ⟨_, ⟨a', c', rfl, rfl⟩, fun Γ a w h => h, fun c hc => by rw [List.mem_singleton.1 hc]; trivial⟩)
theorem exCheck (gi gu : Nat) : Does Tryz.prog 18 [.agg #[.slice none 0 0, .slice none 0 0, .slice (some ⟨gu, 0, none⟩) 1 1, .int .i64 0]] [.blk gi 62 [.int .i64 0, .int .i64 1, .int .i64 1, .int .i64 2, .int .i64 34, .int .i64 1, .int .i64 23, .int .i64 0], .blk gu 59 [.string ⟨#[109, 97, 105, 110]⟩, .int .i64 0, .int .i64 0, .int .i64 1, .bool false, .slice (some ⟨gi, 0, none⟩) 4 4, .slice none 0 0], gWords] (fun v hp' => v = .int .i64 0 ∧ hp' = []) :=
  Does.ent (ccheck_spec (exCo gi gu exI) (exCo_ok gi gu exI rfl exI_ok)) (fun Γ => exEnt gi gu exI) (fun v hp' h => by
    rw [exCo_p, if_pos ex_right] at h
    obtain ⟨rfl, rfl⟩ := h
    exact ⟨_, ⟨rfl, rfl⟩, fun Γ a w h => h, fun c hc => by cases hc⟩)
theorem baCheck (gi gu : Nat) : Does Tryz.prog 18 [.agg #[.slice none 0 0, .slice none 0 0, .slice (some ⟨gu, 0, none⟩) 1 1, .int .i64 0]] [.blk gi 62 [.int .i64 0, .int .i64 1, .int .i64 1, .int .i64 2, .int .i64 6, .int .i64 1, .int .i64 23, .int .i64 0], .blk gu 59 [.string ⟨#[109, 97, 105, 110]⟩, .int .i64 0, .int .i64 0, .int .i64 1, .bool false, .slice (some ⟨gi, 0, none⟩) 4 4, .slice none 0 0], gWords] (fun v hp' => v = .int .i64 2 ∧ hp' = []) :=
  Does.ent (ccheck_spec (exCo gi gu baI) (exCo_ok gi gu baI rfl baI_ok)) (fun Γ => exEnt gi gu baI) (fun v hp' h => by
    rw [exCo_p, if_neg (by rw [ba_right]; decide)] at h
    obtain ⟨rfl, rfl⟩ := h
    exact ⟨_, ⟨rfl, rfl⟩, fun Γ a w h => h, fun c hc => by cases hc⟩)
theorem ex_encl : (encCo (exP exI)).length ≤ 549755813888 := by
  have := encCo_l ex_n (right_head ex_right)
  omega
theorem exSame (s : CoV) (hs : s.ok) (he : s.p = exP exI) (gi gu : Nat) : Does Tryz.prog 28 [.agg #[.slice s.sa s.strs.length s.sc, .slice s.ha s.shapes.length s.hc, .slice s.ua s.units.length s.uc, .int .i64 s.main], .agg #[.slice none 0 0, .slice none 0 0, .slice (some ⟨gu, 0, none⟩) 1 1, .int .i64 0]]
    [ro s.sa (strsC s.strs), ro s.ha (s.shapes.flatMap shC), gSh s.shapes, ro s.ua (s.units.flatMap unC), gUn s.units, .blk gi 62 [.int .i64 0, .int .i64 1, .int .i64 1, .int .i64 2, .int .i64 34, .int .i64 1, .int .i64 23, .int .i64 0], .blk gu 59 [.string ⟨#[109, 97, 105, 110]⟩, .int .i64 0, .int .i64 0, .int .i64 1, .bool false, .slice (some ⟨gi, 0, none⟩) 4 4, .slice none 0 0]] (fun v hp' => v = .bool true ∧ hp' = []) :=
  Does.ent (rSame_spec s (exCo gi gu exI) hs (exCo_ok gi gu exI rfl exI_ok) (by rw [he]; exact ex_encl) (by rw [exCo_p]; exact ex_encl)) (fun Γ => by
    have p1 : Ent Γ ⟨[], coHp s ++ [.blk gi 62 [.int .i64 0, .int .i64 1, .int .i64 1, .int .i64 2, .int .i64 34, .int .i64 1, .int .i64 23, .int .i64 0], .blk gu 59 [.string ⟨#[109, 97, 105, 110]⟩, .int .i64 0, .int .i64 0, .int .i64 1, .bool false, .slice (some ⟨gi, 0, none⟩) 4 4, .slice none 0 0]]⟩ ⟨[], [.blk gi 62 [.int .i64 0, .int .i64 1, .int .i64 1, .int .i64 2, .int .i64 34, .int .i64 1, .int .i64 23, .int .i64 0], .blk gu 59 [.string ⟨#[109, 97, 105, 110]⟩, .int .i64 0, .int .i64 0, .int .i64 1, .bool false, .slice (some ⟨gi, 0, none⟩) 4 4, .slice none 0 0]] ++ coHp s⟩ := ent_perm List.perm_append_comm
    have p2 : Ent Γ ⟨[], [.blk gi 62 [.int .i64 0, .int .i64 1, .int .i64 1, .int .i64 2, .int .i64 34, .int .i64 1, .int .i64 23, .int .i64 0], .blk gu 59 [.string ⟨#[109, 97, 105, 110]⟩, .int .i64 0, .int .i64 0, .int .i64 1, .bool false, .slice (some ⟨gi, 0, none⟩) 4 4, .slice none 0 0]] ++ coHp s⟩ ⟨[], coHp (exCo gi gu exI) ++ coHp s⟩ := exEnt gi gu exI
    have p3 : Ent Γ ⟨[], coHp (exCo gi gu exI) ++ coHp s⟩ ⟨[], coHp s ++ coHp (exCo gi gu exI)⟩ := ent_perm List.perm_append_comm
    exact p1.trans (p2.trans p3)) (fun v hp' h => by
    obtain ⟨rfl, rfl⟩ := h
    exact ⟨_, ⟨by rw [he, exCo_p, decide_eq_true rfl], rfl⟩, fun Γ a w h => h, fun c hc => by cases hc⟩)
set_option maxHeartbeats 8000000 in
theorem lives7_spec : Does Tryz.prog 15 [] [gWords, gPow, gNames] (fun v hp' => v = .bool true ∧ hp' = []) := by
  refine fn_enter Tryz.func15 rfl 90 rfl fun w0 h0 => ?_
  refine SQ (RG ?_)
  refine RR [] .z (.i 0 (.bool false) .a) .a ?_
  refine RZ (NT (SQ (RG ?_)))
  refine RC (dst := some 11) [] .a (example_spec) ?_
  rintro v _ ⟨i1, u1, rfl, rfl⟩
  refine RCG (dst := some 12) (.d (.d (.k .a))) (exHeights i1 u1) (GO (GV (GJ [0, 0]) 0 view_ro) [1, 1, 0]) ?_
  rintro v _ ⟨a1, c1, rfl, rfl⟩
  refine RR [] .z (.i 2 (.int .i64 0) (.i 1 (.slice a1 4 c1) (.d (.d (.k .a))))) .a ?_
  refine RZ (NT (SQ (RG ?_)))
  refine RC (dst := some 16) [] .a (example_spec) ?_
  rintro v _ ⟨i2, u2, rfl, rfl⟩
  refine RCG (dst := some 17) (.d (.d (.k .a))) (exList i2 u2) (GO (GV (GV (GV (GJ [0, 0]) 3 view_ro) 2 view_gPow) 1 view_ro) [3, 3, 0, 0, 0]) ?_
  rintro v _ ⟨a2, c2, rfl, rfl⟩
  refine RR [] .z (.i 4 (.int .i64 0) (.i 3 (.slice a2 5 c2) (.d (.d (.k .a))))) .a ?_
  refine RZ (NT (SQ (RG ?_)))
  refine RC (dst := some 21) [] .a (example_spec) ?_
  rintro v _ ⟨i3, u3, rfl, rfl⟩
  refine RCG (dst := some 22) (.d (.d (.k .a))) (exBytes i3 u3) (GO (GV (GJ [0, 0]) 2 view_ro) [1, 1, 0]) ?_
  rintro v _ ⟨a3, c3, rfl, rfl⟩
  refine wpr_fact (fun w h => row_addr h 0 rfl (code_pos _ ex_n)) ?_
  rintro ⟨gb, ob, rfl⟩
  have hL := cLoad_spec (some ⟨gb, ob, none⟩) c3 (encCo (exP exI)) (fun h => nomatch h) (by have := encCo_l ex_n (right_head ex_right); omega)
  obtain ⟨hl1, hl2⟩ := code_back ex_n ex_right
  rw [hl1, hl2] at hL
  refine RR [] .z (.i 6 (.int .i64 0) (.i 5 (.slice (some ⟨gb, ob, none⟩) 23 c3) (.d (.d (.k .a))))) (.i (row 5 1 (some ⟨gb, ob, none⟩) 23 c3 (u8s (encCo (exP exI)))) (.d (.k .a))) ?_
  refine RZ (NT (SQ (RG ?_)))
  refine RR [] (.d .a) (.i 26 (.slice (some ⟨gb, ob, none⟩) 23 c3) (.k (.d (.k .a)))) .a ?_
  refine RCG (dst := some 27) .a (hL) (GV (GV (GI []) 3 view_ro) 0 view_row) ?_
  rintro v _ ⟨s, hs, hsok, rfl, rfl⟩
  rw [show coC s = [.slice s.sa s.strs.length s.sc, .slice s.ha s.shapes.length s.hc, .slice s.ua s.units.length s.uc, .int .i64 s.main] from rfl]
  unfold coH
  refine RP [] (.d (.d (.d (.d .a)))) 7 (.i 29 (.int .i64 0) (.i 28 (.agg #[.slice s.sa s.strs.length s.sc, .slice s.ha s.shapes.length s.hc, .slice s.ua s.units.length s.uc, .int .i64 s.main]) (.d (.d (.k .a))))) .a 26 [.slice none 0 0, .slice none 0 0, .slice none 0 0, .int .i64 0] fun g1 => ?_
  refine RR [11, 11, 11, 11] .z (.i 8 (.int .i64 0) (.k (.d (.d (.k .a))))) (.k (.k (.k (.k (.k (.k (.k (.k (.k (.k (.k (.u (.i (.slice s.sa s.strs.length s.sc) (.i (.slice s.ha s.shapes.length s.hc) (.i (.slice s.ua s.units.length s.uc) (.i (.int .i64 s.main) .z)))) .a)))))))))))) ?_
  refine RZ (NT (SQ (RG ?_)))
  refine RC (dst := some 30) [] .a (example_spec) ?_
  rintro v _ ⟨i4, u4, rfl, rfl⟩
  refine RP [] (.d .a) 9 .a .a 26 [.slice none 0 0, .slice none 0 0, .slice none 0 0, .int .i64 0] fun g2 => ?_
  refine RR [14, 14, 14, 14] .z (.k (.d (.k .a))) (.k (.k (.k (.k (.k (.k (.k (.k (.k (.k (.k (.k (.k (.k (.u (.k (.k (.i (.slice (some ⟨u4, 0, none⟩) 1 1) (.d (.k .a))))) .a))))))))))))))) ?_
  refine RZ (NT (SQ ?_))
  refine wpc_draw (by kernel_rfl) [.blk u4 59 [.string (ByteArray.mk #[109, 97, 105, 110]), .int .i64 0, .int .i64 0, .int .i64 1, .bool false, .slice (some ⟨i4, 0, none⟩) 4 4, .slice none 0 0], row 9 1 s.sa s.strs.length s.sc (strsC s.strs), row 111 2 s.ha s.shapes.length s.hc (List.flatMap shC s.shapes), star (List.flatMap shRows s.shapes), row 59 7 s.ua s.units.length s.uc (List.flatMap unC s.units), star (List.flatMap unRows s.units), row 5 1 (some ⟨gb, ob, none⟩) 23 c3 (u8s (encCo (exP exI))), row 9 1 a2 5 c2 (strsC exL), row 3 1 a1 4 c1 (ints [0, 0, 1, 0]), gWords, gPow, gNames, .blk g1 26 [.slice s.sa s.strs.length s.sc, .slice s.ha s.shapes.length s.hc, .slice s.ua s.units.length s.uc, .int .i64 s.main], .blk g2 26 [.slice none 0 0, .slice none 0 0, .slice (some ⟨u4, 0, none⟩) 1 1, .int .i64 0]] (sub_of [1, 2, 3, 4, 5, 6, 7, 8, 9, 10, 11, 12, 13, 14] (by kernel_rfl)) 16 (by kernel_rfl) ?_
  refine wpa_take true [(0, []), (1, [13]), (2, []), (3, []), (4, [0]), (5, []), (6, [13]), (7, []), (8, []), (9, [0]), (10, []), (11, [])] [(42, .pointer (some ⟨i4, 4, none⟩)), (40, .slice (some ⟨i4, 0, none⟩) 4 4), (9, .pointer (some ⟨g2, 0, none⟩)), (8, .int .i64 0), (7, .pointer (some ⟨g1, 0, none⟩)), (6, .int .i64 0), (4, .int .i64 0), (3, .slice a2 5 c2), (2, .int .i64 0), (1, .slice a1 4 c1), (0, .bool false)] (#[true, true, true, true, true, true, true, true, true, true, true, true, false, false, false, false]) [(0 : Int) ≤ (0 : Int) ∧ (0 : Int) < (↑(1 : Nat) : Int), (0 : Int) ≤ (0 : Int) ∧ (0 : Int) < (↑(1 : Nat) : Int), (0 : Int) ≤ (2 : Int) ∧ (2 : Int) < (↑(4 : Nat) : Int)] (n := 4) (by kernel_rfl) (by kernel_rfl) (by kernel_rfl) ⟨by omega, by omega, by omega, trivial⟩ ?_
  refine AO 3 12 [0] (.d (.k .a)) (.u (.k (.k (.k (.k (.i (.int .i64 6) (.d (.k .a))))))) .a) [1, 2, 3, 4, 5, 6, 7, 8, 9, 10, 11, 12, 13, 14] ?_
  refine wpa_take true [(13, []), (14, [])] [(44, .pointer (some ⟨i4, 5, none⟩)), (9, .pointer (some ⟨g2, 0, none⟩)), (8, .int .i64 0), (7, .pointer (some ⟨g1, 0, none⟩)), (6, .int .i64 0), (4, .int .i64 0), (3, .slice a2 5 c2), (2, .int .i64 0), (1, .slice a1 4 c1), (0, .bool false)] (#[true, true, true, true, true, true, true, true, true, true, true, true, true, true, true, false]) [(0 : Int) ≤ (2 : Int) ∧ (2 : Int) < (↑(4 : Nat) : Int)] (n := 1) (by kernel_rfl) (by kernel_rfl) (by kernel_rfl) ⟨by omega, trivial⟩ ?_
  refine AO 0 15 [0] (.d (.k .a)) .a [1, 2, 3, 4, 5, 6, 7, 8, 9, 10, 11, 12, 13, 14] ?_
  refine wpa_done 0 (by kernel_rfl) ?_
  refine NT (SQ ?_)
  refine wpc_draw (by kernel_rfl) [.blk g1 26 [.slice s.sa s.strs.length s.sc, .slice s.ha s.shapes.length s.hc, .slice s.ua s.units.length s.uc, .int .i64 s.main], .blk g2 26 [.slice none 0 0, .slice none 0 0, .slice (some ⟨u4, 0, none⟩) 1 1, .int .i64 0]] (sub_of [13, 14] (by kernel_rfl)) 46 (by kernel_rfl) ?_
  refine TK 45 [(0, [])] (.i 45 (.slice a1 4 c1) (.k (.k (.k (.k (.k (.k (.k (.d (.k .a)))))))))) (#[true, false, false, false, false, false, false, false, false, false, false, false, false, false, false, false, false, false, false, false, false, false, false, false, false, false, false, false, false, false, false, false, false, false, false, false, false, false, false, false, false, false, false, false, false, false]) ?_
  refine wpa_new (n := 44) true 1 [] (fun g3 => [(46, .slice (some ⟨g3, 0, none⟩) 4 4), (45, .slice a1 4 c1), (9, .pointer (some ⟨g2, 0, none⟩)), (8, .int .i64 0), (7, .pointer (some ⟨g1, 0, none⟩)), (6, .int .i64 0), (4, .int .i64 0), (3, .slice a2 5 c2), (2, .int .i64 0), (0, .bool false)]) (fun g3 => [.blk i4 62 [.int .i64 0, .int .i64 1, .int .i64 1, .int .i64 2, .int .i64 6, .int .i64 1, .int .i64 23, .int .i64 0], .blk u4 59 [.string (ByteArray.mk #[109, 97, 105, 110]), .int .i64 0, .int .i64 0, .int .i64 1, .bool false, .slice (some ⟨i4, 0, none⟩) 4 4, .slice none 0 0], row 9 1 s.sa s.strs.length s.sc (strsC s.strs), row 111 2 s.ha s.shapes.length s.hc (List.flatMap shC s.shapes), star (List.flatMap shRows s.shapes), row 59 7 s.ua s.units.length s.uc (List.flatMap unC s.units), star (List.flatMap unRows s.units), row 5 1 (some ⟨gb, ob, none⟩) 23 c3 (u8s (encCo (exP exI))), row 9 1 a2 5 c2 (strsC exL), row 3 1 a1 4 c1 (ints [0, 0, 1, 0]), gWords, gPow, gNames, .blk g1 26 [.slice s.sa s.strs.length s.sc, .slice s.ha s.shapes.length s.hc, .slice s.ua s.units.length s.uc, .int .i64 s.main], .blk g2 26 [.slice none 0 0, .slice none 0 0, .slice (some ⟨u4, 0, none⟩) 1 1, .int .i64 0], .blk g3 3 [.int .i64 0, .int .i64 0, .int .i64 1, .int .i64 0]]) (fun g3 => []) (by kernel_rfl) (fun g3 => by kernel_rfl) (fun g3 => by kernel_rfl) (fun g3 => trivial) (fun g3 => sub_of [13, 14] (by kernel_rfl)) fun g3 => ?_
  refine wpa_ent (ent_turn 15 (ro (some ⟨g3, 0, none⟩) (ints [0, 0, 1, 0])) rfl (turn_rints [0, 0, 1, 0] rfl) rfl) ?_
  refine AC (dst := some 47) 43 2 .a (sameNums_spec a1 c1 [0, 0, 1, 0] (some ⟨g3, 0, none⟩) 4 [0, 0, 1, 0] (by decide) (by decide)) (GV (GV (GI []) 15 view_ro) 9 view_row) [13, 14] ?_
  rintro v _ ⟨rfl, rfl⟩
  rw [decide_eq_true rfl]
  refine TK 37 [(3, []), (4, []), (5, []), (6, []), (7, []), (8, [])] (.i 53 (.slice a2 5 c2) (.i 52 (.bool true) (.d (.d (.d (.k (.k (.k (.k (.k (.d (.d (.k .a))))))))))))) (#[true, true, true, true, true, true, true, true, true, false, false, false, false, false, false, false, false, false, false, false, false, false, false, false, false, false, false, false, false, false, false, false, false, false, false, false, false, false, false, false, false, false, false, false, false, false]) ?_
  refine wpa_new (n := 36) true 9 [] (fun g4 => [(54, .slice (some ⟨g4, 0, none⟩) 5 5), (53, .slice a2 5 c2), (52, .bool true), (9, .pointer (some ⟨g2, 0, none⟩)), (8, .int .i64 0), (7, .pointer (some ⟨g1, 0, none⟩)), (6, .int .i64 0), (4, .int .i64 0), (0, .bool false)]) (fun g4 => [.blk i4 62 [.int .i64 0, .int .i64 1, .int .i64 1, .int .i64 2, .int .i64 6, .int .i64 1, .int .i64 23, .int .i64 0], .blk u4 59 [.string (ByteArray.mk #[109, 97, 105, 110]), .int .i64 0, .int .i64 0, .int .i64 1, .bool false, .slice (some ⟨i4, 0, none⟩) 4 4, .slice none 0 0], row 9 1 s.sa s.strs.length s.sc (strsC s.strs), row 111 2 s.ha s.shapes.length s.hc (List.flatMap shC s.shapes), star (List.flatMap shRows s.shapes), row 59 7 s.ua s.units.length s.uc (List.flatMap unC s.units), star (List.flatMap unRows s.units), row 5 1 (some ⟨gb, ob, none⟩) 23 c3 (u8s (encCo (exP exI))), row 9 1 a2 5 c2 (strsC exL), row 3 1 a1 4 c1 (ints [0, 0, 1, 0]), gWords, gPow, gNames, .blk g1 26 [.slice s.sa s.strs.length s.sc, .slice s.ha s.shapes.length s.hc, .slice s.ua s.units.length s.uc, .int .i64 s.main], .blk g2 26 [.slice none 0 0, .slice none 0 0, .slice (some ⟨u4, 0, none⟩) 1 1, .int .i64 0], ro (some ⟨g3, 0, none⟩) (ints [0, 0, 1, 0]), .blk g4 9 [.string (ByteArray.mk #[102, 110, 32, 109, 97, 105, 110]), .string (ByteArray.mk #[48, 32, 109, 97, 114, 107, 32, 49]), .string (ByteArray.mk #[49, 32, 105, 110, 116, 32, 50]), .string (ByteArray.mk #[50, 32, 112, 114, 105, 110, 116, 32, 49]), .string (ByteArray.mk #[51, 32, 114, 101, 116, 117, 114, 110, 32, 48])]]) (fun g4 => []) (by kernel_rfl) (fun g4 => by kernel_rfl) (fun g4 => by kernel_rfl) (fun g4 => trivial) (fun g4 => sub_of [13, 14] (by kernel_rfl)) fun g4 => ?_
  refine wpa_ent (ent_turn 16 (ro (some ⟨g4, 0, none⟩) (strsC exL)) rfl (turn_rblk (strs_one exL)) rfl) ?_
  refine AC (dst := some 55) 35 10 .a (sameTexts_spec a2 c2 exL (some ⟨g4, 0, none⟩) 5 exL (by decide) (by decide)) (GV (GV (GI []) 16 view_ro) 8 view_row) [13, 14] ?_
  rintro v _ ⟨rfl, rfl⟩
  rw [decide_eq_true rfl]
  refine TK 20 [(11, []), (12, []), (13, []), (14, []), (15, []), (16, []), (17, []), (18, []), (19, []), (20, []), (21, []), (22, []), (23, []), (24, []), (25, [0, 0, 0, 0])] (.i 70 (.agg #[.slice s.sa s.strs.length s.sc, .slice s.ha s.shapes.length s.hc, .slice s.ua s.units.length s.uc, .int .i64 s.main]) (.i 69 (.bool true) (.d (.d (.d (.d (.k (.d (.d (.d (.d (.k .a)))))))))))) (#[true, true, true, true, true, true, true, true, true, true, true, true, true, true, true, true, true, true, true, true, true, true, true, true, true, true, false, false, false, false, false, false, false, false, false, false, false, false, false, false, false, false, false, false, false, false]) ?_
  refine AC (dst := some 71) 19 26 .a (example_spec) (GI []) [13, 14] ?_
  rintro v _ ⟨i5, u5, rfl, rfl⟩
  refine AC (dst := some 72) 18 27 (.d (.d (.k .a))) (exSame s hsok hs i5 u5) (GV (GV (GV (GV (GV (GI [0, 0]) 6 view_gUn) 5 view_row) 4 view_gSh) 3 view_row) 2 view_row) [13, 14] ?_
  rintro v _ ⟨rfl, rfl⟩
  refine TK 15 [(28, []), (29, []), (30, [1, 1, 1, 1])] (.i 75 (.agg #[.slice none 0 0, .slice none 0 0, .slice (some ⟨u4, 0, none⟩) 1 1, .int .i64 0]) (.i 74 (.bool true) (.d (.d (.d (.d (.d (.k .a)))))))) (#[true, true, true, true, true, true, true, true, true, true, true, true, true, true, true, true, true, true, true, true, true, true, true, true, true, true, true, true, true, true, true, false, false, false, false, false, false, false, false, false, false, false, false, false, false, false]) ?_
  refine AC (dst := some 76) 14 31 (.d (.d (.k .a))) (baCheck i4 u4) (GO (GV (GJ [0, 0]) 8 view_ro) [1, 1, 0]) [11, 12] ?_
  rintro v _ ⟨rfl, rfl⟩
  refine TK 11 [(32, []), (33, []), (34, [])] (.i 79 (.bool true) (.d (.d (.d (.k .a))))) (#[true, true, true, true, true, true, true, true, true, true, true, true, true, true, true, true, true, true, true, true, true, true, true, true, true, true, true, true, true, true, true, true, true, true, true, false, false, false, false, false, false, false, false, false, false, false]) ?_
  refine AC (dst := some 80) 10 35 .a (example_spec) (GI []) [11, 12] ?_
  rintro v _ ⟨i6, u6, rfl, rfl⟩
  refine AC (dst := some 81) 9 36 (.d (.d (.k .a))) (exCheck i6 u6) (GO (GV (GJ [0, 0]) 8 view_ro) [1, 1, 0]) [11, 12] ?_
  rintro v _ ⟨rfl, rfl⟩
  refine TK 0 [(37, []), (38, []), (39, []), (40, []), (41, []), (42, []), (43, []), (44, []), (45, [])] (.i 0 (.bool true) .z) (#[true, true, true, true, true, true, true, true, true, true, true, true, true, true, true, true, true, true, true, true, true, true, true, true, true, true, true, true, true, true, true, true, true, true, true, true, true, true, true, true, true, true, true, true, true, true]) ?_
  refine wpa_done 0 (by kernel_rfl) ?_
  refine NT (RE ?_)
  refine NE [] .z .a [] (.bool true) ?_
  exact ⟨rfl, rfl⟩
end Go.Proofs.YtgcfomhlgipllaaGreatDoor
namespace Go.Proofs.YtgcfomhlgipllaaGreatDoor
open Go Go.Sx
set_option maxHeartbeats 8000000 in
theorem CodeChecks_spec (c : CoV) (hc : c.ok) (n : Int) :
    Does Tryz.prog 3 [.agg (coC c).toArray, .int .i64 n] (coHp c ++ [gWords, gPow, gNames]) (fun v hp' => v = .bool true ∧ hp' = []) := by
  have hli := light_spec c hc
  have hH := cHeights_spec c hc n
  have hG := rHeights_spec c hc n
  have hC := ccheck_spec c hc
  have hD := rcheck_spec c hc
  rw [show coC c = [.slice c.sa c.strs.length c.sc, .slice c.ha c.shapes.length c.hc, .slice c.ua c.units.length c.uc, .int .i64 c.main] from rfl] at hli hH hG hC hD ⊢
  unfold coHp at hli hH hG hC hD ⊢
  refine fn_enter Tryz.func3 rfl 43 rfl fun w0 h0 => ?_
  refine SQ (RG ?_)
  refine RP [] (.d .a) 2 (.d (.k .a)) .a 26 [.slice c.sa c.strs.length c.sc, .slice c.ha c.shapes.length c.hc, .slice c.ua c.units.length c.uc, .int .i64 c.main] fun g1 => ?_
  refine RR [] .z (.i 4 (.bool false) .a) .a ?_
  refine RZ (NT (SQ (SQ (RG ?_))))
  refine RR [8, 8, 8, 8] (.d .a) (.i 9 (.agg #[.slice c.sa c.strs.length c.sc, .slice c.ha c.shapes.length c.hc, .slice c.ua c.units.length c.uc, .int .i64 c.main]) .a) .a ?_
  refine RCG (dst := some 10) .a (hli) (GV (GV (GV (GV (GV (GI []) 4 view_self) 3 view_ro) 2 view_self) 1 view_ro) 0 view_ro) ?_
  rintro v _ ⟨b, rfl, rfl⟩
  cases b with
  | false =>
    refine RR [] .z (.i 11 (.bool true) (.d (.d (.k .a)))) .a ?_
    refine RZ (NT (CT (SQ (RG ?_))))
    refine RCG (dst := some 12) .a (lives7_spec) (GV (GV (GV (GI []) 7 view_ro) 6 view_gPow) 5 view_ro) ?_
    rintro v _ ⟨rfl, rfl⟩
    refine RR [] .z (.i 4 (.bool true) (.d (.d (.d (.k .a))))) .a ?_
    refine RZ (NT (RE (TR ?_)))
    refine NE [] .z .a [] (.bool true) ?_
    exact ⟨rfl, rfl⟩
  | true =>
  by_cases hr : rightC c.p = false
  · rw [if_neg (by rw [hr]; decide)] at hC hD
    refine RR [] .z (.i 11 (.bool false) (.d (.d (.k .a)))) .a ?_
    refine RZ (NT (CF (SK (NT (SQ (RG ?_))))))
    refine RR [8, 8, 8, 8] (.d (.d .a)) (.i 15 (.int .i64 n) (.i 14 (.agg #[.slice c.sa c.strs.length c.sc, .slice c.ha c.shapes.length c.hc, .slice c.ua c.units.length c.uc, .int .i64 c.main]) (.d (.k .a)))) .a ?_
    refine RCG (dst := some 16) .a (hH) (GV (GV (GV (GV (GV (GV (GI []) 5 view_ro) 4 view_self) 3 view_ro) 2 view_self) 1 view_ro) 0 view_ro) ?_
    intro v hp' hv
    rw [if_pos hr] at hv
    obtain ⟨rfl, rfl⟩ := hv
    refine RR [] .z (.i 6 (.int .i64 2) (.i 5 (.slice none 0 0) (.d (.d (.d (.k .a)))))) .a ?_
    refine RZ (NT (SQ (RG ?_)))
    refine RR [8, 8, 8, 8] (.d (.d .a)) (.i 21 (.int .i64 n) (.i 20 (.agg #[.slice c.sa c.strs.length c.sc, .slice c.ha c.shapes.length c.hc, .slice c.ua c.units.length c.uc, .int .i64 c.main]) (.k (.k (.k (.k .z)))))) .a ?_
    refine RCG (dst := some 22) .a (hG) (GV (GV (GV (GV (GV (GI []) 4 view_self) 3 view_ro) 2 view_self) 1 view_ro) 0 view_ro) ?_
    intro v hp' hv
    rw [if_pos hr] at hv
    obtain ⟨rfl, rfl⟩ := hv
    refine RR [] .z (.i 8 (.int .i64 2) (.i 7 (.slice none 0 0) (.d (.d (.d (.k .a)))))) .a ?_
    refine RZ (NT (SQ ?_))
    refine wpc_draw (by kernel_rfl) [.blk g1 26 [.slice c.sa c.strs.length c.sc, .slice c.ha c.shapes.length c.hc, .slice c.ua c.units.length c.uc, .int .i64 c.main]] (sub_of [8] (by kernel_rfl)) 19 (by kernel_rfl) ?_
    refine TK 17 [(0, [0, 0, 0, 0]), (2, [0, 0, 0, 0])] (.i 27 (.agg #[.slice c.sa c.strs.length c.sc, .slice c.ha c.shapes.length c.hc, .slice c.ua c.units.length c.uc, .int .i64 c.main]) (.i 25 (.agg #[.slice c.sa c.strs.length c.sc, .slice c.ha c.shapes.length c.hc, .slice c.ua c.units.length c.uc, .int .i64 c.main]) (.k (.k (.k (.k (.k .z))))))) (#[true, false, true, false, false, false, false, false, false, false, false, false, false, false, false, false, false, false, false]) ?_
    refine AC (dst := some 26) 16 1 .a (hC) (GV (GV (GV (GV (GV (GV (GI []) 5 view_ro) 4 view_self) 3 view_ro) 2 view_self) 1 view_ro) 0 view_ro) [8] ?_
    rintro v _ ⟨rfl, rfl⟩
    refine AC (dst := some 28) 15 3 .a (hD) (GV (GV (GV (GV (GV (GI []) 4 view_self) 3 view_ro) 2 view_self) 1 view_ro) 0 view_ro) [8] ?_
    rintro v _ ⟨rfl, rfl⟩
    refine TK 11 [(4, []), (5, []), (6, []), (7, [])] (.i 32 (.slice none 0 0) (.i 31 (.slice none 0 0) (.i 30 (.bool true) (.d (.d (.d (.d (.k (.d (.k (.d (.k .a)))))))))))) (#[true, true, true, true, true, true, true, true, false, false, false, false, false, false, false, false, false, false, false]) ?_
    refine wpa_ent (Ent.trans ent_roz ent_roz) ?_
    refine AC (dst := some 33) 10 8 .a (sameNums_spec none 0 [] none 0 [] (Nat.zero_le _) (Nat.zero_le _)) (GV (GV (GI []) 0 view_ro) 0 view_ro) [10] ?_
    rintro v _ ⟨rfl, rfl⟩
    rw [decide_eq_true rfl]
    refine TK 3 [(9, []), (10, []), (11, []), (12, []), (13, []), (14, []), (15, [])] (.i 40 (.bool true) (.d (.d (.d (.d (.d (.d (.k .a)))))))) (#[true, true, true, true, true, true, true, true, true, true, true, true, true, true, true, true, false, false, false]) ?_
    refine AC (dst := some 41) 2 16 .a (lives7_spec) (GV (GV (GV (GI []) 9 view_ro) 8 view_gPow) 7 view_ro) [10] ?_
    rintro v _ ⟨rfl, rfl⟩
    refine TK 0 [(17, []), (18, [])] (.i 4 (.bool true) .z) (#[true, true, true, true, true, true, true, true, true, true, true, true, true, true, true, true, true, true, true]) ?_
    refine wpa_done 0 (by kernel_rfl) ?_
    refine NT (RE ?_)
    refine NE [] .z .a [] (.bool true) ?_
    exact ⟨rfl, rfl⟩
  rw [if_pos (by rw [Bool.not_eq_false] at hr; exact hr)] at hC hD
  by_cases hn : uptoB n c.units.length = false
  · refine RR [] .z (.i 11 (.bool false) (.d (.d (.k .a)))) .a ?_
    refine RZ (NT (CF (SK (NT (SQ (RG ?_))))))
    refine RR [8, 8, 8, 8] (.d (.d .a)) (.i 15 (.int .i64 n) (.i 14 (.agg #[.slice c.sa c.strs.length c.sc, .slice c.ha c.shapes.length c.hc, .slice c.ua c.units.length c.uc, .int .i64 c.main]) (.d (.k .a)))) .a ?_
    refine RCG (dst := some 16) .a (hH) (GV (GV (GV (GV (GV (GV (GI []) 5 view_ro) 4 view_self) 3 view_ro) 2 view_self) 1 view_ro) 0 view_ro) ?_
    intro v hp' hv
    rw [if_neg hr, if_pos hn] at hv
    obtain ⟨rfl, rfl⟩ := hv
    refine RR [] .z (.i 6 (.int .i64 10) (.i 5 (.slice none 0 0) (.d (.d (.d (.k .a)))))) .a ?_
    refine RZ (NT (SQ (RG ?_)))
    refine RR [8, 8, 8, 8] (.d (.d .a)) (.i 21 (.int .i64 n) (.i 20 (.agg #[.slice c.sa c.strs.length c.sc, .slice c.ha c.shapes.length c.hc, .slice c.ua c.units.length c.uc, .int .i64 c.main]) (.k (.k (.k (.k .z)))))) .a ?_
    refine RCG (dst := some 22) .a (hG) (GV (GV (GV (GV (GV (GI []) 4 view_self) 3 view_ro) 2 view_self) 1 view_ro) 0 view_ro) ?_
    intro v hp' hv
    rw [if_neg hr, if_pos hn] at hv
    obtain ⟨rfl, rfl⟩ := hv
    refine RR [] .z (.i 8 (.int .i64 10) (.i 7 (.slice none 0 0) (.d (.d (.d (.k .a)))))) .a ?_
    refine RZ (NT (SQ ?_))
    refine wpc_draw (by kernel_rfl) [.blk g1 26 [.slice c.sa c.strs.length c.sc, .slice c.ha c.shapes.length c.hc, .slice c.ua c.units.length c.uc, .int .i64 c.main]] (sub_of [8] (by kernel_rfl)) 19 (by kernel_rfl) ?_
    refine TK 17 [(0, [0, 0, 0, 0]), (2, [0, 0, 0, 0])] (.i 27 (.agg #[.slice c.sa c.strs.length c.sc, .slice c.ha c.shapes.length c.hc, .slice c.ua c.units.length c.uc, .int .i64 c.main]) (.i 25 (.agg #[.slice c.sa c.strs.length c.sc, .slice c.ha c.shapes.length c.hc, .slice c.ua c.units.length c.uc, .int .i64 c.main]) (.k (.k (.k (.k (.k .z))))))) (#[true, false, true, false, false, false, false, false, false, false, false, false, false, false, false, false, false, false, false]) ?_
    refine AC (dst := some 26) 16 1 .a (hC) (GV (GV (GV (GV (GV (GV (GI []) 5 view_ro) 4 view_self) 3 view_ro) 2 view_self) 1 view_ro) 0 view_ro) [8] ?_
    rintro v _ ⟨rfl, rfl⟩
    refine AC (dst := some 28) 15 3 .a (hD) (GV (GV (GV (GV (GV (GI []) 4 view_self) 3 view_ro) 2 view_self) 1 view_ro) 0 view_ro) [8] ?_
    rintro v _ ⟨rfl, rfl⟩
    refine TK 11 [(4, []), (5, []), (6, []), (7, [])] (.i 32 (.slice none 0 0) (.i 31 (.slice none 0 0) (.i 30 (.bool true) (.d (.d (.d (.d (.k (.d (.k (.d (.k .a)))))))))))) (#[true, true, true, true, true, true, true, true, false, false, false, false, false, false, false, false, false, false, false]) ?_
    refine wpa_ent (Ent.trans ent_roz ent_roz) ?_
    refine AC (dst := some 33) 10 8 .a (sameNums_spec none 0 [] none 0 [] (Nat.zero_le _) (Nat.zero_le _)) (GV (GV (GI []) 0 view_ro) 0 view_ro) [10] ?_
    rintro v _ ⟨rfl, rfl⟩
    rw [decide_eq_true rfl]
    refine TK 3 [(9, []), (10, []), (11, []), (12, []), (13, []), (14, []), (15, [])] (.i 40 (.bool true) (.d (.d (.d (.d (.d (.d (.k .a)))))))) (#[true, true, true, true, true, true, true, true, true, true, true, true, true, true, true, true, false, false, false]) ?_
    refine AC (dst := some 41) 2 16 .a (lives7_spec) (GV (GV (GV (GI []) 9 view_ro) 8 view_gPow) 7 view_ro) [10] ?_
    rintro v _ ⟨rfl, rfl⟩
    refine TK 0 [(17, []), (18, [])] (.i 4 (.bool true) .z) (#[true, true, true, true, true, true, true, true, true, true, true, true, true, true, true, true, true, true, true]) ?_
    refine wpa_done 0 (by kernel_rfl) ?_
    refine NT (RE ?_)
    refine NE [] .z .a [] (.bool true) ?_
    exact ⟨rfl, rfl⟩
  · have hil : ∀ k, (hk : k < c.units.length) → (htsL (gr c.p c.units[k].p)).length ≤ 1048576 := fun k hk => by
      have h1 : (htsL (gr c.p c.units[k].p)).length = c.units[k].ins.length := htsL_len c.p c.units[k].p
      have := (hc.2.2.2.2.2.1 _ (List.getElem_mem hk)).2.2.2.2.1
      omega
    refine RR [] .z (.i 11 (.bool false) (.d (.d (.k .a)))) .a ?_
    refine RZ (NT (CF (SK (NT (SQ (RG ?_))))))
    refine RR [8, 8, 8, 8] (.d (.d .a)) (.i 15 (.int .i64 n) (.i 14 (.agg #[.slice c.sa c.strs.length c.sc, .slice c.ha c.shapes.length c.hc, .slice c.ua c.units.length c.uc, .int .i64 c.main]) (.d (.k .a)))) .a ?_
    refine RCG (dst := some 16) .a (hH) (GV (GV (GV (GV (GV (GV (GI []) 5 view_ro) 4 view_self) 3 view_ro) 2 view_self) 1 view_ro) 0 view_ro) ?_
    intro v hp' hv
    rw [if_neg hr, if_neg hn] at hv
    obtain ⟨k, hk, rfl, a1, c1, rfl, rfl⟩ := hv
    refine RR [] .z (.i 6 (.int .i64 0) (.i 5 (.slice a1 (htsL (gr c.p c.units[k].p)).length c1) (.d (.d (.d (.k .a)))))) .a ?_
    refine RZ (NT (SQ (RG ?_)))
    refine RR [9, 9, 9, 9] (.d (.d .a)) (.i 21 (.int .i64 (↑k : Int)) (.i 20 (.agg #[.slice c.sa c.strs.length c.sc, .slice c.ha c.shapes.length c.hc, .slice c.ua c.units.length c.uc, .int .i64 c.main]) (.k (.k (.k (.k .z)))))) .a ?_
    refine RCG (dst := some 22) .a (hG) (GV (GV (GV (GV (GV (GI []) 5 view_self) 4 view_ro) 3 view_self) 2 view_ro) 1 view_ro) ?_
    intro v hp' hv
    rw [if_neg hr, if_neg hn] at hv
    obtain ⟨k2, hk2, hkk, a2, c2, rfl, rfl⟩ := hv
    obtain rfl : k = k2 := by omega
    have hkl := hil k hk
    obtain ⟨H, hH⟩ : ∃ H, H = htsL (gr c.p c.units[k].p) := ⟨_, rfl⟩
    rw [← hH] at hkl ⊢
    refine RR [] .z (.i 8 (.int .i64 0) (.i 7 (.slice a2 H.length c2) (.d (.d (.d (.k .a)))))) .a ?_
    refine RZ (NT (SQ ?_))
    refine wpc_draw (by kernel_rfl) [.blk g1 26 [.slice c.sa c.strs.length c.sc, .slice c.ha c.shapes.length c.hc, .slice c.ua c.units.length c.uc, .int .i64 c.main]] (sub_of [10] (by kernel_rfl)) 19 (by kernel_rfl) ?_
    refine TK 17 [(0, [0, 0, 0, 0]), (2, [0, 0, 0, 0])] (.i 27 (.agg #[.slice c.sa c.strs.length c.sc, .slice c.ha c.shapes.length c.hc, .slice c.ua c.units.length c.uc, .int .i64 c.main]) (.i 25 (.agg #[.slice c.sa c.strs.length c.sc, .slice c.ha c.shapes.length c.hc, .slice c.ua c.units.length c.uc, .int .i64 c.main]) (.k (.k (.k (.k (.k .z))))))) (#[true, false, true, false, false, false, false, false, false, false, false, false, false, false, false, false, false, false, false]) ?_
    refine AC (dst := some 26) 16 1 .a (hC) (GV (GV (GV (GV (GV (GV (GI []) 7 view_ro) 6 view_self) 5 view_ro) 4 view_self) 3 view_ro) 2 view_ro) [10] ?_
    rintro v _ ⟨rfl, rfl⟩
    refine AC (dst := some 28) 15 3 .a (hD) (GV (GV (GV (GV (GV (GI []) 6 view_self) 5 view_ro) 4 view_self) 3 view_ro) 2 view_ro) [10] ?_
    rintro v _ ⟨rfl, rfl⟩
    refine TK 11 [(4, []), (5, []), (6, []), (7, [])] (.i 32 (.slice a2 H.length c2) (.i 31 (.slice a1 H.length c1) (.i 30 (.bool true) (.d (.d (.d (.d (.k (.d (.k (.d (.k .a)))))))))))) (#[true, true, true, true, true, true, true, true, false, false, false, false, false, false, false, false, false, false, false]) ?_
    refine AC (dst := some 33) 10 8 .a (sameNums_spec a1 c1 H a2 c2 H hkl hkl) (GV (GV (GI []) 0 view_row) 1 view_row) [10] ?_
    rintro v _ ⟨rfl, rfl⟩
    rw [decide_eq_true rfl]
    refine TK 3 [(9, []), (10, []), (11, []), (12, []), (13, []), (14, []), (15, [])] (.i 40 (.bool true) (.d (.d (.d (.d (.d (.d (.k .a)))))))) (#[true, true, true, true, true, true, true, true, true, true, true, true, true, true, true, true, false, false, false]) ?_
    refine AC (dst := some 41) 2 16 .a (lives7_spec) (GV (GV (GV (GI []) 9 view_ro) 8 view_gPow) 7 view_ro) [10] ?_
    rintro v _ ⟨rfl, rfl⟩
    refine TK 0 [(17, []), (18, [])] (.i 4 (.bool true) .z) (#[true, true, true, true, true, true, true, true, true, true, true, true, true, true, true, true, true, true, true]) ?_
    refine wpa_done 0 (by kernel_rfl) ?_
    refine NT (RE ?_)
    refine NE [] .z .a [] (.bool true) ?_
    exact ⟨rfl, rfl⟩
set_option maxHeartbeats 8000000 in
theorem CodeWrites_spec (c : CoV) (hc : c.ok) :
    Does Tryz.prog 4 [.agg (coC c).toArray] (coHp c ++ [gWords, gPow, gNames]) (fun v hp' => v = .bool true ∧ hp' = []) := by
  have hli := light_spec c hc
  have h1 := cBytes_spec c hc
  have h2 := rBytes_spec c hc
  have h3 := cList_spec c hc
  have h4 := rList_spec c hc
  rw [show coC c = [.slice c.sa c.strs.length c.sc, .slice c.ha c.shapes.length c.hc, .slice c.ua c.units.length c.uc, .int .i64 c.main] from rfl] at hli h1 h2 h3 h4 ⊢
  unfold coHp at hli h1 h2 h3 h4 ⊢
  refine fn_enter Tryz.func4 rfl 57 rfl fun w0 h0 => ?_
  refine SQ (RG ?_)
  refine RP [] (.d .a) 1 .z .a 26 [.slice c.sa c.strs.length c.sc, .slice c.ha c.shapes.length c.hc, .slice c.ua c.units.length c.uc, .int .i64 c.main] fun g1 => ?_
  refine RR [] .z (.i 2 (.bool false) .a) .a ?_
  refine RZ (NT (SQ (SQ (RG ?_))))
  refine RR [8, 8, 8, 8] (.d .a) (.i 11 (.agg #[.slice c.sa c.strs.length c.sc, .slice c.ha c.shapes.length c.hc, .slice c.ua c.units.length c.uc, .int .i64 c.main]) .a) .a ?_
  refine RCG (dst := some 12) .a (hli) (GV (GV (GV (GV (GV (GI []) 4 view_self) 3 view_ro) 2 view_self) 1 view_ro) 0 view_ro) ?_
  rintro v _ ⟨b, rfl, rfl⟩
  cases b with
  | false =>
    refine RR [] .z (.i 13 (.bool true) (.d (.d (.k .a)))) .a ?_
    refine RZ (NT (CT (SQ (RG ?_))))
    refine RCG (dst := some 14) .a (lives7_spec) (GV (GV (GV (GI []) 7 view_ro) 6 view_gPow) 5 view_ro) ?_
    rintro v _ ⟨rfl, rfl⟩
    refine RR [] .z (.i 2 (.bool true) (.d (.d (.d (.k .a))))) .a ?_
    refine RZ (NT (RE (TR ?_)))
    refine NE [] .z .a [] (.bool true) ?_
    exact ⟨rfl, rfl⟩
  | true =>
  by_cases hr : rightC c.p = true
  · rw [if_pos hr] at h2
    have hll : (listC c.p).length ≤ 1048576 := by
      obtain ⟨r1, r2⟩ := right_lens hr
      have := listL_len (c.units.map UnV.p) (by rw [List.length_map]; exact r1) (fun u hu => by obtain ⟨y, hy, rfl⟩ := List.mem_map.1 hu; exact (r2 y hy).1)
      show ((c.units.map UnV.p).flatMap listU).length ≤ _
      omega
    have hbl := encCo_l (right_n hc hr) (right_head hr)
    have hpos := code_pos _ (right_n hc hr)
    obtain ⟨B, hB⟩ : ∃ B, B = encCo c.p := ⟨_, rfl⟩
    obtain ⟨L, hL⟩ : ∃ L, L = listC c.p := ⟨_, rfl⟩
    rw [← hB] at h1 h2 hbl hpos
    rw [← hL] at h3 h4 hll
    refine RR [] .z (.i 13 (.bool false) (.d (.d (.k .a)))) .a ?_
    refine RZ (NT (CF (SK (NT (SQ (RG ?_))))))
    refine RR [8, 8, 8, 8] (.d .a) (.i 16 (.agg #[.slice c.sa c.strs.length c.sc, .slice c.ha c.shapes.length c.hc, .slice c.ua c.units.length c.uc, .int .i64 c.main]) (.d (.k .a))) .a ?_
    refine RCG (dst := some 17) .a (h1) (GV (GV (GV (GV (GV (GV (GI []) 5 view_ro) 4 view_self) 3 view_ro) 2 view_self) 1 view_ro) 0 view_ro) ?_
    intro v hp' hv
    rw [if_pos hr] at hv
    obtain ⟨a1, c1, rfl, rfl⟩ := hv
    refine RR [] .z (.i 4 (.int .i64 0) (.i 3 (.slice a1 B.length c1) (.d (.d (.k .a))))) .a ?_
    refine RZ (NT (SQ (RG ?_)))
    refine RR [9, 9, 9, 9] (.d .a) (.i 21 (.agg #[.slice c.sa c.strs.length c.sc, .slice c.ha c.shapes.length c.hc, .slice c.ua c.units.length c.uc, .int .i64 c.main]) .a) .a ?_
    refine RCG (dst := some 22) .a (h2) (GV (GV (GV (GV (GV (GI []) 5 view_self) 4 view_ro) 3 view_self) 2 view_ro) 1 view_ro) ?_
    rintro v _ ⟨rfl, rfl⟩
    refine RR [] .z (.i 6 (.int .i64 0) (.i 5 (.string (mkS B)) (.d (.d (.k .a))))) .a ?_
    refine RZ (NT (SQ (RG ?_)))
    refine RR [9, 9, 9, 9] (.d .a) (.i 26 (.agg #[.slice c.sa c.strs.length c.sc, .slice c.ha c.shapes.length c.hc, .slice c.ua c.units.length c.uc, .int .i64 c.main]) .a) .a ?_
    refine RCG (dst := some 27) .a (h3) (GV (GV (GV (GV (GV (GV (GV (GV (GI []) 8 view_ro) 7 view_gPow) 6 view_ro) 5 view_self) 4 view_ro) 3 view_self) 2 view_ro) 1 view_ro) ?_
    intro v hp' hv
    rw [if_pos hr] at hv
    obtain ⟨a3, c3, rfl, rfl⟩ := hv
    refine RR [] .z (.i 8 (.int .i64 0) (.i 7 (.slice a3 L.length c3) (.d (.d (.k .a))))) .a ?_
    refine RZ (NT (SQ (RG ?_)))
    refine RR [10, 10, 10, 10] (.d .a) (.i 31 (.agg #[.slice c.sa c.strs.length c.sc, .slice c.ha c.shapes.length c.hc, .slice c.ua c.units.length c.uc, .int .i64 c.main]) (.k (.k (.k (.k (.k (.k (.k .z)))))))) .a ?_
    refine RCG (dst := some 32) .a (h4) (GV (GV (GV (GV (GV (GI []) 6 view_self) 5 view_ro) 4 view_self) 3 view_ro) 2 view_ro) ?_
    intro v hp' hv
    rw [if_pos hr] at hv
    obtain ⟨a4, c4, rfl, rfl⟩ := hv
    refine RR [] .z (.i 10 (.int .i64 0) (.i 9 (.slice a4 L.length c4) (.d (.d (.k .a))))) .a ?_
    refine RZ (NT (SQ (RG ?_)))
    refine RR [] (.d .a) (.i 35 (.slice a1 B.length c1) (.k (.k (.k (.k (.k (.k (.k (.d (.k .a)))))))))) .a ?_
    refine wpr_eq (b2s (a := 39) (b := 9) (ad := a1) (n := B.length) (c := c1) (dst := some 36) (by kernel_rfl) (by kernel_rfl) B (by first | rfl | simp) (fun w h => b2s_row h 2 rfl)) ?_
    refine RR [] (.d (.d (.d .a))) (.i 39 (.bool (decide (B = B))) (.d (.d (.k (.k (.k (.k (.k (.d (.k .a)))))))))) .a ?_
    refine SR 39 (decide (B = B)) true (by simp) ?_
    refine RR [] (.d (.d (.d (.d (.d (.d (.d .a))))))) (.i 46 (.slice a4 L.length c4) (.i 45 (.slice a3 L.length c3) (.i 44 (.bool true) (.d (.d (.k (.d (.k (.d (.d (.d (.k .a)))))))))))) .a ?_
    refine RCG (dst := some 47) .a (sameTexts_spec a3 c3 L a4 c4 L hll hll) (GV (GV (GI []) 0 view_row) 1 view_row) ?_
    rintro v _ ⟨rfl, rfl⟩
    rw [decide_eq_true rfl]
    refine RR [] (.d (.d .a)) (.i 49 (.bool (decide (L = L))) (.d (.d (.d (.d (.k .a)))))) .a ?_
    refine SR 49 (decide (L = L)) true (by simp) ?_
    refine RR [] (.d (.d (.d (.d (.d .a))))) (.i 54 (.bool true) (.d (.d (.d (.d (.k .a)))))) .a ?_
    refine RCG (dst := some 55) .a (lives7_spec) (GV (GV (GV (GI []) 10 view_ro) 9 view_gPow) 8 view_ro) ?_
    rintro v _ ⟨rfl, rfl⟩
    refine RR [] .z (.i 2 (.bool true) .z) .a ?_
    refine RZ (NT (RE ?_))
    refine NE [] .z .a [] (.bool true) ?_
    exact ⟨rfl, rfl⟩
  · rw [if_neg hr] at h2
    refine RR [] .z (.i 13 (.bool false) (.d (.d (.k .a)))) .a ?_
    refine RZ (NT (CF (SK (NT (SQ (RG ?_))))))
    refine RR [8, 8, 8, 8] (.d .a) (.i 16 (.agg #[.slice c.sa c.strs.length c.sc, .slice c.ha c.shapes.length c.hc, .slice c.ua c.units.length c.uc, .int .i64 c.main]) (.d (.k .a))) .a ?_
    refine RCG (dst := some 17) .a (h1) (GV (GV (GV (GV (GV (GV (GI []) 5 view_ro) 4 view_self) 3 view_ro) 2 view_self) 1 view_ro) 0 view_ro) ?_
    intro v hp' hv
    rw [if_neg hr] at hv
    obtain ⟨rfl, rfl⟩ := hv
    refine RR [] .z (.i 4 (.int .i64 2) (.i 3 (.slice none 0 0) (.d (.d (.k .a))))) .a ?_
    refine RZ (NT (SQ (RG ?_)))
    refine RR [8, 8, 8, 8] (.d .a) (.i 21 (.agg #[.slice c.sa c.strs.length c.sc, .slice c.ha c.shapes.length c.hc, .slice c.ua c.units.length c.uc, .int .i64 c.main]) .a) .a ?_
    refine RCG (dst := some 22) .a (h2) (GV (GV (GV (GV (GV (GI []) 4 view_self) 3 view_ro) 2 view_self) 1 view_ro) 0 view_ro) ?_
    rintro v _ ⟨rfl, rfl⟩
    refine RR [] .z (.i 6 (.int .i64 2) (.i 5 (.string ⟨#[]⟩) (.d (.d (.k .a))))) .a ?_
    refine RZ (NT (SQ (RG ?_)))
    refine RR [8, 8, 8, 8] (.d .a) (.i 26 (.agg #[.slice c.sa c.strs.length c.sc, .slice c.ha c.shapes.length c.hc, .slice c.ua c.units.length c.uc, .int .i64 c.main]) .a) .a ?_
    refine RCG (dst := some 27) .a (h3) (GV (GV (GV (GV (GV (GV (GV (GV (GI []) 7 view_ro) 6 view_gPow) 5 view_ro) 4 view_self) 3 view_ro) 2 view_self) 1 view_ro) 0 view_ro) ?_
    intro v hp' hv
    rw [if_neg hr] at hv
    obtain ⟨rfl, rfl⟩ := hv
    refine RR [] .z (.i 8 (.int .i64 2) (.i 7 (.slice none 0 0) (.d (.d (.k .a))))) .a ?_
    refine RZ (NT (SQ (RG ?_)))
    refine RR [8, 8, 8, 8] (.d .a) (.i 31 (.agg #[.slice c.sa c.strs.length c.sc, .slice c.ha c.shapes.length c.hc, .slice c.ua c.units.length c.uc, .int .i64 c.main]) (.k (.k (.k (.k (.k (.k (.k .z)))))))) .a ?_
    refine RCG (dst := some 32) .a (h4) (GV (GV (GV (GV (GV (GI []) 4 view_self) 3 view_ro) 2 view_self) 1 view_ro) 0 view_ro) ?_
    intro v hp' hv
    rw [if_neg hr] at hv
    obtain ⟨rfl, rfl⟩ := hv
    refine RR [] .z (.i 10 (.int .i64 2) (.i 9 (.slice none 0 0) (.d (.d (.k .a))))) .a ?_
    refine RZ (NT (SQ (RG ?_)))
    refine RR [] (.d (.d (.d (.d (.d (.d (.d (.d (.d (.d (.d (.d .a)))))))))))) (.i 46 (.slice none 0 0) (.i 45 (.slice none 0 0) (.i 44 (.bool true) (.k (.d (.k (.d (.d (.d (.d (.d (.k .a)))))))))))) .a ?_
    refine wpr_ent (Ent.trans ent_roz ent_roz) ?_
    refine RCG (dst := some 47) .a (sameTexts_spec none 0 [] none 0 [] (Nat.zero_le _) (Nat.zero_le _)) (GV (GV (GI []) 0 view_ro) 0 view_ro) ?_
    rintro v _ ⟨rfl, rfl⟩
    rw [decide_eq_true rfl]
    refine RR [] (.d (.d (.d (.d (.d (.d (.d .a))))))) (.i 54 (.bool true) (.d (.d (.d (.d (.d (.d (.k .a)))))))) .a ?_
    refine RCG (dst := some 55) .a (lives7_spec) (GV (GV (GV (GI []) 9 view_ro) 8 view_gPow) 7 view_ro) ?_
    rintro v _ ⟨rfl, rfl⟩
    refine RR [] .z (.i 2 (.bool true) .z) .a ?_
    refine RZ (NT (RE ?_))
    refine NE [] .z .a [] (.bool true) ?_
    exact ⟨rfl, rfl⟩
end Go.Proofs.YtgcfomhlgipllaaGreatDoor
