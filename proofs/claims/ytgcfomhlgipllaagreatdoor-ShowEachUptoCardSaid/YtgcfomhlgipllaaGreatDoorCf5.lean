import Derived.Test.YtgcfomhlgipllaaGreatDoorCf4
set_option linter.unusedVariables false
set_option linter.unusedSimpArgs false
namespace Go.Proofs.YtgcfomhlgipllaaGreatDoor
open Go Go.Sx
set_option maxHeartbeats 8000000 in
theorem ShowEach_spec (v : ViV) (hv : v.ok) (ao : Option Addr) (c : Nat) (l : List Ob) (hl : l.length ≤ 1048576) (hs : smO l) (hi : ∀ o ∈ l, ∀ x ∈ o.cells, x.i64) :
    Does Tryz.prog 13 [.agg (viC v).toArray, .slice ao l.length c] [ro ao (l.flatMap objC), gBag l, gWords, gPow, ro v.fa (v.frames.flatMap frC), gFr v.frames, ro v.sa (v.stops.flatMap spC)] (fun r hp' => r = .bool true ∧ hp' = []) := by
  have hLd := LoadE ao c l hl hs hi
  have hFw := few_spec v hv ao c l hl hs
  have hV : viC v = [.int .i64 v.pos, .int .i64 v.status, .int .i64 v.fault, .slice v.fa v.frames.length v.fc, .string (mkS v.out), .int .i64 v.sel, .slice v.sa v.stops.length v.sc, .int .i64 v.err, .int .i64 v.n, .string (mkS v.says)] := rfl
  rw [hV] at hFw ⊢
  refine fn_enter Tryz.func13 rfl 190 rfl fun w0 h0 => ?_
  refine SQ (RG ?_)
  refine RP [] (.d .a) 2 (.d (.k .a)) .a 76 [.int .i64 v.pos, .int .i64 v.status, .int .i64 v.fault, .slice v.fa v.frames.length v.fc, .string (mkS v.out), .int .i64 v.sel, .slice v.sa v.stops.length v.sc, .int .i64 v.err, .int .i64 v.n, .string (mkS v.says)] fun g1 => ?_
  refine RR [] .z (.i 4 (.bool false) .a) .a ?_
  refine RZ (NT (SQ (RG ?_)))
  refine RR [] (.d .a) (.i 17 (.slice ao l.length c) .a) .a ?_
  refine RCG (dst := some 18) .a (hLd) (GV (GV (GV (GI []) 2 view_ro) 1 view_self) 0 view_ro) ?_
  rintro r _ h
  rcases h with ⟨e, rfl, rfl⟩ | ⟨g, a', c', l', ud, hm, hoH, hl4, rfl, rfl⟩
  · refine RR [] .z (.i 5 (.pointer none) (.d (.d (.k .a)))) .a ?_
    refine RZ (NT (SQ (SQ (RG ?_))))
    refine RR [7, 7, 7, 7, 7, 7, 7, 7, 7, 7] (.d (.d .a)) (.i 22 (.slice ao l.length c) (.i 21 (.agg #[.int .i64 v.pos, .int .i64 v.status, .int .i64 v.fault, .slice v.fa v.frames.length v.fc, .string (mkS v.out), .int .i64 v.sel, .slice v.sa v.stops.length v.sc, .int .i64 v.err, .int .i64 v.n, .string (mkS v.says)]) (.k (.k (.k .z))))) .a ?_
    refine RCG (dst := some 23) .a (hFw) (GV (GV (GI []) 0 view_ro) 4 view_ro) ?_
    rintro r _ ⟨b, rfl, rfl⟩
    cases b with
    | false =>
      refine RR [] .z (.i 28 (.bool true) (.d (.d (.d (.k .a))))) .a ?_
      refine RZ (NT (CT (SQ (RG ?_))))
      refine RCG (dst := some 29) .a (lives16_spec) (GV (GI []) 3 view_gPow) ?_
      rintro r _ ⟨rfl, rfl⟩
      refine RR [] .z (.i 4 (.bool true) (.d (.d (.k (.d (.k .a)))))) .a ?_
      refine RZ (NT (RE (TR ?_)))
      refine NE [] .z .a [] (.bool true) ?_
      exact ⟨rfl, rfl⟩
    | true =>
      refine RR [] .z (.i 28 (.bool true) (.d (.d (.d (.k .a))))) .a ?_
      refine RZ (NT (CT (SQ (RG ?_))))
      refine RCG (dst := some 29) .a (lives16_spec) (GV (GI []) 3 view_gPow) ?_
      rintro r _ ⟨rfl, rfl⟩
      refine RR [] .z (.i 4 (.bool true) (.d (.d (.k (.d (.k .a)))))) .a ?_
      refine RZ (NT (RE (TR ?_)))
      refine NE [] .z .a [] (.bool true) ?_
      exact ⟨rfl, rfl⟩
  · have hLn := Lines_spec g (mostI 4096) ud a' c' l' hl4 hoH v hv
    have hBy := Bytes_spec g (mostI 4096) ud a' c' l' hl4 hoH v hv
    rw [hV] at hLn hBy
    have hn := linesT_n (l'.map Ob.o) v
    have h2 := linesT_200 (l'.map Ob.o) v
    have hok := lines_ok (l'.map Ob.o) v
    have htc := tail_count v.out
    rw [htc] at hn
    obtain ⟨T, hTe⟩ : ∃ T, T = linesT (l'.map Ob.o) v := ⟨_, rfl⟩
    rw [← hTe] at hLn hBy hn h2 hok
    have hBl := bytesT_len T h2
    refine RR [] .z (.i 5 (.pointer (some ⟨g, 0, none⟩)) (.d (.d (.k .a)))) (.u (.k (.i (.int .i64 4096) (.d (.k .a)))) .a) ?_
    refine RZ (NT (SQ (SQ (RG ?_))))
    refine RR [10, 10, 10, 10, 10, 10, 10, 10, 10, 10] (.d (.d .a)) (.i 22 (.slice ao l.length c) (.i 21 (.agg #[.int .i64 v.pos, .int .i64 v.status, .int .i64 v.fault, .slice v.fa v.frames.length v.fc, .string (mkS v.out), .int .i64 v.sel, .slice v.sa v.stops.length v.sc, .int .i64 v.err, .int .i64 v.n, .string (mkS v.says)]) (.k (.k (.k .z))))) .a ?_
    refine RCG (dst := some 23) .a (hFw) (GV (GV (GI []) 3 view_ro) 7 view_ro) ?_
    rintro r _ ⟨b, rfl, rfl⟩
    cases b with
    | false =>
      refine RR [] .z (.i 28 (.bool true) (.d (.d (.d (.k .a))))) .a ?_
      refine RZ (NT (CT (SQ (RG ?_))))
      refine RCG (dst := some 29) .a (lives16_spec) (GV (GI []) 6 view_gPow) ?_
      rintro r _ ⟨rfl, rfl⟩
      refine RR [] .z (.i 4 (.bool true) (.d (.d (.k (.d (.k .a)))))) .a ?_
      refine RZ (NT (RE (TR ?_)))
      refine NE [] .z .a [] (.bool true) ?_
      exact ⟨rfl, rfl⟩
    | true =>
      refine RR [] .z (.i 28 (.bool false) (.d (.d (.d (.k .a))))) .a ?_
      refine RZ (NT (CF (SK (NT (SQ (RG ?_))))))
      refine RR [10, 10, 10, 10, 10, 10, 10, 10, 10, 10] (.d (.d .a)) (.i 32 (.pointer (some ⟨g, 0, none⟩)) (.i 31 (.agg #[.int .i64 v.pos, .int .i64 v.status, .int .i64 v.fault, .slice v.fa v.frames.length v.fc, .string (mkS v.out), .int .i64 v.sel, .slice v.sa v.stops.length v.sc, .int .i64 v.err, .int .i64 v.n, .string (mkS v.says)]) (.d (.k .a)))) .a ?_
      refine RCG (dst := some 33) .a (hLn) (GV (GV (GV (GV (GV (GV (GV (GI []) 9 view_ro) 8 view_self) 7 view_ro) 6 view_gPow) 2 view_gBag) 1 view_row) 0 (view_blk0 (by simp [Go.Sx.One, Value.oneCell']))) ?_
      rintro r _ h
      cases hvb : viewB l'.length v with
      | false =>
        rw [hvb, if_neg (by decide)] at h
        obtain ⟨rfl, rfl⟩ := h
        refine RR [] .z (.i 8 (.int .i64 2) (.i 7 (.slice none 0 0) (.d (.d (.d (.k .a)))))) .a ?_
        refine RZ (NT (SQ (RG ?_)))
        refine RR [10, 10, 10, 10, 10, 10, 10, 10, 10, 10] (.d (.d .a)) (.i 38 (.pointer (some ⟨g, 0, none⟩)) (.i 37 (.agg #[.int .i64 v.pos, .int .i64 v.status, .int .i64 v.fault, .slice v.fa v.frames.length v.fc, .string (mkS v.out), .int .i64 v.sel, .slice v.sa v.stops.length v.sc, .int .i64 v.err, .int .i64 v.n, .string (mkS v.says)]) (.k (.k (.d (.k .a)))))) .a ?_
        refine RCG (dst := some 39) .a (hBy) (GV (GV (GV (GV (GV (GV (GV (GI []) 9 view_ro) 8 view_self) 7 view_ro) 6 view_gPow) 2 view_gBag) 1 view_row) 0 (view_blk0 (by simp [Go.Sx.One, Value.oneCell']))) ?_
        rintro r _ h
        rw [hvb, if_neg (by decide)] at h
        obtain ⟨rfl, rfl⟩ := h
        refine RR [] .z (.i 10 (.int .i64 2) (.i 9 (.slice none 0 0) (.d (.d (.d (.k .a)))))) .a ?_
        refine RZ (NT (SQ (SQ (RG ?_))))
        refine RR [] .z (.i 43 (.bool true) .a) .a ?_
        refine RZ (NT (CT (SQ (RG ?_))))
        refine RR [] (.d (.d (.d (.d (.d (.d (.d (.d (.d (.d (.d (.d (.d (.d .a)))))))))))))) (.i 57 (.bool true) (.d (.k (.k (.d (.k .a)))))) .a ?_
        refine RCG (dst := some 58) .a (lives16_spec) (GV (GI []) 6 view_gPow) ?_
        rintro r _ ⟨rfl, rfl⟩
        refine RR [] .z (.i 4 (.bool true) (.d (.d (.k (.k (.k (.d (.k .a)))))))) .a ?_
        refine RZ (NT (RE (TR ?_)))
        refine NE [] .z .a [] (.bool true) ?_
        exact ⟨rfl, rfl⟩
      | true =>
        rw [hvb, if_pos rfl] at h
        obtain ⟨a1, c1, rfl, rfl⟩ := h
        refine RR [] .z (.i 8 (.int .i64 0) (.i 7 (.slice a1 T.length c1) (.d (.d (.d (.k .a)))))) .a ?_
        refine RZ (NT (SQ (RG ?_)))
        refine RR [11, 11, 11, 11, 11, 11, 11, 11, 11, 11] (.d (.d .a)) (.i 38 (.pointer (some ⟨g, 0, none⟩)) (.i 37 (.agg #[.int .i64 v.pos, .int .i64 v.status, .int .i64 v.fault, .slice v.fa v.frames.length v.fc, .string (mkS v.out), .int .i64 v.sel, .slice v.sa v.stops.length v.sc, .int .i64 v.err, .int .i64 v.n, .string (mkS v.says)]) (.k (.k (.d (.k .a)))))) .a ?_
        refine RCG (dst := some 39) .a (hBy) (GV (GV (GV (GV (GV (GV (GV (GI []) 10 view_ro) 9 view_self) 8 view_ro) 7 view_gPow) 3 view_gBag) 2 view_row) 1 (view_blk0 (by simp [Go.Sx.One, Value.oneCell']))) ?_
        rintro r _ h
        rw [hvb, if_pos rfl] at h
        obtain ⟨a2, c2, rfl, rfl⟩ := h
        have hf := hv.2.2.2.1
        have hst := hv.2.2.2.2.2.2.2.1
        have hot : v.out.length ≤ 1048576 := hv.2.2.2.2.2.1
        have hEs := fun i (h : i < T.length) => ends_succ h
        have hEa := ends_all T
        have hEl := fun i (h : i < T.length) => ends_lt h
        have hBL := fun i (h : i < T.length) => bytes_line h
        have hBz := fun i (h : i < T.length) => bytes_end h
        have hE0 := ends_zero T
        obtain ⟨E, hEe⟩ : ∃ E, E = ends T := ⟨_, rfl⟩
        obtain ⟨B, hBe⟩ : ∃ B, B = bytesT T := ⟨_, rfl⟩
        simp only [← hEe, ← hBe] at hEs hEa hEl hBL hBz hE0 hBl ⊢
        obtain ⟨K, hK0, hKs, hKn, hKl⟩ := count_way v.out
        rw [← hKn] at hn
        have hKl2 := hKl v.out.length
        have hoz : (mkS v.out).size = v.out.length := mkS_size _
        refine RR [] .z (.i 10 (.int .i64 0) (.i 9 (.slice a2 (List.length B) c2) (.d (.d (.d (.k .a)))))) .a ?_
        refine RZ (NT (SQ (SQ (RG ?_))))
        refine RR [] .z (.i 43 (.bool false) .a) .a ?_
        refine RZ (NT (CF (SK (NT (SQ (RG ?_))))))
        refine RR [] .z (.i 12 (.int .i64 0) (.i 11 (.int .i64 0) (.d (.k (.k (.d (.k .a))))))) .a ?_
        refine RZ (NT (SQ (SQ (RG ?_))))
        refine RR [] .z (.i 13 (.int .i64 0) .a) .a ?_
        refine RZ (NT (BK ?_))
        refine wpc_fact (fun w h => row_addr h 1 rfl (by omega)) ?_
        rintro ⟨gx, ox, rfl⟩
        have hT0 : 0 < T.length := by omega
        have hB0 := hEl 0 hT0
        refine wpc_fact (fun w h => row_addr h 0 rfl (by omega)) ?_
        rintro ⟨gb, ob, rfl⟩
        refine wpc_fact (fun w h => row_cap h 0 rfl) ?_
        rintro ⟨-, hcb, hcm⟩
        refine wpc_ent (ent_turn 0 (ro (some ⟨gb, ob, none⟩) (u8s B)) rfl (turn_view view_row) rfl) ?_
        refine wpc_ent (ent_turn 1 (ro (some ⟨gx, ox, none⟩) (strsC T)) rfl (turn_view view_row) rfl) ?_
        refine wpc_loop (X := {i : Nat // i ≤ v.out.length}) (fun x => St.mk [(13, .int .i64 (x.1 : Int)), (12, .int .i64 0), (11, .int .i64 (K x.1 : Int)), (10, .int .i64 0), (9, .slice (some ⟨gb, ob, none⟩) B.length c2), (7, .slice (some ⟨gx, ox, none⟩) T.length c1), (4, .bool false), (2, .pointer (some ⟨g1, 0, none⟩))]
          [ro (some ⟨gb, ob, none⟩) (u8s B), ro (some ⟨gx, ox, none⟩) (strsC T), gPow, .blk g1 76 [.int .i64 v.pos, .int .i64 v.status, .int .i64 v.fault, .slice v.fa v.frames.length v.fc, .string (mkS v.out), .int .i64 v.sel, .slice v.sa v.stops.length v.sc, .int .i64 v.err, .int .i64 v.n, .string (mkS v.says)]]) (fun x => v.out.length - x.1) ⟨0, Nat.zero_le _⟩ (by rw [hK0]; exact Ent.trans (ent_hp [0, 0, 6, 9] rfl) (ent_fr (by kernel_rfl))) ?_
        rintro ⟨i, hi⟩
        dsimp only at hi ⊢
        have hKi := hKl i
        by_cases hlt : i < v.out.length
        · have hbt : bt (mkS v.out) (i : Int) = (v.out[i].toNat : Int) := bt_at hlt
          have hsu := hKs i hlt
          by_cases h10 : v.out[i].toNat = 10
          · rw [if_pos h10] at hsu
            refine SQ (SQ (RG ?_))
            refine RR [3] .z (.i 65 (.bool (decide ((↑i : Int) < (↑(List.length v.out) : Int)))) .a) .a ?_
            refine RZ (NT ?_)
            refine SC 65 (decide ((↑i : Int) < (↑(List.length v.out) : Int))) true (decide_eq_true (by omega)) ?_
            refine CT (SK (NT (SQ (BK (SQ (RG ?_))))))
            refine RV true [3] .z (.i 73 (.bool (bt (mkS v.out) (↑i : Int) == (10 : Int))) (.d (.d (.k .a)))) .a [(0 : Int) ≤ (↑i : Int) ∧ (↑i : Int) < (↑(List.length v.out) : Int)] ⟨by omega, trivial⟩ ?_
            refine RZ (NT ?_)
            refine SC 73 (bt (mkS v.out) (↑i : Int) == (10 : Int)) true (by simp only [bne_iff_ne, beq_iff_eq, ne_eq]; omega) ?_
            refine CT (RG ?_)
            refine RV true [] .z (.i 11 (.int .i64 ((↑(K i) : Int) + 1)) (.d (.d (.k (.k (.d (.k .a))))))) .a ([inI64 ((↑(K i) : Int) + (1 : Int))]) ⟨by unfold inI64; omega, trivial⟩ ?_
            refine RZ (BN (NT (RG ?_)))
            refine RV true [] .z (.i 13 (.int .i64 ((↑i : Int) + 1)) (.k (.d (.k .a)))) .a ([inI64 ((↑i : Int) + (1 : Int))]) ⟨by unfold inI64; omega, trivial⟩ ?_
            refine RZ ?_
            refine nx_ent (ent_set 11 (.int .i64 ((↑(K i) : Int) + 1)) (Value.int .i64 (K (i + 1) : Int)) (by kernel_rfl) (by rw [hsu]; rfl)) ?_
            exact fun a' w' hS' => ⟨⟨i + 1, hlt⟩, by dsimp only; omega, ent_fr (by kernel_rfl) _ _ (ent_hp [0, 0, 0, 0] rfl _ _ hS')⟩
          · rw [if_neg h10] at hsu
            refine SQ (SQ (RG ?_))
            refine RR [3] .z (.i 65 (.bool (decide ((↑i : Int) < (↑(List.length v.out) : Int)))) .a) .a ?_
            refine RZ (NT ?_)
            refine SC 65 (decide ((↑i : Int) < (↑(List.length v.out) : Int))) true (decide_eq_true (by omega)) ?_
            refine CT (SK (NT (SQ (BK (SQ (RG ?_))))))
            refine RV true [3] .z (.i 73 (.bool (bt (mkS v.out) (↑i : Int) == (10 : Int))) (.d (.d (.k .a)))) .a [(0 : Int) ≤ (↑i : Int) ∧ (↑i : Int) < (↑(List.length v.out) : Int)] ⟨by omega, trivial⟩ ?_
            refine RZ (NT ?_)
            refine SC 73 (bt (mkS v.out) (↑i : Int) == (10 : Int)) false (by simp only [bne_eq_false_iff_eq, beq_eq_false_iff_ne, ne_eq]; omega) ?_
            refine CF (SK (BN (NT (RG ?_))))
            refine RV true [] .z (.i 13 (.int .i64 ((↑i : Int) + 1)) (.d (.d (.d (.k .a))))) .a ([inI64 ((↑i : Int) + (1 : Int))]) ⟨by unfold inI64; omega, trivial⟩ ?_
            refine RZ ?_
            refine nx_ent (ent_set 11 (.int .i64 (↑(K i) : Int)) (Value.int .i64 (K (i + 1) : Int)) (by kernel_rfl) (by rw [hsu]; rfl)) ?_
            exact fun a' w' hS' => ⟨⟨i + 1, hlt⟩, by dsimp only; omega, ent_fr (by kernel_rfl) _ _ (ent_hp [0, 0, 0, 0] rfl _ _ hS')⟩
        · obtain rfl : i = v.out.length := by omega
          refine SQ (SQ (RG ?_))
          refine RR [3] .z (.i 65 (.bool (decide ((↑(List.length v.out) : Int) < (↑(List.length v.out) : Int)))) .a) .a ?_
          refine RZ (NT ?_)
          refine SC 65 (decide ((↑(List.length v.out) : Int) < (↑(List.length v.out) : Int))) false (by simp) ?_
          refine CF (EX (TE (TE (BH (NT (SQ (SQ (RG ?_))))))))
          refine RV true [3, 3] (.d (.d (.d (.d (.d (.d (.d (.d (.d (.d (.d (.d (.d (.d (.d (.d .a)))))))))))))))) (.i 91 (.bool ((↑T.length : Int) != (2 : Int) + (↑v.frames.length : Int) + (↑v.stops.length : Int) + if (4 : Int) < (↑(K (List.length v.out)) : Int) then (4 : Int) else (↑(K (List.length v.out)) : Int))) (.d (.d (.d (.k (.d (.k (.k (.k (.k .z)))))))))) .a ([inI64 ((2 : Int) + (↑v.frames.length : Int)), inI64 ((2 : Int) + (↑v.frames.length : Int) + (↑v.stops.length : Int)), inI64 ((2 : Int) + (↑v.frames.length : Int) + (↑v.stops.length : Int) + if (4 : Int) < (↑(K (List.length v.out)) : Int) then (4 : Int) else (↑(K (List.length v.out)) : Int))]) ⟨by unfold inI64; omega, by unfold inI64; omega, by unfold inI64; omega, trivial⟩ ?_
          refine SR 91 ((↑T.length : Int) != (2 : Int) + (↑v.frames.length : Int) + (↑v.stops.length : Int) + if (4 : Int) < (↑(K (List.length v.out)) : Int) then (4 : Int) else (↑(K (List.length v.out)) : Int)) false (by simp only [bne_eq_false_iff_eq, beq_eq_false_iff_ne, ne_eq]; omega) ?_
          refine RR [] .z (.i 94 (.bool false) (.d (.d (.k (.d (.k .a)))))) .a ?_
          refine RZ (NT (CF (SK (NT (SQ (SQ (RG ?_)))))))
          refine RR [] .z (.i 14 (.int .i64 0) (.d (.k .a))) .a ?_
          refine RZ (NT (BK ?_))
          refine wpc_loop (X := {i : Nat // i ≤ T.length}) (fun x => St.mk [(14, .int .i64 (x.1 : Int)), (12, .int .i64 (E x.1 : Int)), (9, .slice (some ⟨gb, ob, none⟩) B.length c2), (7, .slice (some ⟨gx, ox, none⟩) T.length c1), (4, .bool false)]
            [ro (some ⟨gb, ob, none⟩) (u8s B), ro (some ⟨gx, ox, none⟩) (strsC T), gPow]) (fun x => T.length - x.1) ⟨0, Nat.zero_le _⟩ (by rw [hE0]; exact Ent.trans (ent_hp [0, 0, 0] rfl) (ent_fr (by kernel_rfl))) ?_
          rintro ⟨i, hi⟩
          dsimp only at hi ⊢
          by_cases hlt : i < T.length
          · have hat := strs_at hlt
            have hln := h2 _ (List.getElem_mem hlt)
            have hby := hok _ (List.getElem_mem hlt)
            have hE1 := hEs i hlt
            have hE2 := hEl i hlt
            have hB1 := hBL i hlt
            have hB2 := hBz i hlt
            obtain ⟨X, hX⟩ : ∃ X, X = T[i] := ⟨_, rfl⟩
            simp only [← hX] at hat hln hby hE1 hE2 hB1 hB2
            have hXz : (mkS X).size = X.length := mkS_size _
            refine wpc_ent (ent_copy 0 (ro (some ⟨gb, sOff ob ((E i : Nat) : Int) (c2 : Int) 1, none⟩) (u8s X)) rfl (fun h => h) (by rw [← hB1]; exact view_win (E i) X.length c2 hcb)) ?_
            refine SQ (SQ (RG ?_))
            refine RR [] .z (.i 98 (.bool (decide ((↑i : Int) < (↑T.length : Int)))) .a) .a ?_
            refine RZ (NT ?_)
            refine SC 98 (decide ((↑i : Int) < (↑T.length : Int))) true (decide_eq_true (by omega)) ?_
            refine CT (SK (NT (SQ (BK (SQ (SQ ?_))))))
            refine wpc_draw (by kernel_rfl) [ro (some (Addr.mk gb (sOff ob (↑(E i) : Int) (↑c2 : Int) 1) none)) (u8s X), ro (some ⟨gb, ob, none⟩) (u8s B), ro (some ⟨gx, ox, none⟩) (strsC T)] (sub_of [0, 1, 2] (by kernel_rfl)) 49 (by kernel_rfl) ?_
            refine wpa_take true [(0, []), (1, []), (2, [])] ([(103, .pointer (some ⟨gx, ox + i * 1, none⟩)), (14, .int .i64 (↑i : Int)), (12, .int .i64 (↑(E i) : Int)), (9, .slice (some ⟨gb, ob, none⟩) (List.length B) c2), (7, .slice (some ⟨gx, ox, none⟩) T.length c1), (4, .bool false)]) (#[true, true, true, false, false, false, false, false, false, false, false, false, false, false, false, false, false, false, false, false, false, false, false, false, false, false, false, false, false, false, false, false, false, false, false, false, false, false, false, false, false, false, false, false, false, false, false, false, false]) [(0 : Int) ≤ (↑i : Int) ∧ (↑i : Int) < (↑T.length : Int)] (n := 46) (by kernel_rfl) (by kernel_rfl) (by kernel_rfl) ⟨by omega, trivial⟩ ?_
            refine wpa_qld (i := 3) (n := 45) (by kernel_rfl) (by kernel_rfl) (by kernel_rfl) (t := 9) (a := ⟨gx, ox + i * 1, none⟩) (dst := some 104) (by kernel_rfl) false 1 (by kernel_rfl) (by simp) [.string (mkS X)] rfl (fun w h => ld_roL h 2 rfl (i * 1) hat) ?_
            refine TK 42 [(4, []), (5, []), (6, [])] (.i 107 (.bool (decide ((↑(List.length X) : Int) > (200 : Int)))) (.d (.d (.k .a)))) (#[true, true, true, true, true, true, true, false, false, false, false, false, false, false, false, false, false, false, false, false, false, false, false, false, false, false, false, false, false, false, false, false, false, false, false, false, false, false, false, false, false, false, false, false, false, false, false, false, false]) ?_
            refine SA 107 (decide ((↑(List.length X) : Int) > (200 : Int))) false (decide_eq_false (by omega)) ?_
            refine wpa_take true [(7, []), (8, []), (9, []), (10, []), (14, []), (15, [])] ([(116, .int .i64 (↑(List.length B) : Int)), (111, .pointer (some ⟨gx, ox + i * 1, none⟩)), (108, .int .i64 (↑(E i) : Int)), (107, .bool false), (14, .int .i64 (↑i : Int)), (12, .int .i64 (↑(E i) : Int)), (9, .slice (some ⟨gb, ob, none⟩) (List.length B) c2), (7, .slice (some ⟨gx, ox, none⟩) T.length c1), (4, .bool false)]) (#[true, true, true, true, true, true, true, true, true, true, true, false, false, false, true, true, false, false, false, false, false, false, false, false, false, false, false, false, false, false, false, false, false, false, false, false, false, false, false, false, false, false, false, false, false, false, false, false, false]) [(0 : Int) ≤ (↑i : Int) ∧ (↑i : Int) < (↑T.length : Int)] (n := 36) (by kernel_rfl) (by kernel_rfl) (by kernel_rfl) ⟨by omega, trivial⟩ ?_
            refine wpa_qld (i := 11) (n := 35) (by kernel_rfl) (by kernel_rfl) (by kernel_rfl) (t := 9) (a := ⟨gx, ox + i * 1, none⟩) (dst := some 112) (by kernel_rfl) false 1 (by kernel_rfl) (by simp) [.string (mkS X)] rfl (fun w h => ld_roL h 2 rfl (i * 1) hat) ?_
            refine wpa_take true [(12, []), (13, []), (16, []), (17, []), (18, [])] ([(119, .bool (decide ((↑(E i) : Int) + (↑(List.length X) : Int) ≥ (↑(List.length B) : Int)))), (14, .int .i64 (↑i : Int)), (12, .int .i64 (↑(E i) : Int)), (9, .slice (some ⟨gb, ob, none⟩) (List.length B) c2), (7, .slice (some ⟨gx, ox, none⟩) T.length c1), (4, .bool false)]) (#[true, true, true, true, true, true, true, true, true, true, true, true, true, true, true, true, true, true, true, false, false, false, false, false, false, false, false, false, false, false, false, false, false, false, false, false, false, false, false, false, false, false, false, false, false, false, false, false, false]) ([inI64 ((↑(E i) : Int) + (↑(List.length X) : Int))]) (n := 30) (by kernel_rfl) (by kernel_rfl) (by kernel_rfl) ⟨by unfold inI64; omega, trivial⟩ ?_
            refine SA 119 (decide ((↑(E i) : Int) + (↑(List.length X) : Int) ≥ (↑(List.length B) : Int))) false (decide_eq_false (by omega)) ?_
            refine wpa_take true [(19, []), (20, []), (21, []), (22, []), (23, []), (24, []), (30, []), (31, []), (32, [])] ([(133, .pointer (some ⟨gx, ox + i * 1, none⟩)), (125, .pointer (some ⟨gx, ox + i * 1, none⟩)), (122, .int .i64 (↑(E i) : Int)), (121, .int .i64 (↑(E i) : Int)), (120, .slice (some ⟨gb, ob, none⟩) (List.length B) c2), (119, .bool false), (14, .int .i64 (↑i : Int)), (12, .int .i64 (↑(E i) : Int)), (9, .slice (some ⟨gb, ob, none⟩) (List.length B) c2), (7, .slice (some ⟨gx, ox, none⟩) T.length c1), (4, .bool false)]) (#[true, true, true, true, true, true, true, true, true, true, true, true, true, true, true, true, true, true, true, true, true, true, true, true, true, false, false, false, false, false, true, true, true, false, false, false, false, false, false, false, false, false, false, false, false, false, false, false, false]) [(0 : Int) ≤ (↑i : Int) ∧ (↑i : Int) < (↑T.length : Int), (0 : Int) ≤ (↑i : Int) ∧ (↑i : Int) < (↑T.length : Int)] (n := 21) (by kernel_rfl) (by kernel_rfl) (by kernel_rfl) ⟨by omega, by omega, trivial⟩ ?_
            refine wpa_qld (i := 25) (n := 20) (by kernel_rfl) (by kernel_rfl) (by kernel_rfl) (t := 9) (a := ⟨gx, ox + i * 1, none⟩) (dst := some 126) (by kernel_rfl) false 1 (by kernel_rfl) (by simp) [.string (mkS X)] rfl (fun w h => ld_roL h 2 rfl (i * 1) hat) ?_
            refine wpa_take true [(26, []), (27, []), (28, [])] ([(129, .slice (some (Addr.mk gb (sOff ob (↑(E i) : Int) (↑c2 : Int) 1) none)) (Int.toNat ((↑(E i) : Int) + (↑(List.length X) : Int) - (↑(E i) : Int))) (Int.toNat ((↑c2 : Int) - (↑(E i) : Int)))), (133, .pointer (some ⟨gx, ox + i * 1, none⟩)), (119, .bool false), (14, .int .i64 (↑i : Int)), (12, .int .i64 (↑(E i) : Int)), (9, .slice (some ⟨gb, ob, none⟩) (List.length B) c2), (7, .slice (some ⟨gx, ox, none⟩) (List.length T) c1), (4, .bool false)]) (#[true, true, true, true, true, true, true, true, true, true, true, true, true, true, true, true, true, true, true, true, true, true, true, true, true, true, true, true, true, false, true, true, true, false, false, false, false, false, false, false, false, false, false, false, false, false, false, false, false]) ([inI64 ((↑(E i) : Int) + (↑(List.length X) : Int)), (0 : Int) ≤ (↑(E i) : Int) + (↑(List.length X) : Int) ∧ (↑(E i) : Int) + (↑(List.length X) : Int) ≤ (↑c2 : Int), (0 : Int) ≤ (↑(E i) : Int) ∧ (↑(E i) : Int) ≤ (↑(E i) : Int) + (↑(List.length X) : Int)]) (n := 17) (by kernel_rfl) (by kernel_rfl) (by kernel_rfl) ⟨by unfold inI64; omega, by omega, by omega, trivial⟩ ?_
            refine wpa_qld (i := 33) (n := 16) (by kernel_rfl) (by kernel_rfl) (by kernel_rfl) (t := 9) (a := ⟨gx, ox + i * 1, none⟩) (dst := some 134) (by kernel_rfl) false 1 (by kernel_rfl) (by simp) [.string (mkS X)] rfl (fun w h => ld_roL h 2 rfl (i * 1) hat) ?_
            refine wpa_ent (ent_set 129 (.slice (some (Addr.mk gb (sOff ob (↑(E i) : Int) (↑c2 : Int) 1) none)) (Int.toNat ((↑(E i) : Int) + (↑(List.length X) : Int) - (↑(E i) : Int))) (Int.toNat ((↑c2 : Int) - (↑(E i) : Int)))) (.slice (some ⟨gb, sOff ob ((E i : Nat) : Int) (c2 : Int) 1, none⟩) X.length (c2 - E i)) (by kernel_rfl) (by congr 1 <;> omega)) ?_
            refine wpa_qb2s (i := 29) (n := 15) (by kernel_rfl) (by kernel_rfl) (by kernel_rfl) (a := 39) (b := 9) (ad := (some (Addr.mk gb (sOff ob (↑(E i) : Int) (↑c2 : Int) 1) none))) (m := (List.length X)) (c := (c2 - E i)) (dst := some 130) (by kernel_rfl) (by kernel_rfl) X (by first | rfl | simp) (fun w h => b2s_roL h 0 rfl) ?_
            refine TK 12 [(34, []), (35, []), (36, [])] (.i 137 (.bool !decide (X = X)) (.d (.d (.d (.d (.d (.d (.k .a)))))))) (#[true, true, true, true, true, true, true, true, true, true, true, true, true, true, true, true, true, true, true, true, true, true, true, true, true, true, true, true, true, true, true, true, true, true, true, true, true, false, false, false, false, false, false, false, false, false, false, false, false]) ?_
            refine SA 137 (!decide (X = X)) false (by simp) ?_
            refine wpa_take true [(37, []), (38, []), (39, []), (40, []), (41, [])] ([(142, .pointer (some ⟨gx, ox + i * 1, none⟩)), (139, .int .i64 (↑(E i) : Int)), (138, .slice (some ⟨gb, ob, none⟩) (List.length B) c2), (137, .bool false), (14, .int .i64 (↑i : Int)), (12, .int .i64 (↑(E i) : Int)), (9, .slice (some ⟨gb, ob, none⟩) (List.length B) c2), (7, .slice (some ⟨gx, ox, none⟩) T.length c1), (4, .bool false)]) (#[true, true, true, true, true, true, true, true, true, true, true, true, true, true, true, true, true, true, true, true, true, true, true, true, true, true, true, true, true, true, true, true, true, true, true, true, true, true, true, true, true, true, false, false, false, false, false, false, false]) [(0 : Int) ≤ (↑i : Int) ∧ (↑i : Int) < (↑T.length : Int)] (n := 7) (by kernel_rfl) (by kernel_rfl) (by kernel_rfl) ⟨by omega, trivial⟩ ?_
            refine wpa_qld (i := 42) (n := 6) (by kernel_rfl) (by kernel_rfl) (by kernel_rfl) (t := 9) (a := ⟨gx, ox + i * 1, none⟩) (dst := some 143) (by kernel_rfl) false 1 (by kernel_rfl) (by simp) [.string (mkS X)] rfl (fun w h => ld_roL h 2 rfl (i * 1) hat) ?_
            refine wpa_take true [(43, []), (44, []), (45, [])] ([(146, .pointer (some (Addr.mk gb (ob + Int.toNat ((↑(E i) : Int) + (↑(List.length X) : Int)) * 1) none))), (137, .bool false), (14, .int .i64 (↑i : Int)), (12, .int .i64 (↑(E i) : Int)), (9, .slice (some ⟨gb, ob, none⟩) (List.length B) c2), (7, .slice (some ⟨gx, ox, none⟩) (List.length T) c1), (4, .bool false)]) (#[true, true, true, true, true, true, true, true, true, true, true, true, true, true, true, true, true, true, true, true, true, true, true, true, true, true, true, true, true, true, true, true, true, true, true, true, true, true, true, true, true, true, true, true, true, true, false, false, false]) ([inI64 ((↑(E i) : Int) + (↑(List.length X) : Int)), (0 : Int) ≤ (↑(E i) : Int) + (↑(List.length X) : Int) ∧ (↑(E i) : Int) + (↑(List.length X) : Int) < (↑(List.length B) : Int)]) (n := 3) (by kernel_rfl) (by kernel_rfl) (by kernel_rfl) ⟨by unfold inI64; omega, by omega, trivial⟩ ?_
            refine wpa_qld (i := 46) (n := 2) (by kernel_rfl) (by kernel_rfl) (by kernel_rfl) (t := 5) (a := (Addr.mk gb (ob + Int.toNat ((↑(E i) : Int) + (↑(List.length X) : Int)) * 1) none)) (dst := some 147) (by kernel_rfl) false 1 (by kernel_rfl) (by simp) [.int .u8 10] rfl (fun w h => ld_roL h 1 rfl ((((E i : Nat) : Int) + ((X.length : Nat) : Int)).toNat * 1) (by rw [show (((E i : Nat) : Int) + ((X.length : Nat) : Int)).toNat = E i + X.length by omega]; exact (u8_at1 hE2).trans (by rw [hB2]; rfl))) ?_
            refine TK 0 [(47, []), (48, [])] (.i 149 (.bool false) (.d (.d (.d (.k .a))))) (#[true, true, true, true, true, true, true, true, true, true, true, true, true, true, true, true, true, true, true, true, true, true, true, true, true, true, true, true, true, true, true, true, true, true, true, true, true, true, true, true, true, true, true, true, true, true, true, true, true]) ?_
            refine wpa_done 0 (by kernel_rfl) ?_
            refine NT (CF (SK (NT (SQ (RG ?_)))))
            refine RV true [] (.d (.d (.d (.d .a)))) (.i 153 (.pointer (some ⟨gx, ox + i * 1, none⟩)) (.i 150 (.int .i64 (↑(E i) : Int)) (.d (.k .a)))) .a [(0 : Int) ≤ (↑i : Int) ∧ (↑i : Int) < (↑T.length : Int)] ⟨by omega, trivial⟩ ?_
            refine wpr_eq (ld (t := 9) (a := ⟨gx, ox + i * 1, none⟩) (dst := some 154) (by kernel_rfl) false 1 (by kernel_rfl) (by simp) [.string (mkS X)] rfl (fun w h => ld_ro h 2 rfl (i * 1) hat)) ?_
            refine RV true [] .z (.i 12 (.int .i64 ((↑(E i) : Int) + (↑(List.length X) : Int) + 1)) (.d (.d (.d (.k (.d (.k .a))))))) .a ([inI64 ((↑(E i) : Int) + (↑(List.length X) : Int)), inI64 ((↑(E i) : Int) + (↑(List.length X) : Int) + (1 : Int))]) ⟨by unfold inI64; omega, by unfold inI64; omega, trivial⟩ ?_
            refine RZ (NT (SQ (RG ?_)))
            refine RR [] .z (.i 15 (.int .i64 0) .a) .a ?_
            refine RZ (NT (BK ?_))
            refine wpc_loop (X := {k : Nat // k ≤ X.length}) (fun x => St.mk [(15, .int .i64 (x.1 : Int)), (14, .int .i64 (i : Int)), (12, .int .i64 (E (i + 1) : Int)), (9, .slice (some ⟨gb, ob, none⟩) B.length c2), (7, .slice (some ⟨gx, ox, none⟩) T.length c1), (4, .bool false)]
              [ro (some ⟨gb, ob, none⟩) (u8s B), ro (some ⟨gx, ox, none⟩) (strsC T), gPow]) (fun x => X.length - x.1) ⟨0, Nat.zero_le _⟩ (by rw [hE1]; exact Ent.trans (ent_hp [1, 1, 1] rfl) (ent_fr (by kernel_rfl))) ?_
            rintro ⟨k, hk⟩
            dsimp only at hk ⊢
            by_cases hlk : k < X.length
            · have hbt : bt (mkS X) (k : Int) = (X[k].toNat : Int) := bt_at hlk
              obtain ⟨hb1, hb2⟩ := hby _ (List.getElem_mem hlk)
              refine SQ (SQ (RG ?_))
              refine RV true [] (.d (.d (.d (.d .a)))) (.i 161 (.pointer (some ⟨gx, ox + i * 1, none⟩)) (.i 158 (.int .i64 (↑k : Int)) .a)) .a [(0 : Int) ≤ (↑i : Int) ∧ (↑i : Int) < (↑T.length : Int)] ⟨by omega, trivial⟩ ?_
              refine wpr_eq (ld (t := 9) (a := ⟨gx, ox + i * 1, none⟩) (dst := some 162) (by kernel_rfl) false 1 (by kernel_rfl) (by simp) [.string (mkS X)] rfl (fun w h => ld_ro h 1 rfl (i * 1) hat)) ?_
              refine RR [] .z (.i 164 (.bool (decide ((↑k : Int) < (↑(List.length X) : Int)))) (.d (.d (.d (.k .a))))) .a ?_
              refine RZ (NT ?_)
              refine SC 164 (decide ((↑k : Int) < (↑(List.length X) : Int))) true (decide_eq_true (by omega)) ?_
              refine CT (SK (NT (SQ (BK (SQ (RG ?_))))))
              refine RV true [] (.d (.d (.d .a))) (.i 169 (.pointer (some ⟨gx, ox + i * 1, none⟩)) (.d (.d (.k .a)))) .a [(0 : Int) ≤ (↑i : Int) ∧ (↑i : Int) < (↑T.length : Int)] ⟨by omega, trivial⟩ ?_
              refine wpr_eq (ld (t := 9) (a := ⟨gx, ox + i * 1, none⟩) (dst := some 170) (by kernel_rfl) false 1 (by kernel_rfl) (by simp) [.string (mkS X)] rfl (fun w h => ld_ro h 1 rfl (i * 1) hat)) ?_
              refine RV true [] (.d (.d (.d (.d .a)))) (.i 174 (.bool (decide (bt (mkS X) (↑k : Int) < (32 : Int)))) (.d (.d (.k .a)))) .a [(0 : Int) ≤ (↑k : Int) ∧ (↑k : Int) < (↑(List.length X) : Int)] ⟨by omega, trivial⟩ ?_
              refine SR 174 (decide (bt (mkS X) (↑k : Int) < (32 : Int))) false (decide_eq_false (by omega)) ?_
              refine RV true [] (.d (.d (.d .a))) (.i 177 (.pointer (some ⟨gx, ox + i * 1, none⟩)) (.k (.d (.k .a)))) .a [(0 : Int) ≤ (↑i : Int) ∧ (↑i : Int) < (↑T.length : Int)] ⟨by omega, trivial⟩ ?_
              refine wpr_eq (ld (t := 9) (a := ⟨gx, ox + i * 1, none⟩) (dst := some 178) (by kernel_rfl) false 1 (by kernel_rfl) (by simp) [.string (mkS X)] rfl (fun w h => ld_ro h 1 rfl (i * 1) hat)) ?_
              refine RV true [] .z (.i 182 (.bool (decide (bt (mkS X) (↑k : Int) > (126 : Int)))) (.d (.d (.d (.k .a))))) .a [(0 : Int) ≤ (↑k : Int) ∧ (↑k : Int) < (↑(List.length X) : Int)] ⟨by omega, trivial⟩ ?_
              refine RZ (NT ?_)
              refine SC 182 (decide (bt (mkS X) (↑k : Int) > (126 : Int))) false (decide_eq_false (by omega)) ?_
              refine CF (SK (BN (NT (RG ?_))))
              refine RV true [] .z (.i 15 (.int .i64 ((↑k : Int) + 1)) (.d (.d (.d (.k .a))))) .a ([inI64 ((↑k : Int) + (1 : Int))]) ⟨by unfold inI64; omega, trivial⟩ ?_
              refine RZ ?_
              exact fun a' w' hS' => ⟨⟨k + 1, hlk⟩, by dsimp only; omega, ent_fr (by kernel_rfl) _ _ (ent_hp [0, 0, 0] rfl _ _ hS')⟩
            · obtain rfl : k = X.length := by omega
              refine SQ (SQ (RG ?_))
              refine RV true [] (.d (.d (.d (.d .a)))) (.i 161 (.pointer (some ⟨gx, ox + i * 1, none⟩)) (.i 158 (.int .i64 (↑(List.length X) : Int)) .a)) .a [(0 : Int) ≤ (↑i : Int) ∧ (↑i : Int) < (↑T.length : Int)] ⟨by omega, trivial⟩ ?_
              refine wpr_eq (ld (t := 9) (a := ⟨gx, ox + i * 1, none⟩) (dst := some 162) (by kernel_rfl) false 1 (by kernel_rfl) (by simp) [.string (mkS X)] rfl (fun w h => ld_ro h 1 rfl (i * 1) hat)) ?_
              refine RR [] .z (.i 164 (.bool (decide ((↑(List.length X) : Int) < (↑(List.length X) : Int)))) (.d (.d (.d (.k .a))))) .a ?_
              refine RZ (NT ?_)
              refine SC 164 (decide ((↑(List.length X) : Int) < (↑(List.length X) : Int))) false (by simp) ?_
              refine CF (EX (TE (TE (BH (BN (NT (RG ?_)))))))
              refine RV true [] .z (.i 14 (.int .i64 ((↑i : Int) + 1)) (.d (.d (.d (.d (.k .a)))))) .a ([inI64 ((↑i : Int) + (1 : Int))]) ⟨by unfold inI64; omega, trivial⟩ ?_
              refine RZ ?_
              exact fun a' w' hS' => ⟨⟨i + 1, hlt⟩, by dsimp only; omega, ent_fr (by kernel_rfl) _ _ (ent_hp [0, 0, 0] rfl _ _ hS')⟩
          · obtain rfl : i = T.length := by omega
            rw [hEa]
            refine SQ (SQ (RG ?_))
            refine RR [] .z (.i 98 (.bool (decide ((↑T.length : Int) < (↑T.length : Int)))) .a) .a ?_
            refine RZ (NT ?_)
            refine SC 98 (decide ((↑T.length : Int) < (↑T.length : Int))) false (by simp) ?_
            refine CF (EX (TE (TE (BH (NT (SQ (RG ?_)))))))
            refine RR [] (.d (.d (.d (.d (.d .a))))) (.i 187 (.bool ((↑(List.length B) : Int) == (↑(List.length B) : Int))) (.d (.d (.d (.d (.d (.d (.k .a)))))))) .a ?_
            refine SR 187 ((↑(List.length B) : Int) == (↑(List.length B) : Int)) true (by simp) ?_
            refine RCG (dst := some 188) .a (lives16_spec) (GV (GI []) 2 view_gPow) ?_
            rintro r _ ⟨rfl, rfl⟩
            refine RR [] .z (.i 4 (.bool true) .z) .a ?_
            refine RZ (NT (RE ?_))
            refine NE [] .z .a [] (.bool true) ?_
            exact ⟨rfl, rfl⟩
end Go.Proofs.YtgcfomhlgipllaaGreatDoor
namespace Go.Proofs.YtgcfomhlgipllaaGreatDoor
open Go Go.Sx
/-! What comes in of ShowSame and ShowEach. -/
theorem ob_ok {z : Ob2} (hV : obS.V z) (hB : obS.B z ≤ 1048576) : (toOb z).sm ∧ ∀ v ∈ (toOb z).cells, v.i64 := by
  rw [obS_B] at hB
  have h2 := le_sumB valS valS_B z.2.2.2
  have h4 : (z.2.2.2.map toV).length = z.2.2.2.length := List.length_map ..
  refine ⟨⟨by show z.1.length ≤ _; omega, by show (z.2.2.2.map toV).length ≤ z.2.2.1; rw [h4]; exact hV.2.2.1, by show (z.2.2.2.map toV).length ≤ _; omega, fun u hu => ?_⟩, fun v hv => ?_⟩
  · obtain ⟨y, hy, rfl⟩ := List.mem_map.1 hu
    exact valS_sm (by have := mem_sumB valS z.2.2.2 y hy; omega)
  · obtain ⟨y, hy, rfl⟩ := List.mem_map.1 hv
    exact valS_i64 (hV.2.2.2.2 y hy)
theorem ob_hold {z : Ob2} {w : World} (h : (deep obS z).holds w) : (ro (toOb z).a ((toOb z).cells.flatMap valC)).holds w := by
  have h5 : (deep (sliceS valS) z.2).holds w := h.2
  have h6 := view_flat.holds w h5
  rw [vals_C] at h6
  exact h6
theorem ShowSame_in (x0 : Vi4) (x1 : Sl Ob2) (x2 : Ob2) (hV0 : viS.V x0) (hB0 : viS.B x0 ≤ 1048576) (hV1 : (sliceS obS).V x1) (hB1 : (sliceS obS).B x1 ≤ 1048576) (hV2 : obS.V x2) (hB2 : obS.B x2 ≤ 1048576) :
    Does Tryz.prog 11 [.agg (viS.C x0).toArray, .slice x1.1 x1.2.2.length x1.2.1, .agg (obS.C x2).toArray] [deep viS x0, deep (sliceS obS) x1, deep obS x2, gWords, gPow] (fun v hp' => v = .bool true ∧ hp' = []) := by
  obtain ⟨h1, h2, h3, -⟩ := obs_ok hV1 hB1
  obtain ⟨m1, m2⟩ := ob_ok hV2 hB2
  have hc : (x1.2.2.map toOb).length ≤ x1.2.1 := by rw [List.length_map]; exact hV1.2.1
  have hno : x1.1 = none → x1.2.2.map toOb = [] := fun e => by rw [hV1.1 e]; rfl
  have h3 : (x1.2.2.map toOb).length ≤ 1048575 := by
    have hB3 : sumB obS x1.2.2 + 1 ≤ 1048576 := hB1
    have hl := le_sumB obS (fun y => by rw [obS_B]; omega) x1.2.2
    rw [List.length_map]; omega
  have h := ShowSame_spec (toVi x0) (vi_ok hV0 hB0) x1.1 x1.2.1 (x1.2.2.map toOb) h3 hc h1 h2 (toOb x2) m1 m2 hno
  rw [List.length_map] at h
  rw [viS_C, obS_C]
  refine does_ro h (fun w hw c hc => ?_) (fun c hc => ?_)
  · have hd := vi_hold (hw.holds (deep viS x0) (by simp))
    obtain ⟨h5, h6⟩ := obs_hold (hw.holds (deep (sliceS obS) x1) (by simp))
    have h7 := ob_hold (hw.holds (deep obS x2) (by simp))
    simp only [List.mem_cons, List.not_mem_nil, or_false] at hc
    rcases hc with rfl | rfl | rfl | rfl | rfl | rfl | rfl | rfl
    · exact h5
    · exact h6
    · intro c hc
      rw [List.map_append] at hc
      rcases List.mem_append.1 hc with hc | hc
      · exact h6 c hc
      · rw [List.mem_singleton.1 hc]; exact h7
    · exact hw.holds gWords (by simp)
    · exact hw.holds gPow (by simp)
    · exact hd _ (by simp [viHp])
    · exact hd _ (by simp [viHp])
    · exact hd _ (by simp [viHp])
  · simp only [List.mem_cons, List.not_mem_nil, or_false] at hc
    rcases hc with rfl | rfl | rfl | rfl | rfl | rfl | rfl | rfl <;> exact fun h => h
theorem ShowEach_in (x0 : Vi4) (x1 : Sl Ob2) (hV0 : viS.V x0) (hB0 : viS.B x0 ≤ 1048576) (hV1 : (sliceS obS).V x1) (hB1 : (sliceS obS).B x1 ≤ 1048576) :
    Does Tryz.prog 13 [.agg (viS.C x0).toArray, .slice x1.1 x1.2.2.length x1.2.1] [deep viS x0, deep (sliceS obS) x1, gWords, gPow] (fun v hp' => v = .bool true ∧ hp' = []) := by
  obtain ⟨h1, h2, h3, -⟩ := obs_ok hV1 hB1
  have h := ShowEach_spec (toVi x0) (vi_ok hV0 hB0) x1.1 x1.2.1 (x1.2.2.map toOb) h3 h1 h2
  rw [List.length_map] at h
  rw [viS_C]
  refine does_ro h (fun w hw c hc => ?_) (fun c hc => ?_)
  · have hd := vi_hold (hw.holds (deep viS x0) (by simp))
    obtain ⟨h5, h6⟩ := obs_hold (hw.holds (deep (sliceS obS) x1) (by simp))
    simp only [List.mem_cons, List.not_mem_nil, or_false] at hc
    rcases hc with rfl | rfl | rfl | rfl | rfl | rfl | rfl
    · exact h5
    · exact h6
    · exact hw.holds gWords (by simp)
    · exact hw.holds gPow (by simp)
    · exact hd _ (by simp [viHp])
    · exact hd _ (by simp [viHp])
    · exact hd _ (by simp [viHp])
  · simp only [List.mem_cons, List.not_mem_nil, or_false] at hc
    rcases hc with rfl | rfl | rfl | rfl | rfl | rfl | rfl <;> exact fun h => h
end Go.Proofs.YtgcfomhlgipllaaGreatDoor
