import Derived.Test.YtpfhleghgkeemaaGreatDoorH8
import Derived.Test.YtpfhleghgkeemaaGreatDoorY2
namespace Go.Proofs.YtpfhleghgkeemaaGreatDoor
open Go Go.Sx
set_option linter.unusedVariables false
set_option linter.unusedSimpArgs false

theorem okB_iff {c : UInt8} : okB c = true ↔ c.toNat = 10 ∨ (32 ≤ c.toNat ∧ c.toNat ≤ 126) := by
  unfold okB plB
  simp only [Bool.or_eq_true, beq_iff_eq, Bool.and_eq_true, decide_eq_true_eq]
  omega
theorem rPlain_spec (s : List UInt8) (hl : s.length ≤ 1048576) : Does Tryz.prog 60 [.string (mkS s)] [] (fun v hp' => v = .bool (plainB s) ∧ hp' = []) := by
  refine fn_enter Tryz.func60 rfl 29 rfl fun w0 h0 => ?_
  refine SQ (RG ?_)
  refine RR [] .z (.i 2 (.bool false) .a) .a ?_
  refine RZ (NT (SQ (SQ (RG ?_))))
  refine RR [] .z (.i 3 (.int .i64 0) .a) .a ?_
  refine RZ (NT (BK ?_))
  refine wpc_loop (X := {i : Nat // ∃ h : i ≤ s.length, ∀ j, (hj : j < i) → okB (s[j]'(by omega)) = true}) (fun x => St.mk [(3, .int .i64 (x.1 : Int)), (2, .bool false), (0, .string (mkS s))] []) (fun x => s.length - x.1) ⟨0, Nat.zero_le _, fun j h => absurd h (Nat.not_lt_zero _)⟩ (ent_fr (by kernel_rfl)) ?_
  rintro ⟨i, hi, hall⟩
  dsimp only at hi hall ⊢
  by_cases hlt : i < s.length
  · have hbt : bt (mkS s) (i : Int) = (s[i].toNat : Int) := bt_at hlt
    have hgo : okB s[i] = true → ∀ j, (hj : j < i + 1) → okB (s[j]'(by omega)) = true := fun hok j hj => by
      rcases Nat.lt_or_ge j i with h | h
      · exact hall j h
      · obtain rfl : j = i := by omega
        exact hok
    have hno : okB s[i] = false → plainB s = false := fun hok => by
      unfold plainB
      cases h3 : s.all okB with
      | false => simp
      | true =>
        have h4 := List.all_eq_true.1 h3 s[i] (List.getElem_mem hlt)
        rw [hok] at h4; cases h4
    by_cases h10 : s[i].toNat = 10
    · refine SQ (SQ (RG ?_))
      refine RR [] .z (.i 7 (.bool (decide ((↑i : Int) < (↑s.length : Int)))) .a) .a ?_
      refine RZ (NT ?_)
      refine SC 7 (decide ((↑i : Int) < (↑s.length : Int))) true (decide_eq_true (by omega)) ?_
      refine CT (SK (NT (SQ (BK (SQ (RG ?_))))))
      refine RV true [] (.d (.d (.d (.d (.d .a))))) (.i 14 (.bool (bt (mkS s) (↑i : Int) != 10)) (.d (.d (.k .a)))) .a [(0 : Int) ≤ (↑i : Int) ∧ (↑i : Int) < (↑s.length : Int)] ⟨by first | omega | decide | (simp; done), trivial⟩ ?_
      refine SR 14 (bt (mkS s) (↑i : Int) != 10) false (by simp only [bne_eq_false_iff_eq, beq_eq_false_iff_ne, ne_eq]; omega) ?_
      refine RR [] .z (.i 25 (.bool false) (.d (.d (.k .a)))) .a ?_
      refine RZ (NT (CF (SK (BN (NT (RG ?_))))))
      refine RV true [] .z (.i 3 (.int .i64 ((↑i : Int) + 1)) (.d (.d (.k .a)))) .a ([inI64 ((↑i : Int) + (1 : Int))]) ⟨by unfold inI64; omega, trivial⟩ ?_
      refine RZ ?_
      exact fun a' w' hS' => ⟨⟨i + 1, hlt, hgo (okB_iff.2 (.inl h10))⟩, by dsimp only; omega, ent_fr (by kernel_rfl) _ _ (ent_hp [] rfl _ _ hS')⟩
    · by_cases h32 : s[i].toNat < 32
      · refine SQ (SQ (RG ?_))
        refine RR [] .z (.i 7 (.bool (decide ((↑i : Int) < (↑s.length : Int)))) .a) .a ?_
        refine RZ (NT ?_)
        refine SC 7 (decide ((↑i : Int) < (↑s.length : Int))) true (decide_eq_true (by omega)) ?_
        refine CT (SK (NT (SQ (BK (SQ (RG ?_))))))
        refine RV true [] (.d (.d (.d (.d (.d .a))))) (.i 14 (.bool (bt (mkS s) (↑i : Int) != 10)) (.d (.d (.k .a)))) .a [(0 : Int) ≤ (↑i : Int) ∧ (↑i : Int) < (↑s.length : Int)] ⟨by first | omega | decide | (simp; done), trivial⟩ ?_
        refine SR 14 (bt (mkS s) (↑i : Int) != 10) true (by simp only [bne_iff_ne, beq_iff_eq, ne_eq]; omega) ?_
        refine RV true [] (.d (.d (.d (.d (.d .a))))) (.i 19 (.bool (decide (bt (mkS s) (↑i : Int) < 32))) (.k (.d (.k .a)))) .a [(0 : Int) ≤ (↑i : Int) ∧ (↑i : Int) < (↑s.length : Int)] ⟨by first | omega | decide | (simp; done), trivial⟩ ?_
        refine SR 19 (decide (bt (mkS s) (↑i : Int) < 32)) true (decide_eq_true (by omega)) ?_
        refine RR [] .z (.i 25 (.bool true) (.d (.d (.d (.k .a))))) .a ?_
        refine RZ (NT (CT (SQ (RG ?_))))
        refine RR [] .z (.i 2 (.bool false) (.d (.k (.d (.k .a))))) .a ?_
        refine RZ (NT (RE (BR (TR (TR (BR (TR ?_)))))))
        refine NE [] .a .a [] (.bool false) ?_
        exact ⟨by rw [hno (by rw [Bool.eq_false_iff]; intro h; rw [okB_iff] at h; omega)], rfl⟩
      · by_cases h126 : 126 < s[i].toNat
        · refine SQ (SQ (RG ?_))
          refine RR [] .z (.i 7 (.bool (decide ((↑i : Int) < (↑s.length : Int)))) .a) .a ?_
          refine RZ (NT ?_)
          refine SC 7 (decide ((↑i : Int) < (↑s.length : Int))) true (decide_eq_true (by omega)) ?_
          refine CT (SK (NT (SQ (BK (SQ (RG ?_))))))
          refine RV true [] (.d (.d (.d (.d (.d .a))))) (.i 14 (.bool (bt (mkS s) (↑i : Int) != 10)) (.d (.d (.k .a)))) .a [(0 : Int) ≤ (↑i : Int) ∧ (↑i : Int) < (↑s.length : Int)] ⟨by first | omega | decide | (simp; done), trivial⟩ ?_
          refine SR 14 (bt (mkS s) (↑i : Int) != 10) true (by simp only [bne_iff_ne, beq_iff_eq, ne_eq]; omega) ?_
          refine RV true [] (.d (.d (.d (.d (.d .a))))) (.i 19 (.bool (decide (bt (mkS s) (↑i : Int) < 32))) (.k (.d (.k .a)))) .a [(0 : Int) ≤ (↑i : Int) ∧ (↑i : Int) < (↑s.length : Int)] ⟨by first | omega | decide | (simp; done), trivial⟩ ?_
          refine SR 19 (decide (bt (mkS s) (↑i : Int) < 32)) false (decide_eq_false (by omega)) ?_
          refine RV true [] .z (.i 25 (.bool (decide (bt (mkS s) (↑i : Int) > 126))) (.d (.d (.d (.k .a))))) .a [(0 : Int) ≤ (↑i : Int) ∧ (↑i : Int) < (↑s.length : Int)] ⟨by first | omega | decide | (simp; done), trivial⟩ ?_
          refine RZ (NT ?_)
          refine SC 25 (decide (bt (mkS s) (↑i : Int) > 126)) true (decide_eq_true (by omega)) ?_
          refine CT (SQ (RG ?_))
          refine RR [] .z (.i 2 (.bool false) (.d (.d (.k (.d (.k .a)))))) .a ?_
          refine RZ (NT (RE (BR (TR (TR (BR (TR ?_)))))))
          refine NE [] .a .a [] (.bool false) ?_
          exact ⟨by rw [hno (by rw [Bool.eq_false_iff]; intro h; rw [okB_iff] at h; omega)], rfl⟩
        · refine SQ (SQ (RG ?_))
          refine RR [] .z (.i 7 (.bool (decide ((↑i : Int) < (↑s.length : Int)))) .a) .a ?_
          refine RZ (NT ?_)
          refine SC 7 (decide ((↑i : Int) < (↑s.length : Int))) true (decide_eq_true (by omega)) ?_
          refine CT (SK (NT (SQ (BK (SQ (RG ?_))))))
          refine RV true [] (.d (.d (.d (.d (.d .a))))) (.i 14 (.bool (bt (mkS s) (↑i : Int) != 10)) (.d (.d (.k .a)))) .a [(0 : Int) ≤ (↑i : Int) ∧ (↑i : Int) < (↑s.length : Int)] ⟨by first | omega | decide | (simp; done), trivial⟩ ?_
          refine SR 14 (bt (mkS s) (↑i : Int) != 10) true (by simp only [bne_iff_ne, beq_iff_eq, ne_eq]; omega) ?_
          refine RV true [] (.d (.d (.d (.d (.d .a))))) (.i 19 (.bool (decide (bt (mkS s) (↑i : Int) < 32))) (.k (.d (.k .a)))) .a [(0 : Int) ≤ (↑i : Int) ∧ (↑i : Int) < (↑s.length : Int)] ⟨by first | omega | decide | (simp; done), trivial⟩ ?_
          refine SR 19 (decide (bt (mkS s) (↑i : Int) < 32)) false (decide_eq_false (by omega)) ?_
          refine RV true [] .z (.i 25 (.bool (decide (bt (mkS s) (↑i : Int) > 126))) (.d (.d (.d (.k .a))))) .a [(0 : Int) ≤ (↑i : Int) ∧ (↑i : Int) < (↑s.length : Int)] ⟨by first | omega | decide | (simp; done), trivial⟩ ?_
          refine RZ (NT ?_)
          refine SC 25 (decide (bt (mkS s) (↑i : Int) > 126)) false (decide_eq_false (by omega)) ?_
          refine CF (SK (BN (NT (RG ?_))))
          refine RV true [] .z (.i 3 (.int .i64 ((↑i : Int) + 1)) (.d (.d (.d (.k .a))))) .a ([inI64 ((↑i : Int) + (1 : Int))]) ⟨by unfold inI64; omega, trivial⟩ ?_
          refine RZ ?_
          exact fun a' w' hS' => ⟨⟨i + 1, hlt, hgo (okB_iff.2 (.inr ⟨by omega, by omega⟩))⟩, by dsimp only; omega, ent_fr (by kernel_rfl) _ _ (ent_hp [] rfl _ _ hS')⟩
  · refine SQ (SQ (RG ?_))
    refine RR [] .z (.i 7 (.bool (decide ((↑i : Int) < (↑s.length : Int)))) .a) .a ?_
    refine RZ (NT ?_)
    refine SC 7 (decide ((↑i : Int) < (↑s.length : Int))) false (decide_eq_false (by omega)) ?_
    refine CF (EX (TE (TE (BH (NT (SQ (RG ?_)))))))
    refine RR [] .z (.i 2 (.bool (decide ((↑s.length : Int) ≤ 255))) .z) .a ?_
    refine RZ (NT (RE ?_))
    refine NE [] .a .a [] (.bool (decide ((↑s.length : Int) ≤ 255))) ?_
    refine ⟨?_, rfl⟩
    have : s.all okB = true := List.all_eq_true.2 fun x hx => by
      obtain ⟨j, hj⟩ := List.getElem?_of_mem hx
      obtain ⟨hj1, rfl⟩ := List.getElem?_eq_some_iff.1 hj
      exact hall j (by omega)
    unfold plainB
    rw [this, Bool.and_true]
    congr 1
    exact decide_eq_decide.2 (by omega)
theorem esc92 {c : UInt8} (h : c.toNat = 92) : escB c = [92, 92] := by
  have : c = 92 := UInt8.toNat_inj.1 h
  subst this; rfl
theorem esc34 {c : UInt8} (h : c.toNat = 34) : escB c = [92, 34] := by
  have : c = 34 := UInt8.toNat_inj.1 h
  subst this; rfl
theorem esc10 {c : UInt8} (h : c.toNat = 10) : escB c = [92, 110] := by
  have : c = 10 := UInt8.toNat_inj.1 h
  subst this; rfl
theorem escN {c : UInt8} (h1 : c.toNat ≠ 92) (h2 : c.toNat ≠ 34) (h3 : c.toNat ≠ 10) : escB c = [c] := by
  have e1 : c ≠ 92 := fun e => h1 (by rw [e]; rfl)
  have e2 : c ≠ 34 := fun e => h2 (by rw [e]; rfl)
  have e3 : c ≠ 10 := fun e => h3 (by rw [e]; rfl)
  simp [escB, e1, e2, e3]
theorem rQuoted_spec (s : List UInt8) (hl : s.length ≤ 1048576) : Does Tryz.prog 104 [.string (mkS s)] [] (fun v hp' => v = .string (mkS (quoL s)) ∧ hp' = []) := by
  have hEs : ∀ i, (hi : i < s.length) → escL (s.take (i + 1)) = escL (s.take i) ++ escB s[i] := fun i hi => by
    unfold escL; rw [← List.take_append_getElem hi, List.flatMap_append]; simp
  have hcat : ∀ i n, (hi : i < s.length) → (escB s[i]).length = n → ([34] ++ escL (s.take i)).length + n = ([34] ++ escL (s.take (i + 1))).length := fun i n hi h => by
    rw [hEs i hi, ← h]; simp; omega
  have hcat2 : ∀ i, (hi : i < s.length) → u8s ([34] ++ escL (s.take i)) ++ u8s (escB s[i]) = u8s ([34] ++ escL (s.take (i + 1))) := fun i hi => by
    rw [hEs i hi]; simp [u8s]
  refine fn_enter Tryz.func104 rfl 39 rfl fun w0 h0 => ?_
  refine SQ (RG ?_)
  refine RR [] .z (.i 2 (.string ⟨#[]⟩) .a) .a ?_
  refine RZ (NT (SQ (RG ?_)))
  refine RN [] (.d .a) 5 (fun g1 => (.slice (some ⟨g1, 0, none⟩) 1 1)) .a .a 5 [.int .u8 34] fun g1 => ?_
  refine RR [] .z (.i 3 (.slice (some ⟨g1, 0, none⟩) 1 1) (.d (.k .a))) (.i (.blk g1 5 [.int .u8 34]) .z) ?_
  refine RZ (NT (SQ (SQ (RG ?_))))
  refine RR [] .z (.i 4 (.int .i64 0) .a) (.i (.blk g1 5 [.int .u8 34]) .z) ?_
  refine RZ (NT (BK ?_))
  refine wpc_loop (X := {x : Nat × Option Addr × Nat // x.1 ≤ s.length}) (fun x => St.mk [(4, .int .i64 (x.1.1 : Int)), (3, .slice x.1.2.1 ([34] ++ escL (s.take x.1.1)).length x.1.2.2), (2, .string (mkS [])), (0, .string (mkS s))] [row 5 1 x.1.2.1 ([34] ++ escL (s.take x.1.1)).length x.1.2.2 (u8s ([34] ++ escL (s.take x.1.1)))]) (fun x => s.length - x.1.1) ⟨(0, some ⟨g1, 0, none⟩, 1), Nat.zero_le _⟩ ?_ ?_
  · exact Ent.trans (ent_turn 0 (row 5 1 (some ⟨g1, 0, none⟩) 1 1 (u8s [34])) rfl (turn_blk rfl (by intro u hu; simp at hu; subst hu; rfl) (by decide)) rfl) (ent_fr (by kernel_rfl))
  rintro ⟨⟨i, a1, c1⟩, hi⟩
  dsimp only at hi ⊢
  have hEt : (escL (s.take i)).length ≤ 2 * i := by
    have h1 := escL_len (s.take i)
    have h2 : spN (s.take i) ≤ (s.take i).length := List.countP_le_length
    rw [List.length_take] at h1 h2; omega
  have hE1 : ([34] ++ escL (s.take i)).length = (escL (s.take i)).length + 1 := by simp
  by_cases hlt : i < s.length
  · have hbt : bt (mkS s) (i : Int) = (s[i].toNat : Int) := bt_at hlt
    by_cases h92 : s[i].toNat = 92
    · refine SQ (SQ (RG ?_))
      refine RR [] .z (.i 9 (.bool (decide ((↑i : Int) < (↑s.length : Int)))) .a) .a ?_
      refine RZ (NT ?_)
      refine SC 9 (decide ((↑i : Int) < (↑s.length : Int))) true (decide_eq_true (by omega)) ?_
      refine CT (SK (NT (SQ (BK (SQ (RG ?_))))))
      refine RV true [] .z (.i 14 (.int .u8 (bt (mkS s) (↑i : Int))) (.d (.d (.k .a)))) .a [(0 : Int) ≤ (↑i : Int) ∧ (↑i : Int) < (↑s.length : Int)] ⟨by first | omega | decide | (simp; done), trivial⟩ ?_
      refine RZ (NT (BK (SQ (SQ (RG ?_)))))
      refine RR [] .z (.i 21 (.bool (bt (mkS s) (↑i : Int) == 92)) .a) .a ?_
      refine RZ (NT ?_)
      refine SC 21 (bt (mkS s) (↑i : Int) == 92) true (by simp only [bne_iff_ne, beq_iff_eq, ne_eq]; omega) ?_
      refine CT (SK (NT (CT (RG ?_))))
      refine wpr_new (l₂ := [5, 6]) true [0, 1, 2, 3, 4] [] (fun g2 => ([(28, .slice (some ⟨g2, 0, none⟩) 2 2), (24, .slice a1 ([34] ++ escL (List.take i s)).length c1), (4, .int .i64 (↑i : Int)), (3, .slice a1 ([34] ++ escL (List.take i s)).length c1), (2, .string (mkS [])), (0, .string (mkS s))])) (fun g2 => ([row 5 1 a1 ([34] ++ escL (List.take i s)).length c1 (u8s ([34] ++ escL (List.take i s))), .blk g2 5 [.int .u8 92, .int .u8 (bt (mkS s) (↑i : Int))]])) (fun g2 => [(0 : Int) ≤ (↑i : Int) ∧ (↑i : Int) < (↑s.length : Int)]) (fun g2 => by kernel_rfl) (fun g2 => by kernel_rfl) (fun g2 => ⟨by first | omega | decide | (simp; done), trivial⟩) fun g2 => ?_
      refine wpr_ent (ent_turn 1 (ro (some ⟨g2, 0, none⟩) (u8s (escB s[i]))) rfl (turn_ro (escB s[i]) (by rw [esc92 h92]; first | rfl | (rw [hbt, h92]; rfl))) rfl) ?_
      refine wpr_app (a := a1) (n := (([34] ++ escL (List.take i s)).length)) (cap := c1) (x := (.slice (some ⟨g2, 0, none⟩) 2 2)) (t := 77) (xt := 77) (dst := some 29) (by kernel_rfl) (e := 5) (sz := 1) (bytes := 1) (by kernel_rfl) 0 (xs := (u8s ([34] ++ escL (List.take i s)))) (by kernel_rfl) (m := 2) (news := (u8s (escB s[i]))) (fun w h => src_ro h 1 rfl (by rw [esc92 h92]; rfl) (fun e => by cases e)) (by unfold maxLen; omega) (by omega) ?_
      intro a3 c3 hn
      rw [hcat i 2 hlt (by rw [esc92 h92]; rfl), hcat2 i hlt]
      refine RR [] .z (.i 3 (.slice a3 ([34] ++ escL (List.take (i + 1) s)).length c3) (.d (.d (.d (.k (.d (.k .a))))))) .a ?_
      refine RZ (BN (BN (NT (RG ?_))))
      refine RV true [] .z (.i 4 (.int .i64 ((↑i : Int) + 1)) (.k (.d (.k .a)))) .a ([inI64 ((↑i : Int) + (1 : Int))]) ⟨by unfold inI64; omega, trivial⟩ ?_
      refine RZ ?_
      exact fun a' w' hS' => ⟨⟨(i + 1, a3, c3), hlt⟩, by dsimp only; omega, ent_fr (by kernel_rfl) _ _ (ent_hp [0] rfl _ _ hS')⟩
    · by_cases h34 : s[i].toNat = 34
      · refine SQ (SQ (RG ?_))
        refine RR [] .z (.i 9 (.bool (decide ((↑i : Int) < (↑s.length : Int)))) .a) .a ?_
        refine RZ (NT ?_)
        refine SC 9 (decide ((↑i : Int) < (↑s.length : Int))) true (decide_eq_true (by omega)) ?_
        refine CT (SK (NT (SQ (BK (SQ (RG ?_))))))
        refine RV true [] .z (.i 14 (.int .u8 (bt (mkS s) (↑i : Int))) (.d (.d (.k .a)))) .a [(0 : Int) ≤ (↑i : Int) ∧ (↑i : Int) < (↑s.length : Int)] ⟨by first | omega | decide | (simp; done), trivial⟩ ?_
        refine RZ (NT (BK (SQ (SQ (RG ?_)))))
        refine RR [] .z (.i 21 (.bool (bt (mkS s) (↑i : Int) == 92)) .a) .a ?_
        refine RZ (NT ?_)
        refine SC 21 (bt (mkS s) (↑i : Int) == 92) false (by simp only [bne_eq_false_iff_eq, beq_eq_false_iff_ne, ne_eq]; omega) ?_
        refine CF (RG ?_)
        refine RR [] .z (.i 21 (.bool (bt (mkS s) (↑i : Int) == 34)) (.d (.d (.k .a)))) .a ?_
        refine RZ (NT ?_)
        refine SC 21 (bt (mkS s) (↑i : Int) == 34) true (by simp only [bne_iff_ne, beq_iff_eq, ne_eq]; omega) ?_
        refine CT (RG ?_)
        refine wpr_new (l₂ := [5, 6]) true [0, 1, 2, 3, 4] [] (fun g2 => ([(28, .slice (some ⟨g2, 0, none⟩) 2 2), (24, .slice a1 ([34] ++ escL (List.take i s)).length c1), (4, .int .i64 (↑i : Int)), (3, .slice a1 ([34] ++ escL (List.take i s)).length c1), (2, .string (mkS [])), (0, .string (mkS s))])) (fun g2 => ([row 5 1 a1 ([34] ++ escL (List.take i s)).length c1 (u8s ([34] ++ escL (List.take i s))), .blk g2 5 [.int .u8 92, .int .u8 (bt (mkS s) (↑i : Int))]])) (fun g2 => [(0 : Int) ≤ (↑i : Int) ∧ (↑i : Int) < (↑s.length : Int)]) (fun g2 => by kernel_rfl) (fun g2 => by kernel_rfl) (fun g2 => ⟨by first | omega | decide | (simp; done), trivial⟩) fun g2 => ?_
        refine wpr_ent (ent_turn 1 (ro (some ⟨g2, 0, none⟩) (u8s (escB s[i]))) rfl (turn_ro (escB s[i]) (by rw [esc34 h34]; first | rfl | (rw [hbt, h34]; rfl) | (rw [hbt]; rfl))) rfl) ?_
        refine wpr_app (a := a1) (n := (([34] ++ escL (List.take i s)).length)) (cap := c1) (x := (.slice (some ⟨g2, 0, none⟩) 2 2)) (t := 77) (xt := 77) (dst := some 29) (by kernel_rfl) (e := 5) (sz := 1) (bytes := 1) (by kernel_rfl) 0 (xs := (u8s ([34] ++ escL (List.take i s)))) (by kernel_rfl) (m := 2) (news := (u8s (escB s[i]))) (fun w h => src_ro h 1 rfl (by rw [esc34 h34]; rfl) (fun e => by cases e)) (by unfold maxLen; omega) (by omega) ?_
        intro a3 c3 hn
        rw [hcat i 2 hlt (by rw [esc34 h34]; rfl), hcat2 i hlt]
        refine RR [] .z (.i 3 (.slice a3 ([34] ++ escL (List.take (i + 1) s)).length c3) (.d (.d (.d (.k (.d (.k .a))))))) .a ?_
        refine RZ (BN (BN (NT (RG ?_))))
        refine RV true [] .z (.i 4 (.int .i64 ((↑i : Int) + 1)) (.k (.d (.k .a)))) .a ([inI64 ((↑i : Int) + (1 : Int))]) ⟨by unfold inI64; omega, trivial⟩ ?_
        refine RZ ?_
        exact fun a' w' hS' => ⟨⟨(i + 1, a3, c3), hlt⟩, by dsimp only; omega, ent_fr (by kernel_rfl) _ _ (ent_hp [0] rfl _ _ hS')⟩
      · by_cases h10 : s[i].toNat = 10
        · refine SQ (SQ (RG ?_))
          refine RR [] .z (.i 9 (.bool (decide ((↑i : Int) < (↑s.length : Int)))) .a) .a ?_
          refine RZ (NT ?_)
          refine SC 9 (decide ((↑i : Int) < (↑s.length : Int))) true (decide_eq_true (by omega)) ?_
          refine CT (SK (NT (SQ (BK (SQ (RG ?_))))))
          refine RV true [] .z (.i 14 (.int .u8 (bt (mkS s) (↑i : Int))) (.d (.d (.k .a)))) .a [(0 : Int) ≤ (↑i : Int) ∧ (↑i : Int) < (↑s.length : Int)] ⟨by first | omega | decide | (simp; done), trivial⟩ ?_
          refine RZ (NT (BK (SQ (SQ (RG ?_)))))
          refine RR [] .z (.i 21 (.bool (bt (mkS s) (↑i : Int) == 92)) .a) .a ?_
          refine RZ (NT ?_)
          refine SC 21 (bt (mkS s) (↑i : Int) == 92) false (by simp only [bne_eq_false_iff_eq, beq_eq_false_iff_ne, ne_eq]; omega) ?_
          refine CF (RG ?_)
          refine RR [] .z (.i 21 (.bool (bt (mkS s) (↑i : Int) == 34)) (.d (.d (.k .a)))) .a ?_
          refine RZ (NT ?_)
          refine SC 21 (bt (mkS s) (↑i : Int) == 34) false (by simp only [bne_eq_false_iff_eq, beq_eq_false_iff_ne, ne_eq]; omega) ?_
          refine CF (SQ (RG ?_))
          refine RR [] .z (.i 30 (.bool (bt (mkS s) (↑i : Int) == 10)) (.d (.d (.d (.k .a))))) .a ?_
          refine RZ (NT ?_)
          refine SC 30 (bt (mkS s) (↑i : Int) == 10) true (by simp only [bne_iff_ne, beq_iff_eq, ne_eq]; omega) ?_
          refine CT (RG ?_)
          refine RN [] (.d (.d .a)) 33 (fun g2 => (.slice (some ⟨g2, 0, none⟩) 2 2)) (.i 32 (.slice a1 ([34] ++ escL (List.take i s)).length c1) (.d (.d (.k .a)))) .a 5 [.int .u8 92, .int .u8 110] fun g2 => ?_
          refine wpr_ent (ent_turn 1 (ro (some ⟨g2, 0, none⟩) (u8s (escB s[i]))) rfl (turn_ro (escB s[i]) (by rw [esc10 h10]; first | rfl | (rw [hbt, h10]; rfl) | (rw [hbt]; rfl))) rfl) ?_
          refine wpr_app (a := a1) (n := (([34] ++ escL (List.take i s)).length)) (cap := c1) (x := (.slice (some ⟨g2, 0, none⟩) 2 2)) (t := 77) (xt := 77) (dst := some 34) (by kernel_rfl) (e := 5) (sz := 1) (bytes := 1) (by kernel_rfl) 0 (xs := (u8s ([34] ++ escL (List.take i s)))) (by kernel_rfl) (m := 2) (news := (u8s (escB s[i]))) (fun w h => src_ro h 1 rfl (by rw [esc10 h10]; rfl) (fun e => by cases e)) (by unfold maxLen; omega) (by omega) ?_
          intro a3 c3 hn
          rw [hcat i 2 hlt (by rw [esc10 h10]; rfl), hcat2 i hlt]
          refine RR [] .z (.i 3 (.slice a3 ([34] ++ escL (List.take (i + 1) s)).length c3) (.d (.d (.d (.k (.d (.k .a))))))) .a ?_
          refine RZ (BN (BN (NT (RG ?_))))
          refine RV true [] .z (.i 4 (.int .i64 ((↑i : Int) + 1)) (.k (.d (.k .a)))) .a ([inI64 ((↑i : Int) + (1 : Int))]) ⟨by unfold inI64; omega, trivial⟩ ?_
          refine RZ ?_
          exact fun a' w' hS' => ⟨⟨(i + 1, a3, c3), hlt⟩, by dsimp only; omega, ent_fr (by kernel_rfl) _ _ (ent_hp [0] rfl _ _ hS')⟩
        · refine SQ (SQ (RG ?_))
          refine RR [] .z (.i 9 (.bool (decide ((↑i : Int) < (↑s.length : Int)))) .a) .a ?_
          refine RZ (NT ?_)
          refine SC 9 (decide ((↑i : Int) < (↑s.length : Int))) true (decide_eq_true (by omega)) ?_
          refine CT (SK (NT (SQ (BK (SQ (RG ?_))))))
          refine RV true [] .z (.i 14 (.int .u8 (bt (mkS s) (↑i : Int))) (.d (.d (.k .a)))) .a [(0 : Int) ≤ (↑i : Int) ∧ (↑i : Int) < (↑s.length : Int)] ⟨by first | omega | decide | (simp; done), trivial⟩ ?_
          refine RZ (NT (BK (SQ (SQ (RG ?_)))))
          refine RR [] .z (.i 21 (.bool (bt (mkS s) (↑i : Int) == 92)) .a) .a ?_
          refine RZ (NT ?_)
          refine SC 21 (bt (mkS s) (↑i : Int) == 92) false (by simp only [bne_eq_false_iff_eq, beq_eq_false_iff_ne, ne_eq]; omega) ?_
          refine CF (RG ?_)
          refine RR [] .z (.i 21 (.bool (bt (mkS s) (↑i : Int) == 34)) (.d (.d (.k .a)))) .a ?_
          refine RZ (NT ?_)
          refine SC 21 (bt (mkS s) (↑i : Int) == 34) false (by simp only [bne_eq_false_iff_eq, beq_eq_false_iff_ne, ne_eq]; omega) ?_
          refine CF (SQ (RG ?_))
          refine RR [] .z (.i 30 (.bool (bt (mkS s) (↑i : Int) == 10)) (.d (.d (.d (.k .a))))) .a ?_
          refine RZ (NT ?_)
          refine SC 30 (bt (mkS s) (↑i : Int) == 10) false (by simp only [bne_eq_false_iff_eq, beq_eq_false_iff_ne, ne_eq]; omega) ?_
          refine CF (RG ?_)
          refine wpr_new (l₂ := [5, 6]) true [0, 1, 2, 3, 4] [] (fun g2 => ([(19, .slice (some ⟨g2, 0, none⟩) 1 1), (15, .slice a1 ([34] ++ escL (List.take i s)).length c1), (4, .int .i64 (↑i : Int)), (3, .slice a1 ([34] ++ escL (List.take i s)).length c1), (2, .string (mkS [])), (0, .string (mkS s))])) (fun g2 => ([row 5 1 a1 ([34] ++ escL (List.take i s)).length c1 (u8s ([34] ++ escL (List.take i s))), .blk g2 5 [.int .u8 (bt (mkS s) (↑i : Int))]])) (fun g2 => [(0 : Int) ≤ (↑i : Int) ∧ (↑i : Int) < (↑s.length : Int)]) (fun g2 => by kernel_rfl) (fun g2 => by kernel_rfl) (fun g2 => ⟨by first | omega | decide | (simp; done), trivial⟩) fun g2 => ?_
          refine wpr_ent (ent_turn 1 (ro (some ⟨g2, 0, none⟩) (u8s (escB s[i]))) rfl (turn_ro (escB s[i]) (by rw [escN h92 h34 h10]; first | rfl | (rw [hbt, h10]; rfl) | (rw [hbt]; rfl))) rfl) ?_
          refine wpr_app (a := a1) (n := (([34] ++ escL (List.take i s)).length)) (cap := c1) (x := (.slice (some ⟨g2, 0, none⟩) 1 1)) (t := 77) (xt := 77) (dst := some 20) (by kernel_rfl) (e := 5) (sz := 1) (bytes := 1) (by kernel_rfl) 0 (xs := (u8s ([34] ++ escL (List.take i s)))) (by kernel_rfl) (m := 1) (news := (u8s (escB s[i]))) (fun w h => src_ro h 1 rfl (by rw [escN h92 h34 h10]; rfl) (fun e => by cases e)) (by unfold maxLen; omega) (by omega) ?_
          intro a3 c3 hn
          rw [hcat i 1 hlt (by rw [escN h92 h34 h10]; rfl), hcat2 i hlt]
          refine RR [] .z (.i 3 (.slice a3 ([34] ++ escL (List.take (i + 1) s)).length c3) (.d (.d (.d (.k (.d (.k .a))))))) .a ?_
          refine RZ (BN (BN (NT (RG ?_))))
          refine RV true [] .z (.i 4 (.int .i64 ((↑i : Int) + 1)) (.k (.d (.k .a)))) .a ([inI64 ((↑i : Int) + (1 : Int))]) ⟨by unfold inI64; omega, trivial⟩ ?_
          refine RZ ?_
          exact fun a' w' hS' => ⟨⟨(i + 1, a3, c3), hlt⟩, by dsimp only; omega, ent_fr (by kernel_rfl) _ _ (ent_hp [0] rfl _ _ hS')⟩
  · obtain rfl : i = s.length := by omega
    rw [List.take_length] at *
    refine SQ (SQ (RG ?_))
    refine RR [] .z (.i 9 (.bool (decide ((↑s.length : Int) < (↑s.length : Int)))) .a) .a ?_
    refine RZ (NT ?_)
    refine SC 9 (decide ((↑s.length : Int) < (↑s.length : Int))) false (by simp) ?_
    refine CF (EX (TE (TE (BH (NT (SQ (RG ?_)))))))
    refine RN [] (.d (.d .a)) 36 (fun g2 => (.slice (some ⟨g2, 0, none⟩) 1 1)) (.i 35 (.slice a1 ([34] ++ escL s).length c1) (.d (.d (.d (.d (.k .z)))))) .a 5 [.int .u8 34] fun g2 => ?_
    refine wpr_ent (ent_turn 1 (ro (some ⟨g2, 0, none⟩) (u8s [34])) rfl (turn_ro [34] rfl) rfl) ?_
    refine wpr_app (a := a1) (n := (([34] ++ escL s).length)) (cap := c1) (x := (.slice (some ⟨g2, 0, none⟩) 1 1)) (t := 77) (xt := 77) (dst := some 37) (by kernel_rfl) (e := 5) (sz := 1) (bytes := 1) (by kernel_rfl) 0 (xs := (u8s ([34] ++ escL s))) (by kernel_rfl) (m := 1) (news := (u8s [34])) (fun w h => src_ro h 1 rfl rfl (fun e => by cases e)) (by unfold maxLen; omega) (by omega) ?_
    intro a3 c3 hn
    have hq1 : (([34] : List UInt8) ++ escL s).length + 1 = (quoL s).length := by simp [quoL]
    have hq2 : u8s (([34] : List UInt8) ++ escL s) ++ u8s [34] = u8s (quoL s) := by simp [u8s, quoL]
    rw [hq1, hq2]
    refine wpr_eq (b2s (a := 77) (b := 9) (ad := a3) (n := ((quoL s).length)) (c := c3) (dst := some 38) (by kernel_rfl) (by kernel_rfl) (quoL s) (by first | rfl | simp) (fun w h => b2s_row h 0 rfl)) ?_
    refine RR [] .z (.i 2 (.string (mkS (quoL s))) .z) .a ?_
    refine RZ (NT (RE ?_))
    refine NE [] .z .a [] (.string (mkS (quoL s))) ?_
    exact ⟨rfl, rfl⟩
end Go.Proofs.YtpfhleghgkeemaaGreatDoor
