import Derived.Test.YtpfhleghgkeemaaGreatDoorH6
import Derived.Test.YtpfhleghgkeemaaGreatDoorY3
import Derived.Lib.Bytealg
import Derived.Test.YtpfhleghgkeemaaGreatDoorY2
namespace Go.Proofs.YtpfhleghgkeemaaGreatDoor
open Go Go.Sx
set_option linter.unusedVariables false
set_option linter.unusedSimpArgs false

/-- A byte as it is written within quotes. -/
def escB (c : UInt8) : List UInt8 := if c = 92 then [92, 92] else if c = 34 then [92, 34] else if c = 10 then [92, 110] else [c]
def spB (c : UInt8) : Bool := c == 92 || c == 34 || c == 10
def escL (s : List UInt8) : List UInt8 := s.flatMap escB
theorem fold_count (c : UInt8) : ∀ (s : List UInt8) (n : Nat), s.foldl (fun n x => if (x == c) = true then n + 1 else n) n = n + s.count c
  | [], n => by simp
  | x :: s, n => by
    rw [List.foldl_cons, fold_count c s, List.count_cons]
    cases h : x == c <;> simp <;> omega
theorem Count_spec (s : List UInt8) (c : UInt8) : Does Tryz.prog 232 [.string (mkS s), .string (mkS [c])] [] (fun v hp' => v = .int .i64 ((s.count c : Nat) : Int) ∧ hp' = []) := by
  refine fn_enter Tryz.func232 rfl 34 rfl fun w0 h0 => ?_
  refine SQ (RG ?_)
  refine RR [] .z (.i 4 (.int .i64 0) .a) .a ?_
  refine RZ (NT (SQ (SQ (RG ?_))))
  refine RR [] .z (.i 9 (.bool false) .a) .a ?_
  refine RZ (NT (CF (SK (NT (SQ (SQ (RG ?_)))))))
  refine RR [] .z (.i 15 (.bool true) (.d (.k .a))) .a ?_
  refine RZ (NT (CT (SQ (RG ?_))))
  refine RV true [] .z (.i 4 (.int .i64 (ByteArray.foldl (fun (n : Int) (x : UInt8) => if (x == (bt (mkS [c]) 0).toNat.toUInt8) = true then n + 1 else n) (↑0 : Int) (mkS s) 0 s.length)) (.d (.d (.k .a)))) .a [(0 : Int) ≤ (0 : Int) ∧ (0 : Int) < (↑[c].length : Int)] ⟨by first | omega | decide | (simp; done), trivial⟩ ?_
  refine RZ (NT (RE (TR ?_)))
  refine NE [] .a .a [] (.int .i64 (ByteArray.foldl (fun (n : Int) (x : UInt8) => if (x == (bt (mkS [c]) 0).toNat.toUInt8) = true then n + 1 else n) 0 (mkS s) 0 s.length)) ?_
  refine ⟨?_, rfl⟩
  have hb : (bt (mkS [c]) 0).toNat.toUInt8 = c := by
    rw [show bt (mkS [c]) 0 = (c.toNat : Int) from bt_at (s := [c]) (i := 0) (by simp)]
    simp
  rw [hb]
  show Value.int .i64 (ByteArray.foldl (fun (n : Int) x => if (x == c) = true then n + 1 else n) ((0 : Nat) : Int) (mkS s)) = _
  rw [Go.Lib.foldl_data, Go.Lib.count_foldl]
  simp [Go.Lib.countByte, mkS]
def spN (s : List UInt8) : Nat := s.countP spB
theorem spN_count : ∀ s : List UInt8, spN s = s.count 10 + s.count 34 + s.count 92
  | [] => rfl
  | c :: s => by
    have ih := spN_count s
    unfold spN at ih ⊢
    rw [List.countP_cons, List.count_cons, List.count_cons, List.count_cons, ih]
    unfold spB
    by_cases h1 : c = 92
    · subst h1; simp; omega
    · by_cases h2 : c = 34
      · subst h2; simp; omega
      · by_cases h3 : c = 10
        · subst h3; simp; omega
        · simp [h1, h2, h3]
theorem escB_len (c : UInt8) : (escB c).length = if spB c then 2 else 1 := by
  unfold escB spB
  by_cases h1 : c = 92
  · subst h1; rfl
  · by_cases h2 : c = 34
    · subst h2; rfl
    · by_cases h3 : c = 10
      · subst h3; rfl
      · simp [h1, h2, h3]
theorem escL_len : ∀ s : List UInt8, (escL s).length = s.length + spN s
  | [] => rfl
  | c :: s => by
    have ih := escL_len s
    unfold escL spN at ih ⊢
    rw [List.flatMap_cons, List.length_append, ih, escB_len, List.countP_cons, List.length_cons]
    cases spB c <;> simp <;> omega
theorem escL_same {s : List UInt8} (h : spN s = 0) : escL s = s := by
  induction s with
  | nil => rfl
  | cons c s ih =>
    unfold spN at h
    rw [List.countP_cons] at h
    have hc : spB c = false := by
      cases hs : spB c with
      | false => rfl
      | true => rw [hs] at h; simp at h
    have hs : spN s = 0 := by unfold spN; omega
    unfold escL
    rw [List.flatMap_cons]
    have : s.flatMap escB = s := ih hs
    rw [this]
    unfold spB at hc
    simp only [Bool.or_eq_false_iff, beq_eq_false_iff_ne, ne_eq] at hc
    unfold escB
    simp [hc.1.1, hc.1.2, hc.2]
theorem repR_sp (p : Nat → Nat × Nat) (c : UInt8) (h : spB c = false) : repR 0 p c.toNat = .slice none 0 0 := by
  unfold spB at h
  simp only [Bool.or_eq_false_iff, beq_eq_false_iff_ne, ne_eq] at h
  have h1 : ¬ c.toNat = 92 := fun e => h.1.1 (UInt8.toNat_inj.1 e)
  have h2 : ¬ c.toNat = 34 := fun e => h.1.2 (UInt8.toNat_inj.1 e)
  have h3 : ¬ c.toNat = 10 := fun e => h.2 (UInt8.toNat_inj.1 e)
  simp [repR, h1, h2, h3]
theorem repR_is (p : Nat → Nat × Nat) (c : UInt8) (h : spB c = true) : ∃ j, j < 3 ∧ repR 0 p c.toNat = sl2 (p j) ∧ newL j = escB c := by
  unfold spB at h
  simp only [Bool.or_eq_true, beq_iff_eq] at h
  rcases h with (rfl | rfl) | rfl
  · exact ⟨0, by decide, rfl, rfl⟩
  · exact ⟨1, by decide, rfl, rfl⟩
  · exact ⟨2, by decide, rfl, rfl⟩
def bsL : List UInt8 := [10, 34, 92]
def cntL (s : List UInt8) (k : Nat) : Nat := ((bsL.take k).map fun b => s.count b).sum
theorem bsrReplace_spec (g2 : Nat) (p : Nat → Nat × Nat) (ta : Option Addr) (tc : Nat) (s : List UInt8) (hl : s.length ≤ 255) (rc : (Nat → Value) → Value → List Value) (hlen : ∀ R t, (rc R t).length = 257) (hat : ∀ R t q, q < 256 → ((rc R t).drop (q * 1)).take 1 = [R q]) (hT : ∀ R t, ((rc R t).drop 256).take 1 = [t]) :
    Does Tryz.prog 230 [.pointer (some ⟨g2, 0, none⟩), .string (mkS s)] [ro (some ⟨g2, 0, none⟩) (rc (repR 0 p) (.slice ta 3 tc)), ro ta (toRep 0), bag (repRows 0 p)] (fun v hp' => v = .string (mkS (escL s)) ∧ hp' = []) := by
  refine fn_enter Tryz.func230 rfl 122 rfl fun w0 h0 => ?_
  refine SQ (RG ?_)
  refine RR [] .z (.i 4 (.string ⟨#[]⟩) .a) .a ?_
  refine RZ (NT (SQ (RG ?_)))
  refine RR [] .z (.i 5 (.int .i64 (↑s.length : Int)) .a) .a ?_
  refine RZ (NT (SQ (RG ?_)))
  refine RR [] .z (.i 6 (.bool false) .a) .a ?_
  refine RZ (NT (SQ (SQ (RG ?_))))
  refine RR [] (.d (.d (.d .a))) (.i 20 (.pointer (some ⟨g2, 256, none⟩)) .a) .a ?_
  refine wpr_eq (ld (t := 183) (a := (⟨g2, 256, none⟩)) (dst := some 21) (by kernel_rfl) false 1 (by kernel_rfl) (by simp) [.slice ta 3 tc] rfl (fun w h => ld_ro h 0 rfl 256 (hT _ _))) ?_
  refine RV true [] .z (.i 26 (.bool (decide (24 ≤ (↑s.length : Int)))) (.d (.d (.k .a)))) .a [inI64 ((3 : Int) * (8 : Int))] ⟨by unfold inI64; omega, trivial⟩ ?_
  refine RZ (NT ?_)
  refine wpc_join ⟨[(5, Value.int .i64 ((s.length + spN s : Nat) : Int)), (6, .bool (decide (0 < spN s))), (4, (.string ⟨#[]⟩)), (0, (.pointer (some ⟨g2, 0, none⟩))), (1, (.string (mkS s)))], [ro (some ⟨g2, 0, none⟩) (rc (repR 0 p) (.slice ta 3 tc)), ro ta (toRep 0), bag (repRows 0 p)]⟩ (fun Q1 hQ1 hk => ?_) ?_
  · by_cases h24 : 24 ≤ s.length
    · refine SC 26 (decide (24 ≤ (↑s.length : Int))) true (decide_eq_true (by omega)) ?_
      refine CT (SQ (RG ?_))
      refine RR [] (.d (.d (.d .a))) (.i 29 (.pointer (some ⟨g2, 256, none⟩)) (.d (.d (.k .a)))) .a ?_
      refine wpr_eq (ld (t := 183) (a := (⟨g2, 256, none⟩)) (dst := some 30) (by kernel_rfl) false 1 (by kernel_rfl) (by simp) [.slice ta 3 tc] rfl (fun w h => ld_ro h 0 rfl 256 (hT _ _))) ?_
      refine RR [] .z (.i 32 (.int .i64 0) (.i 31 (.int .i64 3) (.i 30 (.slice ta 3 tc) (.d (.d (.k .a)))))) .a ?_
      refine RZ (NT (BK ?_))
      refine wpc_fact (fun w h => ro_addr h 1 rfl (by decide)) ?_
      rintro ⟨gt, ot, rfl⟩
      refine wpc_loop (X := {k : Nat // k ≤ 3}) (fun x => St.mk [(32, .int .i64 (x.1 : Int)), (31, .int .i64 3), (30, .slice (some ⟨gt, ot, none⟩) 3 tc), (6, .bool (decide (0 < cntL s x.1))), (5, .int .i64 ((s.length + cntL s x.1 : Nat) : Int)), (4, .string ⟨#[]⟩), (0, .pointer (some ⟨g2, 0, none⟩)), (1, .string (mkS s))]
        [ro (some { block := g2, off := 0 }) (rc (repR 0 p) (Value.slice (some ⟨gt, ot, none⟩) 3 tc)), ro (some ⟨gt, ot, none⟩) (toRep 0), bag (repRows 0 p)]) (fun x => 3 - x.1) ⟨0, by decide⟩ (ent_fr (by kernel_rfl)) ?_
      rintro ⟨k, hk3⟩
      dsimp only at hk3 ⊢
      rcases (by omega : k = 0 ∨ k = 1 ∨ k = 2 ∨ k = 3) with rfl | rfl | rfl | rfl
      · have hcs : cntL s 1 = cntL s 0 + s.count 10 := by simp [cntL, bsL, Nat.add_assoc]
        have hcl := List.count_le_length (a := 10) (l := s)
        have hsz : (mkS [10]).size = 1 := rfl
        have hcz : cntL s 0 ≤ 0 * 255 := by
          have h1 := List.count_le_length (a := 10) (l := s)
          have h2 := List.count_le_length (a := 34) (l := s)
          simp [cntL, bsL] <;> omega
        refine SQ (RG ?_)
        refine RR [] .z (.i 33 (.bool true) (.i 32 (.int .i64 0) (.d (.k (.k (.i 6 (.bool false) (.d (.k .a)))))))) .a ?_
        refine RZ (NT (SQ (CT (SK (NT (SQ (BK (SQ (RG ?_)))))))))
        refine RV true [] (.d .a) (.i 34 (.pointer (some ⟨gt, ot, none⟩)) (.d (.k .a))) .a [(0 : Int) ≤ (0 : Int) ∧ (0 : Int) < (↑(3 : Nat) : Int)] ⟨by first | omega | decide | (simp; done), trivial⟩ ?_
        refine wpr_eq (ld (t := 9) (a := (⟨gt, ot, none⟩)) (dst := some 35) (by kernel_rfl) false 1 (by kernel_rfl) (by simp) [.string (mkS [10])] rfl (fun w h => ld_ro h 1 rfl 0 rfl)) ?_
        refine RR [] .z (.i 8 (.string (mkS [10])) (.d (.d (.k .a)))) .a ?_
        refine RZ (NT (SQ (RG ?_)))
        refine RR [] (.d (.d .a)) (.i 37 (.string (mkS [10])) (.i 36 (.string (mkS s)) .a)) .a ?_
        refine RC (dst := some 38) [] .a (Count_spec s 10) ?_
        rintro v _ ⟨rfl, rfl⟩
        by_cases hc : s.count 10 = 0
        · refine RR [] .z (.i 9 (.int .i64 (↑(List.count 10 s) : Int)) (.d (.d (.d (.k .a))))) .a ?_
          refine RZ (NT (SQ (RG ?_)))
          refine RR [] .z (.i 40 (.bool ((↑(List.count 10 s) : Int) != 0)) .a) .a ?_
          refine RZ (NT ?_)
          refine SC 40 ((↑(List.count 10 s) : Int) != 0) false (by simp only [bne_eq_false_iff_eq, beq_eq_false_iff_ne, ne_eq]; omega) ?_
          refine CF (SK (BN (NT (RG ?_))))
          refine RV true [] .z (.i 32 (.int .i64 1) (.d (.d (.d (.d (.d (.k .a))))))) .a ([inI64 ((0 : Int) + (1 : Int))]) ⟨by unfold inI64; omega, trivial⟩ ?_
          refine RZ ?_
          refine nx_ent (ent_set 5 (.int .i64 (↑(s.length + cntL s 0) : Int)) (Value.int .i64 ((s.length + cntL s 1 : Nat) : Int)) (by kernel_rfl) (by simp only [hcs, hc, Nat.add_zero]; first | done | rfl)) ?_
          refine nx_ent (ent_set 6 (.bool false) (.bool (decide (0 < cntL s 1))) (by kernel_rfl) (by simp only [hcs, hc, Nat.add_zero]; first | done | rfl)) ?_
          exact fun a' w' hS' => ⟨⟨1, by decide⟩, by dsimp only; omega, ent_fr (by kernel_rfl) _ _ (ent_hp [0, 0, 0] rfl _ _ hS')⟩
        · refine RR [] .z (.i 9 (.int .i64 (↑(List.count 10 s) : Int)) (.d (.d (.d (.k .a))))) .a ?_
          refine RZ (NT (SQ (RG ?_)))
          refine RR [] .z (.i 40 (.bool ((↑(List.count 10 s) : Int) != 0)) .a) .a ?_
          refine RZ (NT ?_)
          refine SC 40 ((↑(List.count 10 s) : Int) != 0) true (by simp only [bne_iff_ne, beq_iff_eq, ne_eq]; omega) ?_
          refine CT (SQ ?_)
          refine wpc_draw (by kernel_rfl) [ro (some ⟨g2, 0, none⟩) (rc (repR 0 p) (.slice (some ⟨gt, ot, none⟩) 3 tc))] (sub_of [0] (by kernel_rfl)) 14 (by kernel_rfl) ?_
          refine wpa_take true [(0, []), (1, []), (2, []), (3, []), (4, []), (5, []), (6, []), (7, [])] ([(48, .pointer (some ⟨g2, 10, none⟩)), (42, .int .i64 (↑(List.count 10 s) : Int)), (41, .int .i64 (↑(s.length + cntL s 0) : Int)), (32, .int .i64 0), (31, .int .i64 3), (30, .slice (some ⟨gt, ot, none⟩) 3 tc), (6, .bool false), (5, .int .i64 (↑(s.length + cntL s 0) : Int)), (4, .string ⟨#[]⟩), (0, .pointer (some ⟨g2, 0, none⟩)), (1, .string (mkS s))]) (#[true, true, true, true, true, true, true, true, false, false, false, false, false, false]) [(0 : Int) ≤ (0 : Int) ∧ (0 : Int) < (↑[(10 : UInt8)].length : Int), (0 : Int) ≤ (10 : Int) ∧ (10 : Int) < (↑(256 : Nat) : Int)] (n := 6) (by kernel_rfl) (by kernel_rfl) (by kernel_rfl) ⟨by first | omega | decide | (simp; done), by first | omega | decide | (simp; done), trivial⟩ ?_
          refine wpa_qld (i := 8) (n := 5) (by kernel_rfl) (by kernel_rfl) (by kernel_rfl) (t := 77) (a := (⟨g2, 10, none⟩)) (dst := some 49) (by kernel_rfl) false 1 (by kernel_rfl) (by simp) [sl2 (p 2)] rfl (fun w h => ld_roL h 0 rfl 10 (hat _ _ 10 (by decide))) ?_
          refine wpa_take true [(9, []), (10, []), (11, []), (12, []), (13, [])] ([(5, .int .i64 ((↑(s.length + cntL s 0) : Int) + (↑(List.count 10 s) : Int) * 1)), (32, .int .i64 0), (31, .int .i64 3), (30, .slice (some ⟨gt, ot, none⟩) 3 tc), (6, .bool false), (4, .string ⟨#[]⟩), (0, .pointer (some ⟨g2, 0, none⟩)), (1, .string (mkS s))]) (#[true, true, true, true, true, true, true, true, true, true, true, true, true, true]) ([inI64 ((2 : Int) - (1 : Int)), inI64 ((↑(List.count (10 : UInt8) s) : Int) * (1 : Int)), inI64 ((↑(s.length + cntL s (0 : Nat)) : Int) + (↑(List.count (10 : UInt8) s) : Int) * (1 : Int))]) (n := 0) (by kernel_rfl) (by kernel_rfl) (by kernel_rfl) ⟨by unfold inI64; omega, by unfold inI64; omega, by unfold inI64; omega, trivial⟩ ?_
          refine wpa_done 0 (by kernel_rfl) ?_
          refine NT (RG ?_)
          refine RR [] .z (.i 6 (.bool true) (.k (.k (.k (.k (.d (.k .a))))))) .a ?_
          refine RZ (BN (NT (RG ?_)))
          refine RV true [] .z (.i 32 (.int .i64 1) (.k (.k (.d (.k .a))))) .a ([inI64 ((0 : Int) + (1 : Int))]) ⟨by unfold inI64; omega, trivial⟩ ?_
          refine RZ ?_
          refine nx_ent (ent_set 5 (.int .i64 ((↑(s.length + cntL s 0) : Int) + (↑(List.count 10 s) : Int) * 1)) (Value.int .i64 ((s.length + cntL s 1 : Nat) : Int)) (by kernel_rfl) (by simp only [hcs]; first | done | rfl | (congr 1; omega))) ?_
          refine nx_ent (ent_set 6 (.bool true) (.bool (decide (0 < cntL s 1))) (by kernel_rfl) (by rw [decide_eq_true (by omega)])) ?_
          exact fun a' w' hS' => ⟨⟨1, by decide⟩, by dsimp only; omega, ent_fr (by kernel_rfl) _ _ (ent_hp [0, 0, 0] rfl _ _ hS')⟩
      · have hcs : cntL s 2 = cntL s 1 + s.count 34 := by simp [cntL, bsL, Nat.add_assoc]
        have hcl := List.count_le_length (a := 34) (l := s)
        have hsz : (mkS [34]).size = 1 := rfl
        have hcz : cntL s 1 ≤ 1 * 255 := by
          have h1 := List.count_le_length (a := 10) (l := s)
          have h2 := List.count_le_length (a := 34) (l := s)
          simp [cntL, bsL] <;> omega
        refine SQ (RG ?_)
        refine RR [] .z (.i 33 (.bool true) (.i 32 (.int .i64 1) (.d (.k .a)))) .a ?_
        refine RZ (NT (SQ (CT (SK (NT (SQ (BK (SQ (RG ?_)))))))))
        refine RV true [] (.d .a) (.i 34 (.pointer (some ⟨gt, ot + 1, none⟩)) (.d (.k .a))) .a [(0 : Int) ≤ (1 : Int) ∧ (1 : Int) < (↑(3 : Nat) : Int)] ⟨by first | omega | decide | (simp; done), trivial⟩ ?_
        refine wpr_eq (ld (t := 9) (a := (⟨gt, ot + 1, none⟩)) (dst := some 35) (by kernel_rfl) false 1 (by kernel_rfl) (by simp) [.string (mkS [34])] rfl (fun w h => ld_ro h 1 rfl 1 rfl)) ?_
        refine RR [] .z (.i 8 (.string (mkS [34])) (.d (.d (.k .a)))) .a ?_
        refine RZ (NT (SQ (RG ?_)))
        refine RR [] (.d (.d .a)) (.i 37 (.string (mkS [34])) (.i 36 (.string (mkS s)) .a)) .a ?_
        refine RC (dst := some 38) [] .a (Count_spec s 34) ?_
        rintro v _ ⟨rfl, rfl⟩
        by_cases hc : s.count 34 = 0
        · refine RR [] .z (.i 9 (.int .i64 (↑(List.count 34 s) : Int)) (.d (.d (.d (.k .a))))) .a ?_
          refine RZ (NT (SQ (RG ?_)))
          refine RR [] .z (.i 40 (.bool ((↑(List.count 34 s) : Int) != 0)) .a) .a ?_
          refine RZ (NT ?_)
          refine SC 40 ((↑(List.count 34 s) : Int) != 0) false (by simp only [bne_eq_false_iff_eq, beq_eq_false_iff_ne, ne_eq]; omega) ?_
          refine CF (SK (BN (NT (RG ?_))))
          refine RV true [] .z (.i 32 (.int .i64 2) (.d (.d (.d (.d (.d (.k .a))))))) .a ([inI64 ((1 : Int) + (1 : Int))]) ⟨by unfold inI64; omega, trivial⟩ ?_
          refine RZ ?_
          refine nx_ent (ent_set 5 (.int .i64 (↑(s.length + cntL s 1) : Int)) (Value.int .i64 ((s.length + cntL s 2 : Nat) : Int)) (by kernel_rfl) (by simp only [hcs, hc, Nat.add_zero]; first | done | rfl)) ?_
          refine nx_ent (ent_set 6 (.bool (decide (0 < cntL s 1))) (.bool (decide (0 < cntL s 2))) (by kernel_rfl) (by simp only [hcs, hc, Nat.add_zero]; first | done | rfl)) ?_
          exact fun a' w' hS' => ⟨⟨2, by decide⟩, by dsimp only; omega, ent_fr (by kernel_rfl) _ _ (ent_hp [0, 0, 0] rfl _ _ hS')⟩
        · refine RR [] .z (.i 9 (.int .i64 (↑(List.count 34 s) : Int)) (.d (.d (.d (.k .a))))) .a ?_
          refine RZ (NT (SQ (RG ?_)))
          refine RR [] .z (.i 40 (.bool ((↑(List.count 34 s) : Int) != 0)) .a) .a ?_
          refine RZ (NT ?_)
          refine SC 40 ((↑(List.count 34 s) : Int) != 0) true (by simp only [bne_iff_ne, beq_iff_eq, ne_eq]; omega) ?_
          refine CT (SQ ?_)
          refine wpc_draw (by kernel_rfl) [ro (some ⟨g2, 0, none⟩) (rc (repR 0 p) (.slice (some ⟨gt, ot, none⟩) 3 tc))] (sub_of [0] (by kernel_rfl)) 14 (by kernel_rfl) ?_
          refine wpa_take true [(0, []), (1, []), (2, []), (3, []), (4, []), (5, []), (6, []), (7, [])] ([(48, .pointer (some ⟨g2, 34, none⟩)), (42, .int .i64 (↑(List.count 34 s) : Int)), (41, .int .i64 (↑(s.length + cntL s 1) : Int)), (32, .int .i64 1), (31, .int .i64 3), (30, .slice (some ⟨gt, ot, none⟩) 3 tc), (6, .bool (decide (0 < cntL s 1))), (5, .int .i64 (↑(s.length + cntL s 1) : Int)), (4, .string ⟨#[]⟩), (0, .pointer (some ⟨g2, 0, none⟩)), (1, .string (mkS s))]) (#[true, true, true, true, true, true, true, true, false, false, false, false, false, false]) [(0 : Int) ≤ (0 : Int) ∧ (0 : Int) < (↑[(34 : UInt8)].length : Int), (0 : Int) ≤ (34 : Int) ∧ (34 : Int) < (↑(256 : Nat) : Int)] (n := 6) (by kernel_rfl) (by kernel_rfl) (by kernel_rfl) ⟨by first | omega | decide | (simp; done), by first | omega | decide | (simp; done), trivial⟩ ?_
          refine wpa_qld (i := 8) (n := 5) (by kernel_rfl) (by kernel_rfl) (by kernel_rfl) (t := 77) (a := (⟨g2, 34, none⟩)) (dst := some 49) (by kernel_rfl) false 1 (by kernel_rfl) (by simp) [sl2 (p 1)] rfl (fun w h => ld_roL h 0 rfl 34 (hat _ _ 34 (by decide))) ?_
          refine wpa_take true [(9, []), (10, []), (11, []), (12, []), (13, [])] ([(5, .int .i64 ((↑(s.length + cntL s 1) : Int) + (↑(List.count 34 s) : Int) * 1)), (32, .int .i64 1), (31, .int .i64 3), (30, .slice (some ⟨gt, ot, none⟩) 3 tc), (6, .bool (decide (0 < cntL s 1))), (4, .string ⟨#[]⟩), (0, .pointer (some ⟨g2, 0, none⟩)), (1, .string (mkS s))]) (#[true, true, true, true, true, true, true, true, true, true, true, true, true, true]) ([inI64 ((2 : Int) - (1 : Int)), inI64 ((↑(List.count (34 : UInt8) s) : Int) * (1 : Int)), inI64 ((↑(s.length + cntL s (1 : Nat)) : Int) + (↑(List.count (34 : UInt8) s) : Int) * (1 : Int))]) (n := 0) (by kernel_rfl) (by kernel_rfl) (by kernel_rfl) ⟨by unfold inI64; omega, by unfold inI64; omega, by unfold inI64; omega, trivial⟩ ?_
          refine wpa_done 0 (by kernel_rfl) ?_
          refine NT (RG ?_)
          refine RR [] .z (.i 6 (.bool true) (.k (.k (.k (.k (.d (.k .a))))))) .a ?_
          refine RZ (BN (NT (RG ?_)))
          refine RV true [] .z (.i 32 (.int .i64 2) (.k (.k (.d (.k .a))))) .a ([inI64 ((1 : Int) + (1 : Int))]) ⟨by unfold inI64; omega, trivial⟩ ?_
          refine RZ ?_
          refine nx_ent (ent_set 5 (.int .i64 ((↑(s.length + cntL s 1) : Int) + (↑(List.count 34 s) : Int) * 1)) (Value.int .i64 ((s.length + cntL s 2 : Nat) : Int)) (by kernel_rfl) (by simp only [hcs]; first | done | rfl | (congr 1; omega))) ?_
          refine nx_ent (ent_set 6 (.bool true) (.bool (decide (0 < cntL s 2))) (by kernel_rfl) (by rw [decide_eq_true (by omega)])) ?_
          exact fun a' w' hS' => ⟨⟨2, by decide⟩, by dsimp only; omega, ent_fr (by kernel_rfl) _ _ (ent_hp [0, 0, 0] rfl _ _ hS')⟩
      · have hcs : cntL s 3 = cntL s 2 + s.count 92 := by simp [cntL, bsL, Nat.add_assoc]
        have hcl := List.count_le_length (a := 92) (l := s)
        have hsz : (mkS [92]).size = 1 := rfl
        have hcz : cntL s 2 ≤ 2 * 255 := by
          have h1 := List.count_le_length (a := 10) (l := s)
          have h2 := List.count_le_length (a := 34) (l := s)
          simp [cntL, bsL] <;> omega
        refine SQ (RG ?_)
        refine RR [] .z (.i 33 (.bool true) (.i 32 (.int .i64 2) (.d (.k .a)))) .a ?_
        refine RZ (NT (SQ (CT (SK (NT (SQ (BK (SQ (RG ?_)))))))))
        refine RV true [] (.d .a) (.i 34 (.pointer (some ⟨gt, ot + 2, none⟩)) (.d (.k .a))) .a [(0 : Int) ≤ (2 : Int) ∧ (2 : Int) < (↑(3 : Nat) : Int)] ⟨by first | omega | decide | (simp; done), trivial⟩ ?_
        refine wpr_eq (ld (t := 9) (a := (⟨gt, ot + 2, none⟩)) (dst := some 35) (by kernel_rfl) false 1 (by kernel_rfl) (by simp) [.string (mkS [92])] rfl (fun w h => ld_ro h 1 rfl 2 rfl)) ?_
        refine RR [] .z (.i 8 (.string (mkS [92])) (.d (.d (.k .a)))) .a ?_
        refine RZ (NT (SQ (RG ?_)))
        refine RR [] (.d (.d .a)) (.i 37 (.string (mkS [92])) (.i 36 (.string (mkS s)) .a)) .a ?_
        refine RC (dst := some 38) [] .a (Count_spec s 92) ?_
        rintro v _ ⟨rfl, rfl⟩
        by_cases hc : s.count 92 = 0
        · refine RR [] .z (.i 9 (.int .i64 (↑(List.count 92 s) : Int)) (.d (.d (.d (.k .a))))) .a ?_
          refine RZ (NT (SQ (RG ?_)))
          refine RR [] .z (.i 40 (.bool ((↑(List.count 92 s) : Int) != 0)) .a) .a ?_
          refine RZ (NT ?_)
          refine SC 40 ((↑(List.count 92 s) : Int) != 0) false (by simp only [bne_eq_false_iff_eq, beq_eq_false_iff_ne, ne_eq]; omega) ?_
          refine CF (SK (BN (NT (RG ?_))))
          refine RV true [] .z (.i 32 (.int .i64 3) (.d (.d (.d (.d (.d (.k .a))))))) .a ([inI64 ((2 : Int) + (1 : Int))]) ⟨by unfold inI64; omega, trivial⟩ ?_
          refine RZ ?_
          refine nx_ent (ent_set 5 (.int .i64 (↑(s.length + cntL s 2) : Int)) (Value.int .i64 ((s.length + cntL s 3 : Nat) : Int)) (by kernel_rfl) (by simp only [hcs, hc, Nat.add_zero]; first | done | rfl)) ?_
          refine nx_ent (ent_set 6 (.bool (decide (0 < cntL s 2))) (.bool (decide (0 < cntL s 3))) (by kernel_rfl) (by simp only [hcs, hc, Nat.add_zero]; first | done | rfl)) ?_
          exact fun a' w' hS' => ⟨⟨3, by decide⟩, by dsimp only; omega, ent_fr (by kernel_rfl) _ _ (ent_hp [0, 0, 0] rfl _ _ hS')⟩
        · refine RR [] .z (.i 9 (.int .i64 (↑(List.count 92 s) : Int)) (.d (.d (.d (.k .a))))) .a ?_
          refine RZ (NT (SQ (RG ?_)))
          refine RR [] .z (.i 40 (.bool ((↑(List.count 92 s) : Int) != 0)) .a) .a ?_
          refine RZ (NT ?_)
          refine SC 40 ((↑(List.count 92 s) : Int) != 0) true (by simp only [bne_iff_ne, beq_iff_eq, ne_eq]; omega) ?_
          refine CT (SQ ?_)
          refine wpc_draw (by kernel_rfl) [ro (some ⟨g2, 0, none⟩) (rc (repR 0 p) (.slice (some ⟨gt, ot, none⟩) 3 tc))] (sub_of [0] (by kernel_rfl)) 14 (by kernel_rfl) ?_
          refine wpa_take true [(0, []), (1, []), (2, []), (3, []), (4, []), (5, []), (6, []), (7, [])] ([(48, .pointer (some ⟨g2, 92, none⟩)), (42, .int .i64 (↑(List.count 92 s) : Int)), (41, .int .i64 (↑(s.length + cntL s 2) : Int)), (32, .int .i64 2), (31, .int .i64 3), (30, .slice (some ⟨gt, ot, none⟩) 3 tc), (6, .bool (decide (0 < cntL s 2))), (5, .int .i64 (↑(s.length + cntL s 2) : Int)), (4, .string ⟨#[]⟩), (0, .pointer (some ⟨g2, 0, none⟩)), (1, .string (mkS s))]) (#[true, true, true, true, true, true, true, true, false, false, false, false, false, false]) [(0 : Int) ≤ (0 : Int) ∧ (0 : Int) < (↑[(92 : UInt8)].length : Int), (0 : Int) ≤ (92 : Int) ∧ (92 : Int) < (↑(256 : Nat) : Int)] (n := 6) (by kernel_rfl) (by kernel_rfl) (by kernel_rfl) ⟨by first | omega | decide | (simp; done), by first | omega | decide | (simp; done), trivial⟩ ?_
          refine wpa_qld (i := 8) (n := 5) (by kernel_rfl) (by kernel_rfl) (by kernel_rfl) (t := 77) (a := (⟨g2, 92, none⟩)) (dst := some 49) (by kernel_rfl) false 1 (by kernel_rfl) (by simp) [sl2 (p 0)] rfl (fun w h => ld_roL h 0 rfl 92 (hat _ _ 92 (by decide))) ?_
          refine wpa_take true [(9, []), (10, []), (11, []), (12, []), (13, [])] ([(5, .int .i64 ((↑(s.length + cntL s 2) : Int) + (↑(List.count 92 s) : Int) * 1)), (32, .int .i64 2), (31, .int .i64 3), (30, .slice (some ⟨gt, ot, none⟩) 3 tc), (6, .bool (decide (0 < cntL s 2))), (4, .string ⟨#[]⟩), (0, .pointer (some ⟨g2, 0, none⟩)), (1, .string (mkS s))]) (#[true, true, true, true, true, true, true, true, true, true, true, true, true, true]) ([inI64 ((2 : Int) - (1 : Int)), inI64 ((↑(List.count (92 : UInt8) s) : Int) * (1 : Int)), inI64 ((↑(s.length + cntL s (2 : Nat)) : Int) + (↑(List.count (92 : UInt8) s) : Int) * (1 : Int))]) (n := 0) (by kernel_rfl) (by kernel_rfl) (by kernel_rfl) ⟨by unfold inI64; omega, by unfold inI64; omega, by unfold inI64; omega, trivial⟩ ?_
          refine wpa_done 0 (by kernel_rfl) ?_
          refine NT (RG ?_)
          refine RR [] .z (.i 6 (.bool true) (.k (.k (.k (.k (.d (.k .a))))))) .a ?_
          refine RZ (BN (NT (RG ?_)))
          refine RV true [] .z (.i 32 (.int .i64 3) (.k (.k (.d (.k .a))))) .a ([inI64 ((2 : Int) + (1 : Int))]) ⟨by unfold inI64; omega, trivial⟩ ?_
          refine RZ ?_
          refine nx_ent (ent_set 5 (.int .i64 ((↑(s.length + cntL s 2) : Int) + (↑(List.count 92 s) : Int) * 1)) (Value.int .i64 ((s.length + cntL s 3 : Nat) : Int)) (by kernel_rfl) (by simp only [hcs]; first | done | rfl | (congr 1; omega))) ?_
          refine nx_ent (ent_set 6 (.bool true) (.bool (decide (0 < cntL s 3))) (by kernel_rfl) (by rw [decide_eq_true (by omega)])) ?_
          exact fun a' w' hS' => ⟨⟨3, by decide⟩, by dsimp only; omega, ent_fr (by kernel_rfl) _ _ (ent_hp [0, 0, 0] rfl _ _ hS')⟩
      · have hcs : cntL s 3 = spN s := by rw [spN_count, Nat.add_assoc]; show s.count 10 + (s.count 34 + (s.count 92 + 0)) = _; rfl
        refine SQ (RG ?_)
        refine RR [] .z (.i 33 (.bool false) (.i 32 (.int .i64 3) (.d (.k .a)))) .a ?_
        refine RZ (NT (SQ (CF (EX (TE (TE (BH ?_)))))))
        rw [hcs]
        exact nx_ent (ent_fr (by kernel_rfl)) hk
    --PATHB
    · refine SC 26 (decide (24 ≤ (↑s.length : Int))) false (decide_eq_false (by omega)) ?_
      refine CF (SQ (RG ?_))
      refine RR [] .z (.i 10 (.int .i64 0) (.d (.d (.k .a)))) .a ?_
      refine RZ (NT (BK ?_))
      refine wpc_loop (X := {i : Nat // i ≤ s.length}) (fun x => St.mk [(10, .int .i64 (x.1 : Int)), (6, .bool (decide (0 < spN (s.take x.1)))), (5, .int .i64 ((s.length + spN (s.take x.1) : Nat) : Int)), (4, .string ⟨#[]⟩), (0, .pointer (some ⟨g2, 0, none⟩)), (1, .string (mkS s))]
        [ro (some { block := g2, off := 0 }) (rc (repR 0 p) (Value.slice ta 3 tc)), ro ta (toRep 0), bag (repRows 0 p)]) (fun x => s.length - x.1) ⟨0, Nat.zero_le _⟩ (ent_fr (by kernel_rfl)) ?_
      rintro ⟨i, hi⟩
      dsimp only at hi ⊢
      have hsl : spN (s.take i) ≤ 255 := by
        have h1 : spN (s.take i) ≤ (s.take i).length := List.countP_le_length
        rw [List.length_take] at h1; omega
      by_cases hlt : i < s.length
      · have hstep : spN (s.take (i + 1)) = spN (s.take i) + if spB s[i] then 1 else 0 := by
          unfold spN
          rw [← List.take_append_getElem hlt, List.countP_append, List.countP_singleton]
        have hbt : bt (mkS s) (i : Int) = (s[i].toNat : Int) := bt_at hlt
        have hc256 := (s[i]).toNat_lt
        refine SQ (SQ (RG ?_))
        refine RR [] .z (.i 58 (.bool (decide ((↑i : Int) < (↑s.length : Int)))) .a) .a ?_
        refine RZ (NT ?_)
        refine SC 58 (decide ((↑i : Int) < (↑s.length : Int))) true (decide_eq_true (by omega)) ?_
        refine CT (SK (NT (SQ (BK (SQ (RG ?_))))))
        refine RV true [] .z (.i 11 (.int .u8 (bt (mkS s) (↑i : Int))) (.d (.d (.k .a)))) .a [(0 : Int) ≤ (↑i : Int) ∧ (↑i : Int) < (↑s.length : Int)] ⟨by first | omega | decide | (simp; done), trivial⟩ ?_
        refine RZ (NT (SQ (RG ?_)))
        refine RV true [] (.d (.d (.d (.d (.d .a))))) (.i 68 (.pointer (some ⟨g2, 0 + (bt (mkS s) (↑i : Int)).toNat * 1, none⟩)) .a) .a [(0 : Int) ≤ bt (mkS s) (↑i : Int) ∧ bt (mkS s) (↑i : Int) < (↑(256 : Nat) : Int)] ⟨by first | omega | decide | (simp; done), trivial⟩ ?_
        rw [hbt, Int.toNat_natCast]
        cases hsp : spB s[i] with
        | false =>
          rw [hsp] at hstep
          refine wpr_eq (ld (t := 77) (a := (⟨g2, 0 + s[i].toNat * 1, none⟩)) (dst := some 69) (by kernel_rfl) false 1 (by kernel_rfl) (by simp) [.slice none 0 0] rfl (fun w h => ld_ro h 0 rfl (s[i].toNat * 1) ((hat _ _ _ hc256).trans (by rw [repR_sp p _ hsp])))) ?_
          refine RR [] .z (.i 70 (.bool false) (.d (.d (.k .a)))) .a ?_
          refine RZ (NT (CF (SK (BN (NT (RG ?_))))))
          refine RV true [] .z (.i 10 (.int .i64 ((↑i : Int) + 1)) (.d (.d (.d (.k .a))))) .a ([inI64 ((↑i : Int) + (1 : Int))]) ⟨by unfold inI64; omega, trivial⟩ ?_
          refine RZ ?_
          refine nx_ent (ent_set 5 (.int .i64 (↑(s.length + spN (List.take i s)) : Int)) (Value.int .i64 ((s.length + spN (s.take (i + 1)) : Nat) : Int)) (by kernel_rfl) (by rw [hstep]; first | done | rfl)) ?_
          refine nx_ent (ent_set 6 (.bool (decide (0 < spN (List.take i s)))) (.bool (decide (0 < spN (s.take (i + 1))))) (by kernel_rfl) (by rw [hstep]; first | done | rfl)) ?_
          exact fun a' w' hS' => ⟨⟨i + 1, hlt⟩, by dsimp only; omega, ent_fr (by kernel_rfl) _ _ (ent_hp [0, 0, 0] rfl _ _ hS')⟩
        | true =>
          rw [hsp] at hstep
          obtain ⟨j, hj, hR, hnew⟩ := repR_is p s[i] hsp
          refine wpr_eq (ld (t := 77) (a := (⟨g2, 0 + s[i].toNat * 1, none⟩)) (dst := some 69) (by kernel_rfl) false 1 (by kernel_rfl) (by simp) [sl2 (p j)] rfl (fun w h => ld_ro h 0 rfl (s[i].toNat * 1) ((hat _ _ _ hc256).trans (by rw [hR])))) ?_
          refine RR [] .z (.i 70 (.bool true) (.d (.d (.k .a)))) .a ?_
          refine RZ (NT (CT (SQ (RG ?_))))
          refine RV true [] (.d (.d (.d (.d (.d (.d .a)))))) (.i 76 (.pointer (some ⟨g2, 0 + s[i].toNat * 1, none⟩)) (.i 71 (.int .i64 (↑(s.length + spN (List.take i s)) : Int)) (.d (.d (.k .a))))) .a [(0 : Int) ≤ (↑s[i].toNat : Int) ∧ (↑s[i].toNat : Int) < (↑(256 : Nat) : Int)] ⟨by first | omega | decide | (simp; done), trivial⟩ ?_
          refine wpr_eq (ld (t := 77) (a := (⟨g2, 0 + s[i].toNat * 1, none⟩)) (dst := some 77) (by kernel_rfl) false 1 (by kernel_rfl) (by simp) [sl2 (p j)] rfl (fun w h => ld_ro h 0 rfl (s[i].toNat * 1) ((hat _ _ _ hc256).trans (by rw [hR])))) ?_
          refine RV true [] .z (.i 5 (.int .i64 ((↑(s.length + spN (List.take i s)) : Int) + 1)) (.d (.d (.d (.k (.k (.d (.k .a)))))))) .a ([inI64 ((2 : Int) - (1 : Int)), inI64 ((↑(s.length + spN (List.take i s)) : Int) + (1 : Int))]) ⟨by unfold inI64; omega, by unfold inI64; omega, trivial⟩ ?_
          refine RZ (NT (RG ?_))
          refine RR [] .z (.i 6 (.bool true) (.k (.k (.d (.k .a))))) .a ?_
          refine RZ (BN (NT (RG ?_)))
          refine RV true [] .z (.i 10 (.int .i64 ((↑i : Int) + 1)) (.k (.k (.d (.k .a))))) .a ([inI64 ((↑i : Int) + (1 : Int))]) ⟨by unfold inI64; omega, trivial⟩ ?_
          refine RZ ?_
          refine nx_ent (ent_set 5 (.int .i64 ((↑(s.length + spN (List.take i s)) : Int) + 1)) (Value.int .i64 ((s.length + spN (s.take (i + 1)) : Nat) : Int)) (by kernel_rfl) (by rw [hstep, if_pos rfl]; first | rfl | (congr 1; omega))) ?_
          refine nx_ent (ent_set 6 (.bool true) (.bool (decide (0 < spN (s.take (i + 1))))) (by kernel_rfl) (by rw [hstep, if_pos rfl, decide_eq_true (by omega)])) ?_
          exact fun a' w' hS' => ⟨⟨i + 1, hlt⟩, by dsimp only; omega, ent_fr (by kernel_rfl) _ _ (ent_hp [0, 0, 0] rfl _ _ hS')⟩
      · obtain rfl : i = s.length := by omega
        rw [List.take_length]
        refine SQ (SQ (RG ?_))
        refine RR [] .z (.i 58 (.bool (decide ((↑s.length : Int) < (↑s.length : Int)))) .a) .a ?_
        refine RZ (NT ?_)
        refine SC 58 (decide ((↑s.length : Int) < (↑s.length : Int))) false (by simp) ?_
        refine CF (EX (TE (TE (BH ?_))))
        exact nx_ent (ent_fr (by kernel_rfl)) hk
  have hsl : spN s ≤ s.length := List.countP_le_length
  refine NT (SQ (SQ (RG ?_)))
  refine RR [] .z (.i 82 (.bool !decide (0 < spN s)) (.k (.d (.k .a)))) .a ?_
  refine RZ (NT ?_)
  by_cases h0 : spN s = 0
  · refine SC 82 (!decide (0 < spN s)) true (by simp [h0]) ?_
    refine CT (SQ (RG ?_))
    refine RR [] .z (.i 4 (.string (mkS s)) (.d (.d (.k (.d (.k .a)))))) .a ?_
    refine RZ (NT (RE (TR ?_)))
    refine NE [] .z .a [] (.string (mkS s)) ?_
    exact ⟨by rw [escL_same h0], rfl⟩
  · refine SC 82 (!decide (0 < spN s)) false (by simp; omega) ?_
    refine CF (SK (NT (SQ (RG ?_))))
    refine RR [] (.d .a) (.i 84 (.int .i64 (↑(s.length + spN s) : Int)) (.d (.d (.d (.k .a))))) .a ?_
    refine wpr_make (m := s.length + spN s) (t := 77) (dst := some 85) (by kernel_rfl) (e := 5) (sz := 1) (bytes := 1) (by kernel_rfl) (by omega) (by omega) ?_
    intro gb zs hzs
    refine RR [] .z (.i 12 (.slice (some ⟨gb, 0, none⟩) (s.length + spN s) (s.length + spN s)) (.d (.d (.k .a)))) .a ?_
    refine RZ (NT (SQ (RG ?_)))
    refine RR [] .z (.i 13 (.int .i64 0) .a) .a ?_
    refine RZ (NT (SQ (SQ (RG ?_))))
    refine RR [] .z (.i 14 (.int .i64 0) .a) .a ?_
    refine RZ (NT (BK ?_))
    obtain ⟨N, hN⟩ : ∃ N, N = s.length + spN s := ⟨_, rfl⟩
    have hNl : (escL s).length = N := by rw [escL_len, hN]
    rw [← hN] at hzs ⊢
    have hEs : ∀ i, (hi : i < s.length) → escL (s.take (i + 1)) = escL (s.take i) ++ escB s[i] := fun i hi => by
      unfold escL; rw [← List.take_append_getElem hi, List.flatMap_append]; simp
    have hEl : ∀ i, (escL (s.take i)).length ≤ N := fun i => by
      have h : escL s = escL (s.take i) ++ escL (s.drop i) := by unfold escL; rw [← List.flatMap_append, List.take_append_drop]
      rw [← hNl, h, List.length_append]; omega
    refine wpc_loop (X := {x : Nat × List Value // x.1 ≤ s.length ∧ x.2.length + (escL (s.take x.1)).length = N}) (fun x => St.mk [(14, .int .i64 (x.1.1 : Int)), (13, .int .i64 ((escL (s.take x.1.1)).length : Int)), (12, .slice (some ⟨gb, 0, none⟩) N N), (4, .string ⟨#[]⟩), (0, .pointer (some ⟨g2, 0, none⟩)), (1, .string (mkS s))]
      [ro (some { block := g2, off := 0 }) (rc (repR 0 p) (Value.slice ta 3 tc)), bag (repRows 0 p), row 5 1 (some { block := gb, off := 0 }) N N (u8s (escL (s.take x.1.1)) ++ x.1.2)]) (fun x => s.length - x.1.1) ⟨(0, zs), Nat.zero_le _, by simp [escL]; omega⟩ (Ent.trans (ent_hp [0, 1, 1] rfl) (ent_fr (by kernel_rfl))) ?_
    rintro ⟨⟨i, ys⟩, hi, hys⟩
    dsimp only at hi hys ⊢
    by_cases hlt : i < s.length
    · have hbt : bt (mkS s) (i : Int) = (s[i].toNat : Int) := bt_at hlt
      have hc256 := (s[i]).toNat_lt
      have hE1 := hEs i hlt
      have hE2 := hEl (i + 1)
      have hB := escB_len s[i]
      rw [hE1, List.length_append, hB] at hE2
      obtain ⟨E, hE⟩ : ∃ E, E = escL (s.take i) := ⟨_, rfl⟩
      rw [← hE] at hys hE1 hE2 ⊢
      refine SQ (SQ (RG ?_))
      refine RR [] .z (.i 89 (.bool (decide ((↑i : Int) < (↑s.length : Int)))) .a) .a ?_
      refine RZ (NT ?_)
      refine SC 89 (decide ((↑i : Int) < (↑s.length : Int))) true (decide_eq_true (by omega)) ?_
      refine CT (SK (NT (SQ (BK (SQ (RG ?_))))))
      refine RV true [] .z (.i 15 (.int .u8 (bt (mkS s) (↑i : Int))) (.d (.d (.k .a)))) .a [(0 : Int) ≤ (↑i : Int) ∧ (↑i : Int) < (↑s.length : Int)] ⟨by first | omega | decide | (simp; done), trivial⟩ ?_
      refine RZ (NT (SQ (RG ?_)))
      refine RV true [] (.d (.d (.d (.d (.d .a))))) (.i 99 (.pointer (some ⟨g2, 0 + (bt (mkS s) (↑i : Int)).toNat * 1, none⟩)) .a) .a [(0 : Int) ≤ bt (mkS s) (↑i : Int) ∧ bt (mkS s) (↑i : Int) < (↑(256 : Nat) : Int)] ⟨by first | omega | decide | (simp; done), trivial⟩ ?_
      rw [hbt, Int.toNat_natCast]
      cases hsp : spB s[i] with
      | false =>
        rw [hsp] at hE2 hB
        simp only [Bool.false_eq_true, if_false] at hE2 hB
        have hBe : escB s[i] = [s[i]] := by
          unfold spB at hsp
          simp only [Bool.or_eq_false_iff, beq_eq_false_iff_ne, ne_eq] at hsp
          simp [escB, hsp.1.1, hsp.1.2, hsp.2]
        refine wpr_eq (ld (t := 77) (a := (⟨g2, 0 + s[i].toNat * 1, none⟩)) (dst := some 100) (by kernel_rfl) false 1 (by kernel_rfl) (by simp) [.slice none 0 0] rfl (fun w h => ld_ro h 0 rfl (s[i].toNat * 1) ((hat _ _ _ hc256).trans (by rw [repR_sp p _ hsp])))) ?_
        refine RR [] .z (.i 101 (.bool false) (.d (.d (.k .a)))) .a ?_
        refine RZ (NT (CF (SQ (RG ?_))))
        refine RV true [] (.d (.d (.d (.d .a)))) (.i 117 (.pointer (some ⟨gb, 0 + E.length * 1, none⟩)) (.i 116 (.int .u8 (↑s[i].toNat : Int)) (.d (.d (.k .a))))) .a [(0 : Int) ≤ (↑E.length : Int) ∧ (↑E.length : Int) < (↑N : Int)] ⟨by first | omega | decide | (simp; done), trivial⟩ ?_
        have hE3 : (escL (s.take (i + 1))).length = E.length + 1 := by rw [hE1, List.length_append, hB]
        refine wpr_eq (stq' (t := 5) (g := gb) (off := 0) (q := (E.length * 1)) (v := (.int .u8 (↑s[i].toNat : Int))) (dst := none) (by kernel_rfl) 2 (T := 5) (sz := 1) (n := N) (cap := N) (xs := (u8s E ++ ys)) (by kernel_rfl) [.int .u8 (s[i].toNat : Int)] (by kernel_rfl) (by kernel_rfl) (by simp [Go.Sx.One, Value.oneCell']) (by rw [List.length_append, u8s_len]; simp; omega) (xs' := (u8s (escL (s.take (i + 1))) ++ ys.drop 1)) (by
                  rw [hE1, hBe, Nat.mul_one]
                  rw [List.take_left' (u8s_len E), ← List.drop_drop, List.drop_left' (u8s_len E)]
                  simp [u8s])) ?_
        refine RZ (NT (RG ?_))
        refine RV true [] .z (.i 13 (.int .i64 ((↑E.length : Int) + 1)) (.d (.d (.k (.d (.k .a)))))) .a ([inI64 ((↑E.length : Int) + (1 : Int))]) ⟨by unfold inI64; omega, trivial⟩ ?_
        refine RZ (BN (NT (RG ?_)))
        refine RV true [] .z (.i 14 (.int .i64 ((↑i : Int) + 1)) (.k (.d (.k .a)))) .a ([inI64 ((↑i : Int) + (1 : Int))]) ⟨by unfold inI64; omega, trivial⟩ ?_
        refine RZ ?_
        refine nx_ent (ent_set 13 (.int .i64 ((↑E.length : Int) + 1)) (Value.int .i64 ((escL (s.take (i + 1))).length : Int)) (by kernel_rfl) (by rw [hE3]; rfl)) ?_
        exact fun a' w' hS' => ⟨⟨(i + 1, ys.drop 1), hlt, by rw [List.length_drop, hE3]; omega⟩, by dsimp only; omega, ent_fr (by kernel_rfl) _ _ (ent_hp [0, 0, 0] rfl _ _ hS')⟩
      | true =>
        rw [hsp, if_pos rfl] at hE2 hB
        obtain ⟨j, hj, hR, hnew⟩ := repR_is p s[i] hsp
        have hmem : repRow p j ∈ repRows 0 p := by
          rcases (by omega : j = 0 ∨ j = 1 ∨ j = 2) with rfl | rfl | rfl <;> simp [repRows]
        refine wpr_eq (ld (t := 77) (a := (⟨g2, 0 + s[i].toNat * 1, none⟩)) (dst := some 100) (by kernel_rfl) false 1 (by kernel_rfl) (by simp) [sl2 (p j)] rfl (fun w h => ld_ro h 0 rfl (s[i].toNat * 1) ((hat _ _ _ hc256).trans (by rw [hR])))) ?_
        refine RR [] .z (.i 101 (.bool true) (.d (.d (.k .a)))) .a ?_
        refine RZ (NT (CT ?_))
        refine wpc_ent (ent_copy 1 (ro (some ⟨(p j).1, 0, none⟩) (u8s (newL j))) rfl (fun h => h) (view_in hmem view_row)) ?_
        refine wpc_draw (by kernel_rfl) [ro (some ⟨(p j).fst, 0, none⟩) (u8s (newL j)), ro (some ⟨g2, 0, none⟩) (rc (repR 0 p) (.slice ta 3 tc))] (sub_of [0, 1] (by kernel_rfl)) 13 (by kernel_rfl) ?_
        refine wpa_take true [(0, []), (1, []), (2, []), (3, []), (4, []), (5, []), (6, []), (7, []), (8, [])] ([(110, .pointer (some ⟨g2, 0 + s[i].toNat * 1, none⟩)), (105, .slice (some ⟨gb, sOff 0 (↑E.length : Int) (↑N : Int) 1, none⟩) ((↑N : Int) - (↑E.length : Int)).toNat ((↑N : Int) - (↑E.length : Int)).toNat), (102, .int .i64 (↑E.length : Int)), (14, .int .i64 (↑i : Int)), (13, .int .i64 (↑E.length : Int)), (12, .slice (some ⟨gb, 0, none⟩) N N), (4, .string ⟨#[]⟩), (0, .pointer (some ⟨g2, 0, none⟩)), (1, .string (mkS s))]) (#[true, true, true, true, true, true, true, true, true, false, false, false, false]) [(0 : Int) ≤ (↑E.length : Int) ∧ (↑E.length : Int) ≤ (↑N : Int), (0 : Int) ≤ (↑s[i].toNat : Int) ∧ (↑s[i].toNat : Int) < (↑(256 : Nat) : Int)] (n := 4) (by kernel_rfl) (by kernel_rfl) (by kernel_rfl) ⟨by first | omega | decide | (simp; done), by first | omega | decide | (simp; done), trivial⟩ ?_
        refine wpa_qld (i := 9) (n := 3) (by kernel_rfl) (by kernel_rfl) (by kernel_rfl) (t := 77) (a := (⟨g2, 0 + s[i].toNat * 1, none⟩)) (dst := some 111) (by kernel_rfl) false 1 (by kernel_rfl) (by simp) [sl2 (p j)] rfl (fun w h => ld_roL h 1 rfl (s[i].toNat * 1) ((hat _ _ _ hc256).trans (by rw [hR]))) ?_
        have hnl : (newL j).length = 2 := by rw [hnew]; exact hB
        refine wpa_ent (ent_set 105 (.slice (some ⟨gb, sOff 0 (↑E.length : Int) (↑N : Int) 1, none⟩) ((↑N : Int) - (↑E.length : Int)).toNat ((↑N : Int) - (↑E.length : Int)).toNat) (.slice (some ⟨gb, 0 + E.length, none⟩) (N - E.length) (N - E.length)) (by kernel_rfl) (by
                  unfold sOff
                  rw [if_neg (by omega)]
                  congr 1 <;> (try omega)
                  simp)) ?_
        refine wpa_eq (i := 10) (n := 2) (by kernel_rfl) (step_copy (g := gb) (off := 0) (q := E.length) (dl := N - E.length) (dc := N - E.length) (x := .slice (some ⟨(p j).1, 0, none⟩) 2 (p j).2) (t := 77) (dst := some 112) (by kernel_rfl) (e := 5) (sz := 1) (by kernel_rfl) 3 (T := 5) (n := N) (cap := N) (xs := u8s E ++ ys) (by kernel_rfl) (m := 2) (news := u8s (newL j)) (fun w h => src_ro h 0 rfl (by rw [u8s_len, hnl]) (fun e => by cases e)) (by omega) (by rw [List.length_append, u8s_len]; omega) (xs' := u8s (E ++ escB s[i]) ++ ys.drop 2) (by
          rw [u8s_len, hnl, ← hnew]
          rw [List.take_left' (u8s_len E), ← List.drop_drop, List.drop_left' (u8s_len E)]
          simp [u8s])) (sub_of [0, 1] (by kernel_rfl)) ?_
        refine wpa_take true [(11, []), (12, [])] ([(13, .int .i64 ((↑E.length : Int) + 2)), (14, .int .i64 (↑i : Int)), (12, .slice (some ⟨gb, 0, none⟩) N N), (4, .string ⟨#[]⟩), (0, .pointer (some ⟨g2, 0, none⟩)), (1, .string (mkS s))]) (#[true, true, true, true, true, true, true, true, true, true, true, true, true]) ([inI64 ((↑E.length : Int) + (2 : Int))]) (n := 0) (by kernel_rfl) (by kernel_rfl) (by kernel_rfl) ⟨by unfold inI64; omega, trivial⟩ ?_
        refine wpa_done 0 (by kernel_rfl) ?_
        refine BN (NT (RG ?_))
        refine RV true [] .z (.i 14 (.int .i64 ((↑i : Int) + 1)) (.k (.d (.k .a)))) .a ([inI64 ((↑i : Int) + (1 : Int))]) ⟨by unfold inI64; omega, trivial⟩ ?_
        refine RZ ?_
        rw [← hE1]
        have hE3 : (escL (s.take (i + 1))).length = E.length + 2 := by rw [hE1, List.length_append, hB]
        refine nx_ent (ent_set 13 (.int .i64 ((↑E.length : Int) + 2)) (Value.int .i64 ((escL (s.take (i + 1))).length : Int)) (by kernel_rfl) (by rw [hE3]; rfl)) ?_
        exact fun a' w' hS' => ⟨⟨(i + 1, ys.drop 2), hlt, by rw [List.length_drop, hE3]; omega⟩, by dsimp only; omega, ent_fr (by kernel_rfl) _ _ (ent_hp [1, 1, 1] rfl _ _ hS')⟩
    · obtain rfl : i = s.length := by omega
      rw [List.take_length] at hys ⊢
      obtain rfl : ys = [] := List.eq_nil_of_length_eq_zero (by omega)
      rw [List.append_nil]
      refine SQ (SQ (RG ?_))
      refine RR [] .z (.i 89 (.bool (decide ((↑s.length : Int) < (↑s.length : Int)))) .a) .a ?_
      refine RZ (NT ?_)
      refine SC 89 (decide ((↑s.length : Int) < (↑s.length : Int))) false (by simp) ?_
      refine CF (EX (TE (TE (BH (NT (SQ (RG ?_)))))))
      refine RR [] (.d .a) (.i 120 (.slice (some ⟨gb, 0, none⟩) N N) (.d (.d (.d (.d (.d (.k .z))))))) .a ?_
      refine wpr_ent (ent_set 120 (.slice (some ⟨gb, 0, none⟩) N N) (.slice (some ⟨gb, 0, none⟩) (escL s).length N) (by kernel_rfl) (by rw [hNl])) ?_
      refine wpr_eq (b2s (a := 77) (b := 9) (ad := (some ⟨gb, 0, none⟩)) (n := ((escL s).length)) (c := N) (dst := some 121) (by kernel_rfl) (by kernel_rfl) (escL s) (by first | rfl | simp) (fun w h => b2s_row h 2 rfl)) ?_
      refine RR [] .z (.i 4 (.string (mkS (escL s))) .z) .a ?_
      refine RZ (NT (RE ?_))
      refine NE [] .z .a [] (.string (mkS (escL s))) ?_
      exact ⟨rfl, rfl⟩
end Go.Proofs.YtpfhleghgkeemaaGreatDoor
