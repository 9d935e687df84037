import Derived.Test.YtpfhleghgkeemaaGreatDoorH2
import Derived.Test.YtpfhleghgkeemaaGreatDoorY2
namespace Go.Proofs.YtpfhleghgkeemaaGreatDoor
open Go Go.Sx
set_option linter.unusedVariables false
set_option linter.unusedSimpArgs false

theorem rWords_spec : Does Tryz.prog 142 [] [] (fun v hp' => ∃ g, v = .slice (some ⟨g, 0, none⟩) 10 10 ∧ hp' = [.blk g 9 (wordsL.map strV)]) := by
  refine fn_enter Tryz.func142 rfl 2 rfl fun w0 h0 => ?_
  refine SQ (RG ?_)
  refine RR [] .z (.i 0 (.slice none 0 0) .a) .a ?_
  refine RZ (NT (SQ (RG ?_)))
  refine RN [] (.d .a) 1 (fun g1 => (.slice (some ⟨g1, 0, none⟩) 10 10)) .a .a 9 [.string { data := #[102, 110] }, .string { data := #[114, 101, 99, 111, 114, 100] }, .string { data := #[108, 101, 116] }, .string { data := #[105, 102] }, .string { data := #[101, 108, 115, 101] }, .string { data := #[119, 104, 105, 108, 101] }, .string { data := #[114, 101, 116, 117, 114, 110] }, .string { data := #[110, 101, 119] }, .string { data := #[116, 114, 117, 101] }, .string { data := #[102, 97, 108, 115, 101] }] fun g1 => ?_
  refine RR [] .z (.i 0 (.slice (some ⟨g1, 0, none⟩) 10 10) .z) (.i (.blk g1 9 [.string { data := #[102, 110] }, .string { data := #[114, 101, 99, 111, 114, 100] }, .string { data := #[108, 101, 116] }, .string { data := #[105, 102] }, .string { data := #[101, 108, 115, 101] }, .string { data := #[119, 104, 105, 108, 101] }, .string { data := #[114, 101, 116, 117, 114, 110] }, .string { data := #[110, 101, 119] }, .string { data := #[116, 114, 117, 101] }, .string { data := #[102, 97, 108, 115, 101] }]) .z) ?_
  refine RZ (NT (RE ?_))
  refine NE [0] (.i (.blk g1 9 [.string { data := #[102, 110] }, .string { data := #[114, 101, 99, 111, 114, 100] }, .string { data := #[108, 101, 116] }, .string { data := #[105, 102] }, .string { data := #[101, 108, 115, 101] }, .string { data := #[119, 104, 105, 108, 101] }, .string { data := #[114, 101, 116, 117, 114, 110] }, .string { data := #[110, 101, 119] }, .string { data := #[116, 114, 117, 101] }, .string { data := #[102, 97, 108, 115, 101] }]) .z) .z [] (.slice (some ⟨g1, 0, none⟩) 10 10) ?_
  exact ⟨g1, rfl, rfl⟩
theorem rin_spec (a : Option Addr) (c : Nat) (l : List (List UInt8)) (s : List UInt8) (hl : l.length ≤ 1048576) : Does Tryz.prog 141 [.slice a l.length c, .string (mkS s)] [ro a (l.map strV)] (fun v hp' => v = .bool (l.contains s) ∧ hp' = []) := by
  refine fn_enter Tryz.func141 rfl 18 rfl fun w0 h0 => ?_
  refine SQ (RG ?_)
  refine RR [] .z (.i 4 (.bool false) .a) .a ?_
  refine RZ (NT (SQ (SQ (RG ?_))))
  refine RR [] .z (.i 5 (.int .i64 0) .a) .a ?_
  refine RZ (NT (BK ?_))
  refine wpc_loop (X := {i : Nat // i ≤ l.length ∧ ∀ j, j < i → l[j]? ≠ some s}) (fun x => St.mk [(5, .int .i64 (x.1 : Int)), (4, .bool false), (0, .slice a l.length c), (1, .string (mkS s))] [ro a (l.map strV)]) (fun x => l.length - x.1) ⟨0, by omega, fun j h => absurd h (Nat.not_lt_zero _)⟩ (ent_fr (by kernel_rfl)) ?_
  rintro ⟨i, hi, hall⟩
  dsimp only at hi hall ⊢
  refine SQ (SQ (RG ?_))
  refine RR [] .z (.i 9 (.bool (decide ((↑i : Int) < (↑l.length : Int)))) .a) .a ?_
  refine RZ (NT ?_)
  refine wpc_if (((↑i : Int) < (↑l.length : Int))) (by kernel_rfl) (fun hlt => ?_) (fun hlt => ?_)
  · have hil : i < l.length := by omega
    refine wpc_fact (fun w h => ro_addr h 0 rfl (by rw [List.length_map]; omega)) ?_
    rintro ⟨g0, o0, rfl⟩
    refine SK (NT (SQ (BK (SQ (RG ?_)))))
    refine RV true [] (.d (.d (.d .a))) (.i 14 (.pointer (some ⟨g0, o0 + i * 1, none⟩)) (.d (.k .a))) .a [(0 : Int) ≤ (↑i : Int) ∧ (↑i : Int) < (↑l.length : Int)] ⟨by first | omega | decide | (simp; done), trivial⟩ ?_
    refine wpr_eq (ld (t := 9) (a := (⟨g0, o0 + i * 1, none⟩)) (dst := some 15) (by kernel_rfl) false 1 (by kernel_rfl) (by simp) [.string (mkS l[i])] rfl (fun w h => ld_ro h 0 rfl (i * 1) (map_at strV hil))) ?_
    refine RR [] .z (.i 17 (.bool (decide (l[i] = s))) (.d (.d (.k .a)))) .a ?_
    refine RZ (NT ?_)
    refine wpc_if ((l[i] = s)) (by kernel_rfl) (fun heq => ?_) (fun heq => ?_)
    · refine SQ (RG ?_)
      refine RR [] .z (.i 4 (.bool true) (.d (.k (.d (.k .a))))) .a ?_
      refine RZ (NT (RE (BR (TR (TR (BR (TR ?_)))))))
      refine NE [] .z .a [] (.bool true) ?_
      refine ⟨?_, rfl⟩
      have he : l[i] = s := heq
      have h2 : l.contains s = true := List.contains_iff_mem.2 (he ▸ List.getElem_mem hil)
      rw [h2]
    · refine SK (BN (NT (RG ?_)))
      refine RV true [] .z (.i 5 (.int .i64 ((↑i : Int) + 1)) (.d (.d (.k .a)))) .a ([inI64 ((↑i : Int) + (1 : Int))]) ⟨by unfold inI64; omega, trivial⟩ ?_
      refine RZ ?_
      exact fun a' w' hS' => ⟨⟨i + 1, by omega, fun j hj => by
              rcases Nat.lt_or_ge j i with h | h
              · exact hall j h
              · obtain rfl : j = i := by omega
                rw [List.getElem?_eq_getElem hil]
                intro h2
                exact heq (Option.some.inj h2)⟩, by dsimp only; omega, ent_fr (by kernel_rfl) _ _ (ent_hp [0] rfl _ _ hS')⟩
  · refine EX (TE (TE (BH (NT (SQ (RG ?_))))))
    refine RR [] .z (.d (.d (.k .z))) .a ?_
    refine RZ (NT (RE ?_))
    refine NE [] .z .a [] (.bool false) ?_
    refine ⟨?_, rfl⟩
    have h2 : l.contains s = false := by
      cases hw : l.contains s with
      | false => rfl
      | true =>
        obtain ⟨j, hj⟩ := List.getElem?_of_mem (List.contains_iff_mem.1 hw)
        obtain ⟨hj1, _⟩ := List.getElem?_eq_some_iff.1 hj
        exact absurd hj (hall j (by omega))
    rw [h2]
theorem rWord_spec (s : List UInt8) : Does Tryz.prog 101 [.string (mkS s)] [] (fun v hp' => v = .bool (isWord s) ∧ hp' = []) := by
  refine fn_enter Tryz.func101 rfl 6 rfl fun w0 h0 => ?_
  refine SQ (RG ?_)
  refine RR [] .z (.i 2 (.bool false) .a) .a ?_
  refine RZ (NT (SQ (RG ?_)))
  refine RCA (dst := some 3) (rWords_spec) ?_
  rintro v _ ⟨g, rfl, rfl⟩
  refine wpr_ent (ent_turn 0 (ro (some ⟨g, 0, none⟩) (wordsL.map strV)) rfl (turn_rblk (by intro u hu; obtain ⟨x, _, rfl⟩ := List.mem_map.1 hu; rfl)) rfl) ?_
  refine RR [] (.d .a) (.i 4 (.string (mkS s)) (.k (.k .z))) .a ?_
  refine RCG (dst := some 5) .a (rin_spec (some ⟨g, 0, none⟩) 10 wordsL s (by decide)) (GV (GI []) 0 view_ro) ?_
  rintro v _ ⟨rfl, rfl⟩
  refine RR [] .z (.i 2 (.bool (wordsL.contains s)) .z) .a ?_
  refine RZ (NT (RE ?_))
  refine NE [] .z .a [] (.bool (wordsL.contains s)) ?_
  exact ⟨rfl, rfl⟩
/-- Of bytes: a letter or a digit. -/
def ldB (c : UInt8) : Bool := letB c || digB c
theorem name1_spec (c : UInt8) : Does Tryz.prog 134 [.int .u8 c.toNat] [] (fun v hp' => v = .bool (ldB c) ∧ hp' = []) := by
  unfold ldB
  refine fn_enter Tryz.func134 rfl 9 rfl fun w0 h0 => ?_
  refine SQ (RG ?_)
  refine RR [] .z (.i 2 (.bool false) .a) .a ?_
  refine RZ (NT (SQ (RG ?_)))
  refine RR [] (.d .a) (.i 3 (.int .u8 (↑c.toNat : Int)) .a) .a ?_
  refine RCA (dst := some 4) (letter_spec c) ?_
  rintro v _ ⟨rfl, rfl⟩
  cases hl : letB c with
  | true =>
    refine RR [] .z (.i 2 (.bool true) .z) .a ?_
    refine RZ (NT (RE ?_))
    refine NE [] .a .a [] (.bool true) ?_
    exact ⟨rfl, rfl⟩
  | false =>
    refine RR [] (.d (.d .a)) (.i 6 (.int .u8 (↑c.toNat : Int)) (.i 5 (.bool false) (.d (.d (.k .z))))) .a ?_
    refine RCA (dst := some 7) (digit_spec c) ?_
    rintro v _ ⟨rfl, rfl⟩
    refine RR [] .z (.i 2 (.bool (digB c)) .z) .a ?_
    refine RZ (NT (RE ?_))
    refine NE [] .a .a [] (.bool (digB c)) ?_
    exact ⟨by simp, rfl⟩
theorem bt_at {s : List UInt8} {i : Nat} (h : i < s.length) : bt (mkS s) (i : Int) = (s[i].toNat : Int) := by
  simp [bt, mkS, List.getD, h]
theorem takeWhile_end {p : UInt8 → Bool} {s : List UInt8} {n : Nat} (hn : n ≤ s.length) (h1 : ∀ j, (hj : j < n) → p (s[j]'(by omega)) = true) (h2 : (h : n < s.length) → p s[n] = false) : (s.takeWhile p).length = n := by
  induction s generalizing n with
  | nil => simp at hn; subst hn; rfl
  | cons c s ih =>
    cases n with
    | zero =>
      have := h2 (by simp)
      simp only [List.getElem_cons_zero] at this
      simp [List.takeWhile, this]
    | succ n =>
      have h0 := h1 0 (by omega)
      simp only [List.getElem_cons_zero] at h0
      have h3 := ih (n := n) (by simpa using hn) (fun j hj => by have := h1 (j + 1) (by omega); simpa using this) (fun h => by have := h2 (by simpa using h); simpa using this)
      simp [List.takeWhile, h0, h3]
theorem row_spec (s : List UInt8) (hl : s.length ≤ 1048576) : Does Tryz.prog 133 [.string (mkS s), .func (.func 134) #[] #[]] [] (fun v hp' => v = .int .i64 ((s.takeWhile ldB).length : Int) ∧ hp' = []) := by
  refine fn_enter Tryz.func133 rfl 20 rfl fun w0 h0 => ?_
  refine SQ (RG ?_)
  refine RR [] .z (.i 4 (.int .i64 0) .a) .a ?_
  refine RZ (NT (SQ (RG ?_)))
  refine RR [] .z (.i 5 (.int .i64 0) .a) .a ?_
  refine RZ (NT (SQ (BK ?_)))
  refine wpc_loop (X := {n : Nat // ∃ h : n ≤ s.length, ∀ j, (hj : j < n) → ldB (s[j]'(by omega)) = true}) (fun x => St.mk [(5, .int .i64 (x.1 : Int)), (0, .string (mkS s)), (1, .func (.func 134) #[] #[])] []) (fun x => s.length - x.1) ⟨0, Nat.zero_le _, fun j h => absurd h (Nat.not_lt_zero _)⟩ (ent_fr (by kernel_rfl)) ?_
  rintro ⟨n, hn, hall⟩
  dsimp only at hn hall ⊢
  by_cases hlt : n < s.length
  · refine SQ (SQ (RG ?_))
    refine RR [] (.d (.d (.d (.d (.d .a))))) (.i 10 (.bool (decide ((↑n : Int) < (↑s.length : Int)))) .a) .a ?_
    refine SR 10 (decide ((↑n : Int) < (↑s.length : Int))) true (decide_eq_true (by omega)) ?_
    refine RV true [] (.d (.d (.d (.d .a)))) (.i 14 (.int .u8 (bt (mkS s) (↑n : Int))) (.i 11 (Value.func (Fn.func 134) #[] #[]) (.k (.d (.k .a))))) .a [(0 : Int) ≤ (↑n : Int) ∧ (↑n : Int) < (↑s.length : Int)] ⟨by first | omega | decide | (simp; done), trivial⟩ ?_
    rw [bt_at hlt]
    refine wpr_callv_all (dst := some 15) (first := (#[])) (caps := (#[])) (args := [.int .u8 (↑s[n].toNat : Int)]) (f := 134) (by kernel_rfl) (by kernel_rfl) (name1_spec s[n]) give_all ?_
    rintro v _ ⟨rfl, rfl⟩
    cases hp : ldB s[n] with
    | true =>
      refine RR [] .z (.i 16 (.bool true) (.d (.d (.d (.d (.k .a)))))) .a ?_
      refine RZ (NT (CT (SK (NT (BK (RG ?_))))))
      refine RV true [] .z (.i 5 (.int .i64 ((↑n : Int) + 1)) (.d (.d (.k .a)))) .a ([inI64 ((↑n : Int) + (1 : Int))]) ⟨by unfold inI64; omega, trivial⟩ ?_
      refine RZ (BN ?_)
      exact fun a' w' hS' => ⟨⟨n + 1, hlt, fun j hj => by
              rcases Nat.lt_or_ge j n with h | h
              · exact hall j h
              · obtain rfl : j = n := by omega
                exact hp⟩, by dsimp only; omega, ent_fr (by kernel_rfl) _ _ (ent_hp [] rfl _ _ hS')⟩
    | false =>
      refine RR [] .z (.i 16 (.bool false) (.d (.d (.d (.d (.k .a)))))) .a ?_
      refine RZ (NT (CF (EX (TE (TE (BH (NT (SQ (RG ?_)))))))))
      refine RR [] .z (.i 4 (.int .i64 (↑n : Int)) .z) .a ?_
      refine RZ (NT (RE ?_))
      refine NE [] .a .a [] (.int .i64 (↑n : Int)) ?_
      exact ⟨by rw [takeWhile_end hn hall (fun _ => hp)], rfl⟩
  · refine SQ (SQ (RG ?_))
    refine RR [] (.d (.d (.d (.d (.d .a))))) (.i 10 (.bool (decide ((↑n : Int) < (↑s.length : Int)))) .a) .a ?_
    refine SR 10 (decide ((↑n : Int) < (↑s.length : Int))) false (decide_eq_false (by omega)) ?_
    refine RR [] .z (.i 16 (.bool false) (.d (.d (.k .a)))) .a ?_
    refine RZ (NT (CF (EX (TE (TE (BH (NT (SQ (RG ?_)))))))))
    refine RR [] .z (.i 4 (.int .i64 (↑n : Int)) .z) .a ?_
    refine RZ (NT (RE ?_))
    refine NE [] .a .a [] (.int .i64 (↑n : Int)) ?_
    exact ⟨by rw [takeWhile_end hn hall (fun h => absurd h hlt)], rfl⟩
/-- Is a text a name? -/
def nameB (s : List UInt8) : Bool := match s with
  | [] => false
  | c :: _ => decide (s.length ≤ 20) && !digB c && !isWord s && s.all ldB
theorem takeWhile_all {p : UInt8 → Bool} : ∀ s : List UInt8, ((s.takeWhile p).length == s.length) = s.all p
  | [] => rfl
  | c :: s => by
    cases h : p c with
    | true =>
      simp only [List.takeWhile, h, List.length_cons, List.all_cons, Bool.true_and]
      rw [← takeWhile_all s, Bool.eq_iff_iff, beq_iff_eq, beq_iff_eq]; omega
    | false => simp [List.takeWhile, h]
theorem name_spec (s : List UInt8) (hl : s.length ≤ 1048576) : Does Tryz.prog 96 [.string (mkS s)] [gWords] (fun v hp' => v = .bool (nameB s) ∧ hp' = []) := by
  cases s with
  | nil =>
    refine fn_enter Tryz.func96 rfl 28 rfl fun w0 h0 => ?_
    refine SQ (RG ?_)
    refine RR [] .z (.i 2 (.bool false) .a) .a ?_
    refine RZ (NT (SQ (RG ?_)))
    refine RR [] .z (.k .z) .a ?_
    refine RZ (NT (RE ?_))
    refine NE [] .z .a [] (.bool false) ?_
    exact ⟨rfl, rfl⟩
  | cons c r =>
    have hb : bt (mkS (c :: r)) 0 = (c.toNat : Int) := bt_at (s := c :: r) (i := 0) (by simp)
    have hall := takeWhile_all (p := ldB) (c :: r)
    unfold nameB
    dsimp only
    rw [← hall]
    obtain ⟨s, hs⟩ : ∃ s, s = c :: r := ⟨_, rfl⟩
    have hpos : 0 < s.length := by rw [hs]; simp
    rw [← hs] at hb hl ⊢
    have hne : (!decide (s = [])) = true := by rw [hs]; simp
    by_cases h20 : s.length ≤ 20
    · refine fn_enter Tryz.func96 rfl 28 rfl fun w0 h0 => ?_
      refine SQ (RG ?_)
      refine RR [] .z (.i 2 (.bool false) .a) .a ?_
      refine RZ (NT (SQ (RG ?_)))
      refine RR [] (.d (.d (.d .a))) (.i 5 (.bool !decide (s = [])) .a) .a ?_
      refine SR 5 (!decide (s = [])) true hne ?_
      refine RR [] (.d (.d (.d (.d (.d .a))))) (.i 10 (.bool (decide ((↑s.length : Int) ≤ 20))) (.d (.d (.k .a)))) .a ?_
      refine SR 10 (decide ((↑s.length : Int) ≤ 20)) true (decide_eq_true (by omega)) ?_
      refine RV true [] (.d (.d .a)) (.i 12 (.int .u8 (bt (mkS s) 0)) (.k (.d (.k .a)))) .a [(0 : Int) ≤ (0 : Int) ∧ (0 : Int) < (↑s.length : Int)] ⟨by first | omega | decide | (simp; done), trivial⟩ ?_
      rw [hb]
      refine RC (dst := some 13) [] .a (digit_spec c) ?_
      rintro v _ ⟨rfl, rfl⟩
      cases hd : digB c with
      | true =>
        refine RR [] .z (.d (.d (.d (.k .z)))) .a ?_
        refine RZ (NT (RE ?_))
        refine NE [] .z .a [] (.bool false) ?_
        exact ⟨by simp, rfl⟩
      | false =>
        refine RR [] (.d (.d (.d (.d .a)))) (.i 17 (.string (mkS s)) (.i 16 (.bool true) (.d (.d (.d (.k .a)))))) .a ?_
        refine RCG (dst := some 18) .a (Word_spec s) (GV (GI []) 0 view_ro) ?_
        rintro v _ ⟨rfl, rfl⟩
        cases hw : isWord s with
        | true =>
          refine RR [] .z (.d (.d (.d (.k .z)))) .a ?_
          refine RZ (NT (RE ?_))
          refine NE [] .z .a [] (.bool false) ?_
          exact ⟨by simp, rfl⟩
        | false =>
          refine RR [] (.d (.d (.d (.d .a)))) (.i 22 (.string (mkS s)) (.i 21 (.bool true) (.d (.d (.d (.k .a)))))) .a ?_
          refine RC (dst := some 23) [] .a (row_spec s hl) ?_
          rintro v _ ⟨rfl, rfl⟩
          refine RR [] .z (.i 2 (.bool ((↑(List.takeWhile ldB s).length : Int) == (↑s.length : Int))) .z) .a ?_
          refine RZ (NT (RE ?_))
          refine NE [] .z .a [] (.bool ((↑(List.takeWhile ldB s).length : Int) == (↑s.length : Int))) ?_
          refine ⟨?_, rfl⟩
          simp only [decide_eq_true h20, Bool.true_and, Bool.not_false, Value.bool.injEq, Bool.and_true, cond_true]
          rw [Bool.eq_iff_iff, beq_iff_eq, beq_iff_eq]; omega
    · refine fn_enter Tryz.func96 rfl 28 rfl fun w0 h0 => ?_
      refine SQ (RG ?_)
      refine RR [] .z (.i 2 (.bool false) .a) .a ?_
      refine RZ (NT (SQ (RG ?_)))
      refine RR [] (.d (.d (.d .a))) (.i 5 (.bool !decide (s = [])) .a) .a ?_
      refine SR 5 (!decide (s = [])) true hne ?_
      refine RR [] (.d (.d (.d (.d (.d .a))))) (.i 10 (.bool (decide ((↑s.length : Int) ≤ 20))) (.d (.d (.k .a)))) .a ?_
      refine SR 10 (decide ((↑s.length : Int) ≤ 20)) false (decide_eq_false (by omega)) ?_
      refine RR [] .z (.d (.d (.k .z))) .a ?_
      refine RZ (NT (RE ?_))
      refine NE [] .z .a [] (.bool false) ?_
      exact ⟨by simp [h20], rfl⟩
theorem let_dig (c : UInt8) : letB c = (!digB c && ldB c) := by
  unfold ldB
  cases h : letB c with
  | true =>
    have : digB c = false := by
      unfold letB at h
      unfold digB
      simp only [Bool.or_eq_true, Bool.and_eq_true, decide_eq_true_eq, beq_iff_eq] at h
      simp only [Bool.and_eq_false_iff, decide_eq_false_iff_not]
      omega
    simp [this]
  | false => cases digB c <;> rfl
theorem nameB_eq (c : UInt8) (r : List UInt8) : nameB (c :: r) = (decide ((c :: r).length ≤ 20) && letB c && !isWord (c :: r) && r.all ldB) := by
  unfold nameB
  rw [let_dig, List.all_cons]
  dsimp only
  cases decide ((c :: r).length ≤ 20) <;> cases digB c <;> cases isWord (c :: r) <;> cases ldB c <;> cases r.all ldB <;> rfl
theorem rName_spec (s : List UInt8) (hl : s.length ≤ 1048576) : Does Tryz.prog 57 [.string (mkS s)] [] (fun v hp' => v = .bool (nameB s) ∧ hp' = []) := by
  cases s with
  | nil =>
    refine fn_enter Tryz.func57 rfl 40 rfl fun w0 h0 => ?_
    refine SQ (RG ?_)
    refine RR [] .z (.i 2 (.bool false) .a) .a ?_
    refine RZ (NT (SQ (SQ (RG ?_))))
    refine RR [] .z (.i 21 (.bool true) .a) .a ?_
    refine RZ (NT (CT (SQ (RG ?_))))
    refine RR [] .z (.d (.k .a)) .a ?_
    refine RZ (NT (RE (TR ?_)))
    refine NE [] .a .a [] (.bool false) ?_
    exact ⟨rfl, rfl⟩
  | cons c r =>
    have hb : bt (mkS (c :: r)) 0 = (c.toNat : Int) := bt_at (s := c :: r) (i := 0) (by simp)
    rw [nameB_eq]
    obtain ⟨s, hs⟩ : ∃ s, s = c :: r := ⟨_, rfl⟩
    have hpos : s.length = r.length + 1 := by rw [hs]; simp
    rw [← hs] at hb hl ⊢
    by_cases h20 : s.length ≤ 20
    · rw [decide_eq_true h20]
      refine fn_enter Tryz.func57 rfl 40 rfl fun w0 h0 => ?_
      refine SQ (RG ?_)
      refine RR [] .z (.i 2 (.bool false) .a) .a ?_
      refine RZ (NT (SQ (SQ (RG ?_))))
      refine RR [] (.d (.d (.d (.d .a)))) (.i 7 (.bool (decide ((↑s.length : Int) < 1))) .a) .a ?_
      refine SR 7 (decide ((↑s.length : Int) < 1)) false (decide_eq_false (by omega)) ?_
      refine RR [] (.d (.d (.d (.d (.d .a))))) (.i 12 (.bool (decide ((↑s.length : Int) > 20))) (.d (.d (.k .a)))) .a ?_
      refine SR 12 (decide ((↑s.length : Int) > 20)) false (decide_eq_false (by omega)) ?_
      refine RV true [] (.d (.d .a)) (.i 14 (.int .u8 (bt (mkS s) 0)) (.k (.d (.k .a)))) .a [(0 : Int) ≤ (0 : Int) ∧ (0 : Int) < (↑s.length : Int)] ⟨by first | omega | decide | (simp; done), trivial⟩ ?_
      rw [hb]
      refine RCA (dst := some 15) (rletter_spec c) ?_
      rintro v _ ⟨rfl, rfl⟩
      cases hd : letB c with
      | false =>
        refine RR [] .z (.i 21 (.bool true) (.d (.d (.d (.k .a))))) .a ?_
        refine RZ (NT (CT (SQ (RG ?_))))
        refine RR [] .z (.d (.k .a)) .a ?_
        refine RZ (NT (RE (TR ?_)))
        refine NE [] .a .a [] (.bool false) ?_
        exact ⟨by simp, rfl⟩
      | true =>
        refine RR [] (.d (.d (.d (.d .a)))) (.i 19 (.string (mkS s)) (.i 18 (.bool false) (.d (.d (.d (.k .a)))))) .a ?_
        refine RCA (dst := some 20) (rWord_spec s) ?_
        rintro v _ ⟨rfl, rfl⟩
        cases hw : isWord s with
        | true =>
          refine RR [] .z (.i 21 (.bool true) (.d (.d (.d (.k .a))))) .a ?_
          refine RZ (NT (CT (SQ (RG ?_))))
          refine RR [] .z (.d (.k .a)) .a ?_
          refine RZ (NT (RE (TR ?_)))
          refine NE [] .a .a [] (.bool false) ?_
          exact ⟨by simp, rfl⟩
        | false =>
          refine RR [] .z (.i 21 (.bool false) (.d (.d (.d (.k .a))))) .a ?_
          refine RZ (NT (CF (SK (NT (SQ (SQ (RG ?_)))))))
          refine RR [] .z (.i 3 (.int .i64 1) (.d (.k .a))) .a ?_
          refine RZ (NT (BK ?_))
          refine wpc_loop (X := {i : Nat // i ≤ r.length ∧ ∀ j, (hj : j < r.length) → j < i → ldB r[j] = true}) (fun x => St.mk [(3, .int .i64 ((x.1 + 1 : Nat) : Int)), (2, .bool false), (0, .string (mkS s))] []) (fun x => r.length - x.1) ⟨0, Nat.zero_le _, fun j _ h => absurd h (Nat.not_lt_zero _)⟩ (ent_fr (by kernel_rfl)) ?_
          rintro ⟨i, hi, hall⟩
          dsimp only at hi hall ⊢
          by_cases hlt : i < r.length
          · have hbt : bt (mkS s) ((i + 1 : Nat) : Int) = (r[i].toNat : Int) := by rw [bt_at (s := s) (i := i + 1) (by omega)]; simp [hs]
            refine SQ (SQ (RG ?_))
            refine RR [] .z (.i 25 (.bool (decide ((↑(i + 1) : Int) < (↑s.length : Int)))) .a) .a ?_
            refine RZ (NT ?_)
            refine SC 25 (decide ((↑(i + 1) : Int) < (↑s.length : Int))) true (decide_eq_true (by omega)) ?_
            refine CT (SK (NT (SQ (BK (SQ (RG ?_))))))
            refine RV true [] (.d (.d (.d .a))) (.i 30 (.int .u8 (bt (mkS s) (↑(i + 1) : Int))) (.d (.d (.k .a)))) .a ([(0 : Int) ≤ (↑(i + (1 : Nat)) : Int) ∧ (↑(i + (1 : Nat)) : Int) < (↑s.length : Int)]) ⟨by first | omega | decide | (simp; done), trivial⟩ ?_
            rw [hbt]
            refine RCA (dst := some 31) (rletter_spec r[i]) ?_
            rintro v _ ⟨rfl, rfl⟩
            have hnext : ldB r[i] = true → ∀ j, (hj : j < r.length) → j < i + 1 → ldB r[j] = true := fun h j hj hji => by
              rcases Nat.lt_or_ge j i with h' | h'
              · exact hall j hj h'
              · obtain rfl : j = i := by omega
                exact h
            cases h1 : letB r[i] with
            | true =>
              refine RR [] .z (.i 39 (.bool false) (.d (.d (.k .a)))) .a ?_
              refine RZ (NT (CF (SK (BN (NT (RG ?_))))))
              refine RV true [] .z (.i 3 (.int .i64 ((↑(i + 1) : Int) + 1)) (.d (.d (.k .a)))) .a ([inI64 ((↑(i + (1 : Nat)) : Int) + (1 : Int))]) ⟨by unfold inI64; omega, trivial⟩ ?_
              refine RZ ?_
              exact fun a' w' hS' => ⟨⟨i + 1, hlt, hnext (by unfold ldB; rw [h1]; rfl)⟩, by dsimp only; omega, ent_fr (by kernel_rfl) _ _ (ent_hp [] rfl _ _ hS')⟩
            | false =>
              refine RV true [] (.d (.d (.d (.d (.d .a))))) (.i 36 (.int .u8 (bt (mkS s) (↑(i + 1) : Int))) (.i 33 (.bool true) (.d (.d (.k .a))))) .a ([(0 : Int) ≤ (↑(i + (1 : Nat)) : Int) ∧ (↑(i + (1 : Nat)) : Int) < (↑s.length : Int)]) ⟨by first | omega | decide | (simp; done), trivial⟩ ?_
              rw [hbt]
              refine RCA (dst := some 37) (rdigit_spec r[i]) ?_
              rintro v _ ⟨rfl, rfl⟩
              cases h2 : digB r[i] with
              | true =>
                refine RR [] .z (.i 39 (.bool false) (.d (.d (.d (.k .a))))) .a ?_
                refine RZ (NT (CF (SK (BN (NT (RG ?_))))))
                refine RV true [] .z (.i 3 (.int .i64 ((↑(i + 1) : Int) + 1)) (.d (.d (.k .a)))) .a ([inI64 ((↑(i + (1 : Nat)) : Int) + (1 : Int))]) ⟨by unfold inI64; omega, trivial⟩ ?_
                refine RZ ?_
                exact fun a' w' hS' => ⟨⟨i + 1, hlt, hnext (by unfold ldB; rw [h1, h2]; rfl)⟩, by dsimp only; omega, ent_fr (by kernel_rfl) _ _ (ent_hp [] rfl _ _ hS')⟩
              | false =>
                refine RR [] .z (.i 39 (.bool true) (.d (.d (.d (.k .a))))) .a ?_
                refine RZ (NT (CT (SQ (RG ?_))))
                refine RR [] .z (.i 2 (.bool false) (.d (.k (.d (.k .a))))) .a ?_
                refine RZ (NT (RE (BR (TR (TR (BR (TR ?_)))))))
                refine NE [] .a .a [] (.bool false) ?_
                refine ⟨?_, rfl⟩
                have : r.all ldB = false := by
                  cases h3 : r.all ldB with
                  | false => rfl
                  | true =>
                    have h4 := List.all_eq_true.1 h3 r[i] (List.getElem_mem hlt)
                    unfold ldB at h4
                    rw [h1, h2] at h4
                    cases h4
                simp [this]
          · refine SQ (SQ (RG ?_))
            refine RR [] .z (.i 25 (.bool (decide ((↑(i + 1) : Int) < (↑s.length : Int)))) .a) .a ?_
            refine RZ (NT ?_)
            refine SC 25 (decide ((↑(i + 1) : Int) < (↑s.length : Int))) false (decide_eq_false (by omega)) ?_
            refine CF (EX (TE (TE (BH (NT (SQ (RG ?_)))))))
            refine RR [] .z (.i 2 (.bool true) .z) .a ?_
            refine RZ (NT (RE ?_))
            refine NE [] .a .a [] (.bool true) ?_
            refine ⟨?_, rfl⟩
            have : r.all ldB = true := List.all_eq_true.2 fun x hx => by
              obtain ⟨j, hj⟩ := List.getElem?_of_mem hx
              obtain ⟨hj1, rfl⟩ := List.getElem?_eq_some_iff.1 hj
              exact hall j hj1 (by omega)
            simp [this]
    · rw [decide_eq_false h20]
      refine fn_enter Tryz.func57 rfl 40 rfl fun w0 h0 => ?_
      refine SQ (RG ?_)
      refine RR [] .z (.i 2 (.bool false) .a) .a ?_
      refine RZ (NT (SQ (SQ (RG ?_))))
      refine RR [] (.d (.d (.d (.d .a)))) (.i 7 (.bool (decide ((↑s.length : Int) < 1))) .a) .a ?_
      refine SR 7 (decide ((↑s.length : Int) < 1)) false (decide_eq_false (by omega)) ?_
      refine RR [] (.d (.d (.d (.d (.d .a))))) (.i 12 (.bool (decide ((↑s.length : Int) > 20))) (.d (.d (.k .a)))) .a ?_
      refine SR 12 (decide ((↑s.length : Int) > 20)) true (decide_eq_true (by omega)) ?_
      refine RR [] .z (.i 21 (.bool true) (.d (.d (.k .a)))) .a ?_
      refine RZ (NT (CT (SQ (RG ?_))))
      refine RR [] .z (.d (.k .a)) .a ?_
      refine RZ (NT (RE (TR ?_)))
      refine NE [] .a .a [] (.bool false) ?_
      exact ⟨by simp, rfl⟩
end Go.Proofs.YtpfhleghgkeemaaGreatDoor
