import Derived.Test.YtpfhleghgkeemaaGreatDoorH7
import Derived.Test.YtpfhleghgkeemaaGreatDoorY3
import Derived.Test.YtpfhleghgkeemaaGreatDoorY2
namespace Go.Proofs.YtpfhleghgkeemaaGreatDoor
open Go Go.Sx
set_option linter.unusedVariables false
set_option linter.unusedSimpArgs false

/-- May a byte stand in a text? -/
def okB (c : UInt8) : Bool := plB c.toNat
theorem okB_lt {c : UInt8} (h : okB c = true) : c.toNat < 128 := by
  unfold okB plB at h
  simp only [Bool.or_eq_true, beq_iff_eq, Bool.and_eq_true, decide_eq_true_eq] at h
  omega
theorem dec_ok {l : List UInt8} {pos : Nat} (hp : pos < l.length) (h : okB l[pos] = true) : Utf8.decode (mkS l) pos = (l[pos].toNat, 1) := decode_ascii (mkS l) pos hp (okB_lt h)
theorem dec_bad {l : List UInt8} {pos : Nat} (hp : pos < l.length) (h : okB l[pos] = false) : plB ((Utf8.decode (mkS l) pos).1 : Int) = false := by
  by_cases ha : l[pos].toNat < 128
  · rw [decode_ascii (mkS l) pos hp ha]; exact h
  · have h2 := (decode_high (mkS l) pos hp (by show 128 ≤ l[pos].toNat; omega)).1
    unfold plB
    simp only [Bool.or_eq_false_iff, beq_eq_false_iff_ne, ne_eq, Bool.and_eq_false_iff, decide_eq_false_iff_not]
    omega
theorem indexFunc_spec (l : List UInt8) (hl : l.length ≤ 1048576) : Does Tryz.prog 154 [.string (mkS l), .func (.func 137) #[] #[], .bool true] [] (fun v hp' => ∃ n : Int, v = .int .i64 n ∧ (0 ≤ n ↔ l.all okB = false) ∧ hp' = []) := by
  refine fn_enter Tryz.func154 rfl 21 rfl fun w0 h0 => ?_
  refine SQ (RG ?_)
  refine RR [] .z (.i 6 (.int .i64 0) .a) .a ?_
  refine RZ (NT (SQ (SQ (RG ?_))))
  refine RR [] (.d .a) (.i 9 (.string (mkS l)) (.k (.d (.k .a)))) .a ?_
  refine wpr_step (step_rng (l := l) (dst := some 10) (by kernel_rfl)) ?_
  rintro _ ⟨g, rfl⟩
  refine RZ (NT (BK ?_))
  refine wpc_loop (X := {pos : Nat // ∃ h : pos ≤ l.length, ∀ j, (hj : j < pos) → okB (l[j]'(by omega)) = true}) (fun x => St.mk [(10, .pointer (some ⟨g, 0, none⟩)), (1, .func (.func 137) #[] #[]), (2, .bool true)] [itS g l x.1]) (fun x => l.length - x.1) ⟨0, Nat.zero_le _, fun j h => absurd h (Nat.not_lt_zero _)⟩ (ent_fr (by kernel_rfl)) ?_
  rintro ⟨pos, hp, hall⟩
  dsimp only at hp hall ⊢
  by_cases hlt : pos < l.length
  · refine SQ (RG ?_)
    refine wpr_eq (step_nxt (g := g) (l := l) (pos := pos) (dst := some 11) (by kernel_rfl) 0 rfl hlt) ?_
    refine RR [] .z (.i 12 (.bool true) .a) .a ?_
    refine RZ (NT (SQ (CT (SK (NT (BK (SQ (RG ?_))))))))
    refine RR [] .z (.i 8 (.int .i32 (↑(Utf8.decode (mkS l) pos).fst : Int)) (.i 7 (.int .i64 (↑pos : Int)) (.d (.d (.k .a))))) .a ?_
    refine RZ (NT (SQ (RG ?_)))
    refine RR [] (.d (.d .a)) (.i 16 (.int .i32 (↑(Utf8.decode (mkS l) pos).fst : Int)) (.i 15 (Value.func (Fn.func 137) #[] #[]) (.d (.k .a)))) .a ?_
    refine wpr_callv (dst := some 17) (rest := ([itS g l (pos + (Utf8.decode (mkS l) pos).snd)])) (first := (#[])) (caps := (#[])) (args := [.int .i32 (↑(Utf8.decode (mkS l) pos).fst : Int)]) (f := 137) (by kernel_rfl) (by kernel_rfl) (bad_spec ((Utf8.decode (mkS l) pos).1 : Int)) (give [] (by kernel_rfl)) ?_
    rintro v _ ⟨rfl, rfl⟩
    cases hok : okB l[pos] with
    | true =>
      have hd := dec_ok hlt hok
      have hpl : plB ((Utf8.decode (mkS l) pos).1 : Int) = true := by rw [hd]; exact hok
      rw [hpl, hd]
      refine RR [] .z (.i 19 (.bool false) (.d (.d (.d (.k .a))))) .a ?_
      refine RZ (NT (CF (SK (BN ?_))))
      exact fun a' w' hS' => ⟨⟨pos + 1, hlt, fun j hj => by
              rcases Nat.lt_or_ge j pos with h | h
              · exact hall j h
              · obtain rfl : j = pos := by omega
                exact hok⟩, by dsimp only; omega, ent_fr (by kernel_rfl) _ _ (ent_hp [0] rfl _ _ hS')⟩
    | false =>
      rw [dec_bad hlt hok]
      refine RR [] .z (.i 19 (.bool true) (.d (.d (.d (.k .a))))) .a ?_
      refine RZ (NT (CT (SQ (RG ?_))))
      refine RR [] .z (.i 6 (.int .i64 (↑pos : Int)) (.d (.d (.k .a)))) .a ?_
      refine RZ (NT (RE (BR (TR (BR (TR ?_))))))
      refine NE [] .z .a [] (.int .i64 (↑pos : Int)) ?_
      refine ⟨_, rfl, ⟨fun _ => ?_, fun _ => by omega⟩, rfl⟩
      cases h : l.all okB with
      | false => rfl
      | true =>
        have h2 := List.all_eq_true.1 h l[pos] (List.getElem_mem hlt)
        rw [hok] at h2; cases h2
  · refine SQ (RG ?_)
    refine wpr_eq (step_nxt_end (g := g) (l := l) (pos := pos) (dst := some 11) (by kernel_rfl) 0 rfl (by omega)) ?_
    refine RR [] .z (.i 12 (.bool false) .a) .a ?_
    refine RZ (NT (SQ (CF (EX (TE (TE (BH (NT (SQ (RG ?_))))))))))
    refine RR [] .z (.i 6 (.int .i64 (-1)) .z) .a ?_
    refine RZ (NT (RE ?_))
    refine NE [] .z .a [] (.int .i64 (-1)) ?_
    refine ⟨-1, rfl, ⟨fun h => absurd h (by decide), fun h => ?_⟩, rfl⟩
    have : l.all okB = true := List.all_eq_true.2 fun x hx => by
      obtain ⟨j, hj⟩ := List.getElem?_of_mem hx
      obtain ⟨hj1, rfl⟩ := List.getElem?_eq_some_iff.1 hj
      exact hall j (by omega)
    rw [this] at h; cases h
theorem IndexFunc_spec (l : List UInt8) (hl : l.length ≤ 1048576) : Does Tryz.prog 138 [.string (mkS l), .func (.func 137) #[] #[]] [] (fun v hp' => ∃ n : Int, v = .int .i64 n ∧ (0 ≤ n ↔ l.all okB = false) ∧ hp' = []) := by
  refine fn_enter Tryz.func138 rfl 8 rfl fun w0 h0 => ?_
  refine SQ (RG ?_)
  refine RR [] .z (.i 4 (.int .i64 0) .a) .a ?_
  refine RZ (NT (SQ (RG ?_)))
  refine RR [] (.d (.d .a)) (.i 6 (Value.func (Fn.func 137) #[] #[]) (.i 5 (.string (mkS l)) (.k .z))) .a ?_
  refine RCA (dst := some 7) (indexFunc_spec l hl) ?_
  rintro v _ ⟨n, rfl, hn, rfl⟩
  refine RR [] .z (.i 4 (.int .i64 n) .z) .a ?_
  refine RZ (NT (RE ?_))
  refine NE [] .a .a [] (.int .i64 n) ?_
  exact ⟨n, rfl, hn, rfl⟩
theorem Replace_spec (g : Nat) (a : Option Addr) (c : Nat) (s : List UInt8) (hl : s.length ≤ 255) : Does Tryz.prog 140 [.pointer (some ⟨g, 0, none⟩), .string (mkS s)] [.blk g 220 [.int .u32 0, .int .i32 0, .int .u32 0, .nilIface, .slice a 6 c], row 9 1 a 6 c (pairsL.map strV)] (fun v hp' => v = .string (mkS (escL s)) ∧ hp' = []) := by
  refine fn_enter Tryz.func140 rfl 17 rfl fun w0 h0 => ?_
  refine SQ (RG ?_)
  refine RR [] .z (.i 4 (.string ⟨#[]⟩) .a) (.i (.blk g 220 [.int .u32 0, .int .i32 0, .int .u32 0, Value.nilIface, .slice a 6 c]) (.d (.k .a))) ?_
  refine RZ (NT (SQ (RG ?_)))
  refine RR [] (.d (.d (.d (.d (.d .a))))) (.i 9 (Value.func (Fn.func 156) #[.pointer (some ⟨g, 0, none⟩)] #[]) (.i 7 (.pointer (some ⟨g, 0, none⟩)) .a)) (.i (.blk g 220 [.int .u32 0, .int .i32 0, .int .u32 0, Value.nilIface, .slice a 6 c]) (.d (.k .a))) ?_
  refine RCA (dst := some 10) (Do_spec g a c) ?_
  rintro v _ ⟨g2, p, ta, tc, rfl, rfl⟩
  unfold repH
  obtain ⟨rc, hlen, hat, hT, hrc⟩ : ∃ rc : (Nat → Value) → Value → List Value, (∀ R t, (rc R t).length = 257) ∧ (∀ R t q, q < 256 → ((rc R t).drop (q * 1)).take 1 = [R q]) ∧ (∀ R t, ((rc R t).drop 256).take 1 = [t]) ∧ rc = repC := ⟨repC, repC_len, fun R t q h => repC_at h, fun R t => repC_t, rfl⟩
  rw [← hrc]
  refine RZ (NT (SQ (RG ?_)))
  refine RR [0] (.d (.d (.d (.d (.d .a))))) (.i 15 (.string (mkS s)) (.i 14 (Value.iface 249 (.pointer (some ⟨g2, 0, none⟩))) (.d (.d (.d (.k .z)))))) (.i (.blk g 220 [.int .u32 1, .int .i32 0, .int .u32 0, Value.iface 249 (.pointer (some ⟨g2, 0, none⟩)), .slice none 0 0]) (.d (.k .a))) ?_
  refine wpr_ent (ent_turn 1 (ro ta (toRep 0)) rfl (turn_view view_row) rfl) ?_
  refine wpr_ent (ent_turn 2 (ro (some ⟨g2, 0, none⟩) (rc (repR 0 p) (.slice ta 3 tc))) rfl (turn_view view_row) rfl) ?_
  refine wpr_ent (ent_turn 3 (bag (repRows 0 p)) rfl (turn_view view_bag) rfl) ?_
  refine RCG (dst := some 16) (.i (.blk g 220 [.int .u32 1, .int .i32 0, .int .u32 0, Value.iface 249 (.pointer (some ⟨g2, 0, none⟩)), .slice none 0 0]) (.d (.k .a))) (bsrReplace_spec g2 p ta tc s hl rc hlen hat hT) (GV (GV (GV (GI []) 3 view_self) 1 view_ro) 2 view_ro) ?_
  rintro v _ ⟨rfl, rfl⟩
  refine RR [] .z (.i 4 (.string (mkS (escL s))) .z) (.i (.blk g 220 [.int .u32 1, .int .i32 0, .int .u32 0, Value.iface 249 (.pointer (some ⟨g2, 0, none⟩)), .slice none 0 0]) (.d (.k .a))) ?_
  refine RZ (NT (RE ?_))
  refine NE [] .z (.i (.blk g 220 [.int .u32 1, .int .i32 0, .int .u32 0, Value.iface 249 (.pointer (some ⟨g2, 0, none⟩)), .slice none 0 0]) (.d (.k .a))) [] (.string (mkS (escL s))) ?_
  exact ⟨rfl, rfl⟩
/-- May a text be written; how it is written. -/
def plainB (s : List UInt8) : Bool := decide (s.length ≤ 255) && s.all okB
def quoL (s : List UInt8) : List UInt8 := [34] ++ escL s ++ [34]
theorem quote_spec (s : List UInt8) (hl : s.length ≤ 1048576) : Does Tryz.prog 99 [.string (mkS s)] [] (fun v hp' => v = .tuple #[.string (mkS (if plainB s then quoL s else [])), .bool (plainB s)] ∧ hp' = []) := by
  unfold plainB
  have hEl := escL_len s
  have hsl : spN s ≤ s.length := List.countP_le_length
  by_cases h255 : s.length ≤ 255
  · rw [decide_eq_true h255, Bool.true_and]
    refine fn_enter Tryz.func99 rfl 20 rfl fun w0 h0 => ?_
    refine SQ (RG ?_)
    refine RR [] .z (.i 3 (.bool false) (.i 2 (.string ⟨#[]⟩) .a)) .a ?_
    refine RZ (NT (SQ (RG ?_)))
    refine RR [] .z (.i 4 (Value.func (Fn.func 137) #[] #[]) .a) .a ?_
    refine RZ (NT (SQ (SQ (RG ?_))))
    refine RR [] (.d (.d (.d (.d .a)))) (.i 8 (.bool (decide ((↑s.length : Int) > 255))) .a) .a ?_
    refine SR 8 (decide ((↑s.length : Int) > 255)) false (decide_eq_false (by omega)) ?_
    refine RR [] (.d (.d .a)) (.i 10 (Value.func (Fn.func 137) #[] #[]) (.i 9 (.string (mkS s)) (.k (.d (.d (.k .a)))))) .a ?_
    refine RCA (dst := some 11) (IndexFunc_spec s hl) ?_
    rintro v _ ⟨n, rfl, hn, rfl⟩
    cases hall : s.all okB with
    | false =>
      have hn0 : 0 ≤ n := hn.2 hall
      refine RR [] .z (.i 13 (.bool (decide (n ≥ 0))) (.d (.d (.d (.d (.k .a)))))) .a ?_
      refine RZ (NT ?_)
      refine SC 13 (decide (n ≥ 0)) true (decide_eq_true (by omega)) ?_
      refine CT (SQ (RG ?_))
      refine RR [] .z (.d (.d (.k .a))) .a ?_
      refine RZ (NT (RE (TR ?_)))
      refine NE [] .a .a [] (.tuple #[.string ⟨#[]⟩, .bool false]) ?_
      exact ⟨rfl, rfl⟩
    | true =>
      have hn0 : ¬ 0 ≤ n := fun h => by have := hn.1 h; rw [hall] at this; cases this
      refine RR [] .z (.i 13 (.bool (decide (n ≥ 0))) (.d (.d (.d (.d (.k .a)))))) .a ?_
      refine RZ (NT ?_)
      refine SC 13 (decide (n ≥ 0)) false (decide_eq_false (by omega)) ?_
      refine CF (SK (NT (SQ (RG ?_))))
      refine RN [] (.d .a) 14 (fun g1 => (.slice (some ⟨g1, 0, none⟩) 6 6)) (.d (.d (.k .a))) .a 9 [.string { data := #[92] }, .string { data := #[92, 92] }, .string { data := #[34] }, .string { data := #[92, 34] }, .string { data := #[10] }, .string { data := #[92, 110] }] fun g1 => ?_
      refine wpr_ent (ent_turn (c := .blk g1 9 (pairsL.map strV)) 0 (ro (some ⟨g1, 0, none⟩) (pairsL.map strV)) (by kernel_rfl) (turn_rblk (by intro u hu; obtain ⟨x, _, rfl⟩ := List.mem_map.1 hu; rfl)) rfl) ?_
      refine RCG (dst := some 15) .a (NewReplacer_spec g1) (GV (GI []) 0 view_ro) ?_
      rintro v _ ⟨g, a, c, rfl, rfl⟩
      refine RR [] (.d .a) (.i 16 (.string (mkS s)) (.k (.d (.k (.k .z))))) (.i (.blk g 220 [.int .u32 0, .int .i32 0, .int .u32 0, Value.nilIface, .slice a 6 c]) (.d (.k .a))) ?_
      refine RC (dst := some 17) [0, 0] (.d (.d (.k .a))) (Replace_spec g a c s h255) ?_
      rintro v _ ⟨rfl, rfl⟩
      have hEl2 : (escL s).length ≤ 510 := by omega
      have hs34 : (ByteArray.mk #[34]).size = 1 := rfl
      have hs35 : (([34] : List UInt8) ++ escL s).length = (escL s).length + 1 := by simp
      have hs36 : (mkS (([34] : List UInt8) ++ escL s)).size = (escL s).length + 1 := by rw [mkS_size]; exact hs35
      refine RV true [] .z (.i 3 (.bool true) (.i 2 (.string (mkS ([34] ++ escL s ++ [34]))) .z)) .a ([(ByteArray.mk #[(34 : UInt8)]).size + (escL s).length ≤ (9223372036854775807 : Nat), ([(34 : UInt8)] ++ escL s).length + (ByteArray.mk #[(34 : UInt8)]).size ≤ (9223372036854775807 : Nat)]) ⟨by first | omega | decide | (simp; done), by first | omega | decide | (simp; done), trivial⟩ ?_
      refine RZ (NT (RE ?_))
      refine NE [] .z .a [] (.tuple #[.string (mkS ([34] ++ escL s ++ [34])), .bool true]) ?_
      exact ⟨rfl, rfl⟩
  · rw [decide_eq_false h255]
    refine fn_enter Tryz.func99 rfl 20 rfl fun w0 h0 => ?_
    refine SQ (RG ?_)
    refine RR [] .z (.i 3 (.bool false) (.i 2 (.string ⟨#[]⟩) .a)) .a ?_
    refine RZ (NT (SQ (RG ?_)))
    refine RR [] .z (.i 4 (Value.func (Fn.func 137) #[] #[]) .a) .a ?_
    refine RZ (NT (SQ (SQ (RG ?_))))
    refine RR [] (.d (.d (.d (.d .a)))) (.i 8 (.bool (decide ((↑s.length : Int) > 255))) .a) .a ?_
    refine SR 8 (decide ((↑s.length : Int) > 255)) true (decide_eq_true (by omega)) ?_
    refine RR [] .z (.i 13 (.bool true) (.d (.d (.d (.k .a))))) .a ?_
    refine RZ (NT (CT (SQ (RG ?_))))
    refine RR [] .z (.d (.k .a)) .a ?_
    refine RZ (NT (RE (TR ?_)))
    refine NE [] .a .a [] (.tuple #[.string ⟨#[]⟩, .bool false]) ?_
    exact ⟨rfl, rfl⟩
def tokV (k : Int) (s : List UInt8) : Value := .agg #[.int .i64 k, .string (mkS s), .int .i64 0, .int .i64 0, .int .i64 0]
theorem TextStr_spec (s : List UInt8) (hl : s.length ≤ 1048576) : Does Tryz.prog 56 [tokV 3 s] [] (fun v hp' => v = .tuple #[.string (mkS (if plainB s then quoL s else [])), .int .i64 (if plainB s then 0 else 2)] ∧ hp' = []) := by
  unfold tokV
  refine fn_enter Tryz.func56 rfl 80 rfl fun w0 h0 => ?_
  refine SQ (RG ?_)
  refine RP [] (.d .a) 1 .z .a 111 [.int .i64 3, .string (mkS s), .int .i64 0, .int .i64 0, .int .i64 0] fun g1 => ?_
  refine RR [] .z (.i 3 (.int .i64 0) (.i 2 (.string ⟨#[]⟩) .a)) (.i (.blk g1 111 [.int .i64 3, .string (mkS s), .int .i64 0, .int .i64 0, .int .i64 0]) .z) ?_
  refine RZ (NT (SQ (RG ?_)))
  refine RR [0] .z (.i 5 (.bool false) (.i 4 (.string (mkS s)) .a)) (.i (.blk g1 111 [.int .i64 3, .string (mkS s), .int .i64 0, .int .i64 0, .int .i64 0]) .z) ?_
  refine RZ (NT (SQ (SQ (RG ?_))))
  refine RR [0] .z (.i 9 (.int .i64 3) .a) (.i (.blk g1 111 [.int .i64 3, .string (mkS s), .int .i64 0, .int .i64 0, .int .i64 0]) .z) ?_
  refine RZ (NT (BK (SQ (RG ?_))))
  refine RR [] .z (.i 10 (.bool false) .a) (.i (.blk g1 111 [.int .i64 3, .string (mkS s), .int .i64 0, .int .i64 0, .int .i64 0]) .z) ?_
  refine RZ (NT (CF (SQ (RG ?_))))
  refine RR [] .z (.i 19 (.bool false) (.d (.k .a))) (.i (.blk g1 111 [.int .i64 3, .string (mkS s), .int .i64 0, .int .i64 0, .int .i64 0]) .z) ?_
  refine RZ (NT (CF (SQ (RG ?_))))
  refine RR [] .z (.i 28 (.bool false) (.d (.k .a))) (.i (.blk g1 111 [.int .i64 3, .string (mkS s), .int .i64 0, .int .i64 0, .int .i64 0]) .z) ?_
  refine RZ (NT (CF (SQ (RG ?_))))
  refine RR [] .z (.i 43 (.bool false) (.d (.k .a))) (.i (.blk g1 111 [.int .i64 3, .string (mkS s), .int .i64 0, .int .i64 0, .int .i64 0]) .z) ?_
  refine RZ (NT (CF (SQ (RG ?_))))
  refine RR [] .z (.i 52 (.bool false) (.d (.k .a))) (.i (.blk g1 111 [.int .i64 3, .string (mkS s), .int .i64 0, .int .i64 0, .int .i64 0]) .z) ?_
  refine RZ (NT (CF (SQ (RG ?_))))
  refine RR [] .z (.i 64 (.bool true) (.d (.d (.k .a)))) (.i (.blk g1 111 [.int .i64 3, .string (mkS s), .int .i64 0, .int .i64 0, .int .i64 0]) .z) ?_
  refine RZ (NT (CT (SQ (RG ?_))))
  refine RR [] (.d .a) (.i 67 (.string (mkS s)) (.d (.k .a))) (.i (.blk g1 111 [.int .i64 3, .string (mkS s), .int .i64 0, .int .i64 0, .int .i64 0]) .z) ?_
  refine RC (dst := some 68) [] (.i (.blk g1 111 [.int .i64 3, .string (mkS s), .int .i64 0, .int .i64 0, .int .i64 0]) .z) (quote_spec s hl) ?_
  rintro v _ ⟨rfl, rfl⟩
  cases hp : plainB s with
  | true =>
    refine RR [] .z (.i 5 (.bool true) (.i 4 (.string (mkS (if true = true then quoL s else []))) (.d (.d (.d (.d (.k .a))))))) (.i (.blk g1 111 [.int .i64 3, .string (mkS s), .int .i64 0, .int .i64 0, .int .i64 0]) .z) ?_
    refine RZ (NT (RG ?_))
    refine RR [0] .z (.k (.k (.k (.k .z)))) (.i (.blk g1 111 [.int .i64 3, .string (mkS s), .int .i64 0, .int .i64 0, .int .i64 0]) .z) ?_
    refine RZ (BN (NT (SQ (SQ (RG ?_)))))
    refine RR [] .z (.i 78 (.bool false) (.d (.k .a))) (.i (.blk g1 111 [.int .i64 3, .string (mkS s), .int .i64 0, .int .i64 0, .int .i64 0]) .z) ?_
    refine RZ (NT (CF (SK (NT (SQ (RG ?_))))))
    refine RR [] .z (.d (.d (.k (.i 2 (.string (mkS (if true = true then quoL s else []))) .z)))) (.i (.blk g1 111 [.int .i64 3, .string (mkS s), .int .i64 0, .int .i64 0, .int .i64 0]) .z) ?_
    refine RZ (NT (RE ?_))
    refine NE [] .z (.i (.blk g1 111 [.int .i64 3, .string (mkS s), .int .i64 0, .int .i64 0, .int .i64 0]) .z) [] (.tuple #[.string (mkS (if true = true then quoL s else [])), .int .i64 0]) ?_
    exact ⟨rfl, rfl⟩
  | false =>
    refine RR [] .z (.d (.d (.k (.i 4 (.string (mkS (if false = true then quoL s else []))) (.d (.k .a)))))) (.i (.blk g1 111 [.int .i64 3, .string (mkS s), .int .i64 0, .int .i64 0, .int .i64 0]) .z) ?_
    refine RZ (NT (RG ?_))
    refine RR [] .z (.k (.k (.k (.k .z)))) (.i (.blk g1 111 [.int .i64 3, .string (mkS s), .int .i64 0, .int .i64 0, .int .i64 0]) .z) ?_
    refine RZ (BN (NT (SQ (SQ (RG ?_)))))
    refine RR [] .z (.i 78 (.bool true) (.d (.k .a))) (.i (.blk g1 111 [.int .i64 3, .string (mkS s), .int .i64 0, .int .i64 0, .int .i64 0]) .z) ?_
    refine RZ (NT (CT (SQ (RG ?_))))
    refine RR [] .z (.i 3 (.int .i64 2) (.i 2 (.string ⟨#[]⟩) (.d (.k .z)))) (.i (.blk g1 111 [.int .i64 3, .string (mkS s), .int .i64 0, .int .i64 0, .int .i64 0]) .z) ?_
    refine RZ (NT (RE (TR ?_)))
    refine NE [] .z (.i (.blk g1 111 [.int .i64 3, .string (mkS s), .int .i64 0, .int .i64 0, .int .i64 0]) .z) [] (.tuple #[.string ⟨#[]⟩, .int .i64 2]) ?_
    exact ⟨rfl, rfl⟩
theorem TextName_spec (s : List UInt8) (hl : s.length ≤ 1048576) : Does Tryz.prog 56 [tokV 1 s] [gWords] (fun v hp' => v = .tuple #[.string (mkS (if nameB s then s else [])), .int .i64 (if nameB s then 0 else 2)] ∧ hp' = []) := by
  unfold tokV
  refine fn_enter Tryz.func56 rfl 80 rfl fun w0 h0 => ?_
  refine SQ (RG ?_)
  refine RP [] (.d .a) 1 .z .a 111 [.int .i64 1, .string (mkS s), .int .i64 0, .int .i64 0, .int .i64 0] fun g1 => ?_
  refine RR [] .z (.i 3 (.int .i64 0) (.i 2 (.string ⟨#[]⟩) .a)) (.k (.i (.blk g1 111 [.int .i64 1, .string (mkS s), .int .i64 0, .int .i64 0, .int .i64 0]) .z)) ?_
  refine RZ (NT (SQ (RG ?_)))
  refine RR [1] .z (.i 5 (.bool false) (.i 4 (.string (mkS s)) .a)) (.k (.i (.blk g1 111 [.int .i64 1, .string (mkS s), .int .i64 0, .int .i64 0, .int .i64 0]) .z)) ?_
  refine RZ (NT (SQ (SQ (RG ?_))))
  refine RR [1] .z (.i 9 (.int .i64 1) .a) (.k (.i (.blk g1 111 [.int .i64 1, .string (mkS s), .int .i64 0, .int .i64 0, .int .i64 0]) .z)) ?_
  refine RZ (NT (BK (SQ (RG ?_))))
  refine RR [] .z (.i 10 (.bool false) .a) (.k (.i (.blk g1 111 [.int .i64 1, .string (mkS s), .int .i64 0, .int .i64 0, .int .i64 0]) .z)) ?_
  refine RZ (NT (CF (SQ (RG ?_))))
  refine RR [] .z (.i 19 (.bool true) (.d (.k .a))) (.k (.i (.blk g1 111 [.int .i64 1, .string (mkS s), .int .i64 0, .int .i64 0, .int .i64 0]) .z)) ?_
  refine RZ (NT (CT (RG ?_)))
  refine RR [] (.d .a) (.i 21 (.string (mkS s)) (.d (.d (.k .a)))) (.k (.i (.blk g1 111 [.int .i64 1, .string (mkS s), .int .i64 0, .int .i64 0, .int .i64 0]) .z)) ?_
  refine RCG (dst := some 22) (.k (.i (.blk g1 111 [.int .i64 1, .string (mkS s), .int .i64 0, .int .i64 0, .int .i64 0]) .z)) (name_spec s hl) (GV (GI []) 0 view_ro) ?_
  rintro v _ ⟨rfl, rfl⟩
  cases hp : nameB s with
  | true =>
    refine RR [1] .z (.i 5 (.bool true) (.d (.d (.d (.k (.k (.k .z))))))) (.k (.i (.blk g1 111 [.int .i64 1, .string (mkS s), .int .i64 0, .int .i64 0, .int .i64 0]) .z)) ?_
    refine RZ (BN (NT (SQ (SQ (RG ?_)))))
    refine RR [] .z (.i 78 (.bool false) (.d (.k .a))) (.k (.i (.blk g1 111 [.int .i64 1, .string (mkS s), .int .i64 0, .int .i64 0, .int .i64 0]) .z)) ?_
    refine RZ (NT (CF (SK (NT (SQ (RG ?_))))))
    refine RR [] .z (.d (.d (.k (.i 2 (.string (mkS s)) .z)))) (.k (.i (.blk g1 111 [.int .i64 1, .string (mkS s), .int .i64 0, .int .i64 0, .int .i64 0]) .z)) ?_
    refine RZ (NT (RE ?_))
    refine NE [] .z (.k (.i (.blk g1 111 [.int .i64 1, .string (mkS s), .int .i64 0, .int .i64 0, .int .i64 0]) .z)) [] (.tuple #[.string (mkS s), .int .i64 0]) ?_
    exact ⟨rfl, rfl⟩
  | false =>
    refine RR [] .z (.d (.d (.k (.k (.k (.k .z)))))) (.k (.i (.blk g1 111 [.int .i64 1, .string (mkS s), .int .i64 0, .int .i64 0, .int .i64 0]) .z)) ?_
    refine RZ (BN (NT (SQ (SQ (RG ?_)))))
    refine RR [] .z (.i 78 (.bool true) (.d (.k .a))) (.k (.i (.blk g1 111 [.int .i64 1, .string (mkS s), .int .i64 0, .int .i64 0, .int .i64 0]) .z)) ?_
    refine RZ (NT (CT (SQ (RG ?_))))
    refine RR [] .z (.i 3 (.int .i64 2) (.i 2 (.string ⟨#[]⟩) (.d (.k .z)))) (.k (.i (.blk g1 111 [.int .i64 1, .string (mkS s), .int .i64 0, .int .i64 0, .int .i64 0]) .z)) ?_
    refine RZ (NT (RE (TR ?_)))
    refine NE [] .z (.k (.i (.blk g1 111 [.int .i64 1, .string (mkS s), .int .i64 0, .int .i64 0, .int .i64 0]) .z)) [] (.tuple #[.string ⟨#[]⟩, .int .i64 2]) ?_
    exact ⟨rfl, rfl⟩
end Go.Proofs.YtpfhleghgkeemaaGreatDoor
