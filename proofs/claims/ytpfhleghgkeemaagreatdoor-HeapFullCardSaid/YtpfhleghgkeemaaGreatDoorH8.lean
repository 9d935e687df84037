import Derived.Test.YtpfhleghgkeemaaGreatDoorH7
import Derived.Test.YtpfhleghgkeemaaGreatDoorX22
import Derived.Test.YtpfhleghgkeemaaGreatDoorX16
namespace Go.Proofs.YtpfhleghgkeemaaGreatDoor
open Go Go.Sx
set_option linter.unusedSimpArgs false

/-- May a byte stand in a text? -/
def okB (c : UInt8) : Bool := plB c.toNat
theorem okB_lt {c : UInt8} (h : okB c = true) : c.toNat < 128 := by
  unfold okB plB at h
  simp only [Bool.or_eq_true, beq_iff_eq, Bool.and_eq_true, decide_eq_true_eq] at h
  omega
theorem dec_ok {l : List UInt8} {pos : Nat} (hp : pos < l.length) (h : okB l[pos] = true) : Utf8.decode (mkS l) pos = (l[pos].toNat, 1) := decode_ascii (mkS l) pos hp (okB_lt h)
theorem dec_bad {l : List UInt8} {pos : Nat} (hp : pos < l.length) (h : okB l[pos] = false) : plB ((Utf8.decode (mkS l) pos).1 : Int) = false := by
  by_cases ha : l[pos].toNat < 128
  · rw [decode_ascii (mkS l) pos hp ha]; exact h
  · have h2 := (decode_high (mkS l) pos hp (by show 128 ≤ l[pos].toNat; omega)).1
    unfold plB
    simp only [Bool.or_eq_false_iff, beq_eq_false_iff_ne, ne_eq, Bool.and_eq_false_iff, decide_eq_false_iff_not]
    omega
theorem indexFunc_spec (l : List UInt8) (hl : l.length ≤ 1048576) : Does Tryz.prog 154 [.string (mkS l), .func (.func 137) #[] #[], .bool true] [] (fun v hp' => ∃ n : Int, v = .int .i64 n ∧ (0 ≤ n ↔ l.all okB = false) ∧ hp' = []) := by
  refine fn_enter Tryz.func154 rfl 21 rfl fun w0 h0 => ?_
  refine wpc_seq ?_
  refine wpc_region [0] (by kernel_rfl) ?_
  refine wpr_run (l₂ := []) true [0] [] [(6, .int .i64 0), (0, .string (mkS l)), (1, Value.func (Fn.func 137) #[] #[]), (2, .bool true)] [] [] (by kernel_rfl) (by kernel_rfl) trivial ?_
  refine wpr_nil (nx_then (wpc_seq (wpc_seq ?_)))
  refine wpc_region [0, 1] (by kernel_rfl) ?_
  refine wpr_run (l₂ := [1]) true [0] [] [(9, .string (mkS l)), (6, .int .i64 0), (1, Value.func (Fn.func 137) #[] #[]), (2, .bool true)] [] [] (by kernel_rfl) (by kernel_rfl) trivial ?_
  refine wpr_step (step_rng (l := l) (dst := some 10) (by kernel_rfl)) ?_
  rintro _ ⟨g, rfl⟩
  refine wpr_nil (nx_then ?_)
  refine wpc_block ?_
  refine wpc_loop (X := {pos : Nat // ∃ h : pos ≤ l.length, ∀ j, (hj : j < pos) → okB (l[j]'(by omega)) = true}) (fun x => St.mk [(10, .pointer (some ⟨g, 0, none⟩)), (1, .func (.func 137) #[] #[]), (2, .bool true)] [itS g l x.1]) (fun x => l.length - x.1) ⟨0, Nat.zero_le _, fun j h => absurd h (Nat.not_lt_zero _)⟩ (ent_fr (by kernel_rfl)) ?_
  rintro ⟨pos, hp, hall⟩
  dsimp only at hp hall ⊢
  by_cases hlt : pos < l.length
  · refine wpc_seq ?_
    refine wpc_region [0, 1] (by kernel_rfl) ?_
    refine wpr_eq (step_nxt (g := g) (l := l) (pos := pos) (dst := some 11) (by kernel_rfl) 0 rfl hlt) ?_
    refine wpr_run (l₂ := []) true [1] [] [(12, .bool true), (11, Value.tuple #[.bool true, .int .i64 (↑pos : Int), .int .i32 (↑(Utf8.decode (mkS l) pos).fst : Int)]), (10, .pointer (some ⟨g, 0, none⟩)), (1, Value.func (Fn.func 137) #[] #[]), (2, .bool true)] ([itS g l (pos + (Utf8.decode (mkS l) pos).snd)]) [] (by kernel_rfl) (by kernel_rfl) trivial ?_
    refine wpr_nil (nx_then (wpc_seq ?_))
    refine wpc_true (by kernel_rfl) ?_
    refine wpc_skip ?_
    refine nx_then ?_
    refine wpc_block ?_
    refine wpc_seq ?_
    refine wpc_region [0, 1, 2, 3] (by kernel_rfl) ?_
    refine wpr_run (l₂ := []) true [0, 1, 2, 3] [] [(8, .int .i32 (↑(Utf8.decode (mkS l) pos).fst : Int)), (7, .int .i64 (↑pos : Int)), (10, .pointer (some ⟨g, 0, none⟩)), (1, Value.func (Fn.func 137) #[] #[]), (2, .bool true)] ([itS g l (pos + (Utf8.decode (mkS l) pos).snd)]) [] (by kernel_rfl) (by kernel_rfl) trivial ?_
    refine wpr_nil (nx_then (wpc_seq ?_))
    refine wpc_region [0, 1, 2, 3, 4] (by kernel_rfl) ?_
    refine wpr_run (l₂ := [2, 3, 4]) true [0, 1] [] [(16, .int .i32 (↑(Utf8.decode (mkS l) pos).fst : Int)), (15, Value.func (Fn.func 137) #[] #[]), (7, .int .i64 (↑pos : Int)), (10, .pointer (some ⟨g, 0, none⟩)), (1, Value.func (Fn.func 137) #[] #[]), (2, .bool true)] ([itS g l (pos + (Utf8.decode (mkS l) pos).snd)]) [] (by kernel_rfl) (by kernel_rfl) trivial ?_
    refine wpr_callv (dst := some 17) (rest := ([itS g l (pos + (Utf8.decode (mkS l) pos).snd)])) (first := (#[])) (caps := (#[])) (args := [.int .i32 (↑(Utf8.decode (mkS l) pos).fst : Int)]) (f := 137) (by kernel_rfl) (by kernel_rfl) (bad_spec ((Utf8.decode (mkS l) pos).1 : Int)) (give [] (by kernel_rfl)) ?_
    rintro v _ ⟨rfl, rfl⟩
    cases hok : okB l[pos] with
    | true =>
      have hd := dec_ok hlt hok
      have hpl : plB ((Utf8.decode (mkS l) pos).1 : Int) = true := by rw [hd]; exact hok
      rw [hpl, hd]
      refine wpr_run (l₂ := []) true [3, 4] [] [(19, .bool false), (7, .int .i64 (↑pos : Int)), (10, .pointer (some ⟨g, 0, none⟩)), (1, Value.func (Fn.func 137) #[] #[]), (2, .bool true)] ([itS g l (pos + (l[pos].toNat, 1).snd)]) [] (by kernel_rfl) (by kernel_rfl) trivial ?_
      refine wpr_nil (nx_then ?_)
      refine wpc_false (by kernel_rfl) ?_
      refine wpc_skip ?_
      refine nx_block ?_
      exact fun a' w' hS' => ⟨⟨pos + 1, hlt, fun j hj => by
              rcases Nat.lt_or_ge j pos with h | h
              · exact hall j h
              · obtain rfl : j = pos := by omega
                exact hok⟩, by dsimp only; omega, ent_fr (by kernel_rfl) _ _ (ent_hp [0] rfl _ _ hS')⟩
    | false =>
      rw [dec_bad hlt hok]
      refine wpr_run (l₂ := []) true [3, 4] [] [(19, .bool true), (7, .int .i64 (↑pos : Int)), (10, .pointer (some ⟨g, 0, none⟩)), (1, Value.func (Fn.func 137) #[] #[]), (2, .bool true)] ([itS g l (pos + (Utf8.decode (mkS l) pos).snd)]) [] (by kernel_rfl) (by kernel_rfl) trivial ?_
      refine wpr_nil (nx_then ?_)
      refine wpc_true (by kernel_rfl) ?_
      refine wpc_seq ?_
      refine wpc_region [0, 1] (by kernel_rfl) ?_
      refine wpr_run (l₂ := []) true [0, 1] [] [(6, .int .i64 (↑pos : Int)), (10, .pointer (some ⟨g, 0, none⟩)), (1, Value.func (Fn.func 137) #[] #[]), (2, .bool true)] ([itS g l (pos + (Utf8.decode (mkS l) pos).snd)]) [] (by kernel_rfl) (by kernel_rfl) trivial ?_
      refine wpr_nil (nx_then ?_)
      refine wpc_ret ?_
      refine nx_block_ret ?_
      refine nx_then_ret ?_
      refine nx_block_ret ?_
      refine nx_then_ret ?_
      refine nx_end (hp' := []) (rest := ([itS g l (pos + (Utf8.decode (mkS l) pos).snd)])) [] ((.int .i64 (↑pos : Int))) (by kernel_rfl) (by kernel_rfl) (give [] (by kernel_rfl)) (by first | ((repeat (first | exact trivial | refine ⟨trivial, ?_⟩)); done) | assumption) ?_ (.inr rfl)
      refine ⟨_, rfl, ⟨fun _ => ?_, fun _ => by omega⟩, rfl⟩
      cases h : l.all okB with
      | false => rfl
      | true =>
        have h2 := List.all_eq_true.1 h l[pos] (List.getElem_mem hlt)
        rw [hok] at h2; cases h2
  · refine wpc_seq ?_
    refine wpc_region [0, 1] (by kernel_rfl) ?_
    refine wpr_eq (step_nxt_end (g := g) (l := l) (pos := pos) (dst := some 11) (by kernel_rfl) 0 rfl (by omega)) ?_
    refine wpr_run (l₂ := []) true [1] [] [(12, .bool false), (11, Value.tuple #[.bool false]), (10, .pointer (some ⟨g, 0, none⟩)), (1, Value.func (Fn.func 137) #[] #[]), (2, .bool true)] [itS g l pos] [] (by kernel_rfl) (by kernel_rfl) trivial ?_
    refine wpr_nil (nx_then (wpc_seq ?_))
    refine wpc_false (by kernel_rfl) ?_
    refine wpc_exit ?_
    refine nx_then_exit ?_
    refine nx_then_exit ?_
    refine nx_block_here ?_
    refine nx_then (wpc_seq ?_)
    refine wpc_region [0] (by kernel_rfl) ?_
    refine wpr_run (l₂ := []) true [0] [] [(6, .int .i64 (-1))] [itS g l pos] [] (by kernel_rfl) (by kernel_rfl) trivial ?_
    refine wpr_nil (nx_then ?_)
    refine wpc_ret ?_
    refine nx_end (hp' := []) (rest := [itS g l pos]) [] ((.int .i64 (-1))) (by kernel_rfl) (by kernel_rfl) (give [] (by kernel_rfl)) (by first | ((repeat (first | exact trivial | refine ⟨trivial, ?_⟩)); done) | assumption) ?_ (.inr rfl)
    refine ⟨-1, rfl, ⟨fun h => absurd h (by decide), fun h => ?_⟩, rfl⟩
    have : l.all okB = true := List.all_eq_true.2 fun x hx => by
      obtain ⟨j, hj⟩ := List.getElem?_of_mem hx
      obtain ⟨hj1, rfl⟩ := List.getElem?_eq_some_iff.1 hj
      exact hall j (by omega)
    rw [this] at h; cases h
theorem IndexFunc_spec (l : List UInt8) (hl : l.length ≤ 1048576) : Does Tryz.prog 138 [.string (mkS l), .func (.func 137) #[] #[]] [] (fun v hp' => ∃ n : Int, v = .int .i64 n ∧ (0 ≤ n ↔ l.all okB = false) ∧ hp' = []) := by
  refine fn_enter Tryz.func138 rfl 8 rfl fun w0 h0 => ?_
  refine wpc_seq ?_
  refine wpc_region [0] (by kernel_rfl) ?_
  refine wpr_run (l₂ := []) true [0] [] [(4, .int .i64 0), (0, .string (mkS l)), (1, Value.func (Fn.func 137) #[] #[])] [] [] (by kernel_rfl) (by kernel_rfl) trivial ?_
  refine wpr_nil (nx_then (wpc_seq ?_))
  refine wpc_region [0, 1, 2, 3] (by kernel_rfl) ?_
  refine wpr_run (l₂ := [2, 3]) true [0, 1] [] [(6, Value.func (Fn.func 137) #[] #[]), (5, .string (mkS l)), (4, .int .i64 0)] [] [] (by kernel_rfl) (by kernel_rfl) trivial ?_
  refine wpr_call_all (dst := some 7) (by kernel_rfl) (indexFunc_spec l hl) give_all ?_
  rintro v _ ⟨n, rfl, hn, rfl⟩
  refine wpr_run (l₂ := []) true [3] [] [(4, .int .i64 n)] [] [] (by kernel_rfl) (by kernel_rfl) trivial ?_
  refine wpr_nil (nx_then ?_)
  refine wpc_ret ?_
  refine nx_end (hp' := []) (rest := []) [] ((.int .i64 n)) (by kernel_rfl) (by kernel_rfl) give_all (by first | ((repeat (first | exact trivial | refine ⟨trivial, ?_⟩)); done) | assumption) ?_ (.inr rfl)
  exact ⟨n, rfl, hn, rfl⟩
theorem Replace_spec (g : Nat) (a : Option Addr) (c : Nat) (s : List UInt8) (hl : s.length ≤ 255) : Does Tryz.prog 140 [.pointer (some ⟨g, 0, none⟩), .string (mkS s)] [.blk g 220 [.int .u32 0, .int .i32 0, .int .u32 0, .nilIface, .slice a 6 c], row 9 1 a 6 c (pairsL.map strV)] (fun v hp' => v = .string (mkS (escL s)) ∧ hp' = []) := by
  refine fn_enter Tryz.func140 rfl 17 rfl fun w0 h0 => ?_
  refine wpc_seq ?_
  refine wpc_region [0] (by kernel_rfl) ?_
  refine wpr_run (l₂ := []) true [0] [] [(4, .string ⟨#[]⟩), (0, .pointer (some ⟨g, 0, none⟩)), (1, .string (mkS s))] [.blk g 220 [.int .u32 0, .int .i32 0, .int .u32 0, Value.nilIface, .slice a 6 c], row 9 1 a 6 c (List.map strV pairsL)] [] (by kernel_rfl) (by kernel_rfl) trivial ?_
  refine wpr_nil (nx_then (wpc_seq ?_))
  refine wpc_region [0, 1, 2, 3, 4, 5] (by kernel_rfl) ?_
  refine wpr_run (l₂ := [5]) true [0, 1, 2, 3, 4] [] [(9, Value.func (Fn.func 156) #[.pointer (some ⟨g, 0, none⟩)] #[]), (7, .pointer (some ⟨g, 0, none⟩)), (4, .string ⟨#[]⟩), (0, .pointer (some ⟨g, 0, none⟩)), (1, .string (mkS s))] [.blk g 220 [.int .u32 0, .int .i32 0, .int .u32 0, Value.nilIface, .slice a 6 c], row 9 1 a 6 c (List.map strV pairsL)] [] (by kernel_rfl) (by kernel_rfl) trivial ?_
  refine wpr_call_all (dst := some 10) (by kernel_rfl) (Do_spec g a c) give_all ?_
  rintro v _ ⟨g2, p, ta, tc, rfl, rfl⟩
  unfold repH
  obtain ⟨rc, hlen, hat, hT, hrc⟩ : ∃ rc : (Nat → Value) → Value → List Value, (∀ R t, (rc R t).length = 257) ∧ (∀ R t q, q < 256 → ((rc R t).drop (q * 1)).take 1 = [R q]) ∧ (∀ R t, ((rc R t).drop 256).take 1 = [t]) ∧ rc = repC := ⟨repC, repC_len, fun R t q h => repC_at h, fun R t => repC_t, rfl⟩
  rw [← hrc]
  refine wpr_nil (nx_then (wpc_seq ?_))
  refine wpc_region [0, 1, 2, 3, 4, 5, 6] (by kernel_rfl) ?_
  refine wpr_run (l₂ := [5, 6]) true [0, 1, 2, 3, 4] [0] [(15, .string (mkS s)), (14, Value.iface 249 (.pointer (some ⟨g2, 0, none⟩))), (4, .string ⟨#[]⟩)] [.blk g 220 [.int .u32 1, .int .i32 0, .int .u32 0, Value.iface 249 (.pointer (some ⟨g2, 0, none⟩)), .slice none 0 0], row 9 1 ta 3 tc (toRep 0), row 248 1 (some ⟨g2, 0, none⟩) 257 257 (rc (repR 0 p) (.slice ta 3 tc)), star (repRows 0 p)] [] (by kernel_rfl) (by kernel_rfl) trivial ?_
  refine wpr_ent (ent_turn 1 (ro ta (toRep 0)) rfl (turn_view view_row) rfl) ?_
  refine wpr_ent (ent_turn 2 (ro (some ⟨g2, 0, none⟩) (rc (repR 0 p) (.slice ta 3 tc))) rfl (turn_view view_row) rfl) ?_
  refine wpr_ent (ent_turn 3 (bag (repRows 0 p)) rfl (turn_view view_bag) rfl) ?_
  refine wpr_call (dst := some 16) (rest := [.blk g 220 [.int .u32 1, .int .i32 0, .int .u32 0, Value.iface 249 (.pointer (some ⟨g2, 0, none⟩)), .slice none 0 0], ro ta (toRep 0), ro (some ⟨g2, 0, none⟩) (rc (repR 0 p) (.slice ta 3 tc))]) (by kernel_rfl) (bsrReplace_spec g2 p ta tc s hl rc hlen hat hT) (Give.view (c := (ro (some ⟨g2, 0, none⟩) (rc (repR 0 p) (.slice ta 3 tc)))) (Give.view (c := (ro ta (toRep 0))) (give (pre := [bag (repRows 0 p)]) (rest := [.blk g 220 [.int .u32 1, .int .i32 0, .int .u32 0, Value.iface 249 (.pointer (some ⟨g2, 0, none⟩)), .slice none 0 0], ro ta (toRep 0), ro (some ⟨g2, 0, none⟩) (rc (repR 0 p) (.slice ta 3 tc))]) [3] (by kernel_rfl)) 1 (by kernel_rfl) view_ro) 2 (by kernel_rfl) view_ro) ?_
  rintro v _ ⟨rfl, rfl⟩
  refine wpr_run (l₂ := []) true [6] [] [(4, .string (mkS (escL s)))] [.blk g 220 [.int .u32 1, .int .i32 0, .int .u32 0, Value.iface 249 (.pointer (some ⟨g2, 0, none⟩)), .slice none 0 0], ro ta (toRep 0), ro (some ⟨g2, 0, none⟩) (rc (repR 0 p) (.slice ta 3 tc))] [] (by kernel_rfl) (by kernel_rfl) trivial ?_
  refine wpr_nil (nx_then ?_)
  refine wpc_ret ?_
  refine nx_end (hp' := []) (rest := [.blk g 220 [.int .u32 1, .int .i32 0, .int .u32 0, Value.iface 249 (.pointer (some ⟨g2, 0, none⟩)), .slice none 0 0], ro ta (toRep 0), ro (some ⟨g2, 0, none⟩) (rc (repR 0 p) (.slice ta 3 tc))]) [] ((.string (mkS (escL s)))) (by kernel_rfl) (by kernel_rfl) (give [] (by kernel_rfl)) (by first | ((repeat (first | exact trivial | refine ⟨trivial, ?_⟩)); done) | assumption) ?_ (.inr rfl)
  exact ⟨rfl, rfl⟩
/-- May a text be written; how it is written. -/
def plainB (s : List UInt8) : Bool := decide (s.length ≤ 255) && s.all okB
def quoL (s : List UInt8) : List UInt8 := [34] ++ escL s ++ [34]
theorem quote_spec (s : List UInt8) (hl : s.length ≤ 1048576) : Does Tryz.prog 99 [.string (mkS s)] [] (fun v hp' => v = .tuple #[.string (mkS (if plainB s then quoL s else [])), .bool (plainB s)] ∧ hp' = []) := by
  unfold plainB
  have hEl := escL_len s
  have hsl : spN s ≤ s.length := List.countP_le_length
  by_cases h255 : s.length ≤ 255
  · rw [decide_eq_true h255, Bool.true_and]
    refine fn_enter Tryz.func99 rfl 20 rfl fun w0 h0 => ?_
    refine wpc_seq ?_
    refine wpc_region [0, 1] (by kernel_rfl) ?_
    refine wpr_run (l₂ := []) true [0, 1] [] [(3, .bool false), (2, .string ⟨#[]⟩), (0, .string (mkS s))] [] [] (by kernel_rfl) (by kernel_rfl) trivial ?_
    refine wpr_nil (nx_then (wpc_seq ?_))
    refine wpc_region [0] (by kernel_rfl) ?_
    refine wpr_run (l₂ := []) true [0] [] [(4, Value.func (Fn.func 137) #[] #[]), (3, .bool false), (2, .string ⟨#[]⟩), (0, .string (mkS s))] [] [] (by kernel_rfl) (by kernel_rfl) trivial ?_
    refine wpr_nil (nx_then (wpc_seq (wpc_seq ?_)))
    refine wpc_region [0, 1, 2, 3, 4, 5, 6, 7, 8] (by kernel_rfl) ?_
    refine wpr_run (l₂ := [4, 5, 6, 7, 8]) true [0, 1, 2, 3] [] [(8, .bool (decide ((↑s.length : Int) > 255))), (4, Value.func (Fn.func 137) #[] #[]), (3, .bool false), (2, .string ⟨#[]⟩), (0, .string (mkS s))] [] [] (by kernel_rfl) (by kernel_rfl) trivial ?_
    refine wpr_ent (ent_set 8 (.bool (decide ((↑s.length : Int) > 255))) (.bool false) (by kernel_rfl) (congrArg _ (decide_eq_false (by omega)))) ?_
    refine wpr_run (l₂ := [6, 7, 8]) true [4, 5] [] [(10, Value.func (Fn.func 137) #[] #[]), (9, .string (mkS s)), (8, .bool false), (3, .bool false), (2, .string ⟨#[]⟩), (0, .string (mkS s))] [] [] (by kernel_rfl) (by kernel_rfl) trivial ?_
    refine wpr_call_all (dst := some 11) (by kernel_rfl) (IndexFunc_spec s hl) give_all ?_
    rintro v _ ⟨n, rfl, hn, rfl⟩
    cases hall : s.all okB with
    | false =>
      have hn0 : 0 ≤ n := hn.2 hall
      refine wpr_run (l₂ := []) true [7, 8] [] [(13, .bool (decide (n ≥ 0))), (3, .bool false), (2, .string ⟨#[]⟩), (0, .string (mkS s))] [] [] (by kernel_rfl) (by kernel_rfl) trivial ?_
      refine wpr_nil (nx_then ?_)
      refine wpc_ent (ent_set 13 (.bool (decide (n ≥ 0))) (.bool true) (by kernel_rfl) (congrArg _ (decide_eq_true (by omega)))) ?_
      refine wpc_true (by kernel_rfl) ?_
      refine wpc_seq ?_
      refine wpc_region [0, 1] (by kernel_rfl) ?_
      refine wpr_run (l₂ := []) true [0, 1] [] [(3, .bool false), (2, .string ⟨#[]⟩), (0, .string (mkS s))] [] [] (by kernel_rfl) (by kernel_rfl) trivial ?_
      refine wpr_nil (nx_then ?_)
      refine wpc_ret ?_
      refine nx_then_ret ?_
      refine nx_end (hp' := []) (rest := []) [] ((Value.tuple #[.string ⟨#[]⟩, .bool false])) (by kernel_rfl) (by kernel_rfl) give_all (by first | ((repeat (first | exact trivial | refine ⟨trivial, ?_⟩)); done) | assumption) ?_ (.inr rfl)
      exact ⟨rfl, rfl⟩
    | true =>
      have hn0 : ¬ 0 ≤ n := fun h => by have := hn.1 h; rw [hall] at this; cases this
      refine wpr_run (l₂ := []) true [7, 8] [] [(13, .bool (decide (n ≥ 0))), (3, .bool false), (2, .string ⟨#[]⟩), (0, .string (mkS s))] [] [] (by kernel_rfl) (by kernel_rfl) trivial ?_
      refine wpr_nil (nx_then ?_)
      refine wpc_ent (ent_set 13 (.bool (decide (n ≥ 0))) (.bool false) (by kernel_rfl) (congrArg _ (decide_eq_false (by omega)))) ?_
      refine wpc_false (by kernel_rfl) ?_
      refine wpc_skip ?_
      refine nx_then (wpc_seq ?_)
      refine wpc_region [0, 1, 2, 3, 4, 5, 6, 7] (by kernel_rfl) ?_
      refine wpr_new (l₂ := [1, 2, 3, 4, 5, 6, 7]) true [0] [] (fun g1 => [(14, .slice (some ⟨g1, 0, none⟩) 6 6), (3, .bool false), (2, .string ⟨#[]⟩), (0, .string (mkS s))]) (fun g1 => [.blk g1 9 [.string { data := #[92] }, .string { data := #[92, 92] }, .string { data := #[34] }, .string { data := #[92, 34] }, .string { data := #[10] }, .string { data := #[92, 110] }]]) (fun g1 => []) (fun g1 => by kernel_rfl) (fun g1 => by kernel_rfl) (fun g1 => trivial) fun g1 => ?_
      refine wpr_ent (ent_turn (c := .blk g1 9 (pairsL.map strV)) 0 (ro (some ⟨g1, 0, none⟩) (pairsL.map strV)) (by kernel_rfl) (turn_rblk (by intro u hu; obtain ⟨x, _, rfl⟩ := List.mem_map.1 hu; rfl)) rfl) ?_
      refine wpr_call (dst := some 15) (rest := [ro (some ⟨g1, 0, none⟩) (List.map strV pairsL)]) (by kernel_rfl) (NewReplacer_spec g1) (Give.view (c := (ro (some ⟨g1, 0, none⟩) (List.map strV pairsL))) (give (pre := []) (rest := [ro (some ⟨g1, 0, none⟩) (List.map strV pairsL)]) [] (by kernel_rfl)) 0 (by kernel_rfl) view_ro) ?_
      rintro v _ ⟨g, a, c, rfl, rfl⟩
      refine wpr_run (l₂ := [3, 4, 5, 6, 7]) true [2] [] [(16, .string (mkS s)), (15, .pointer (some ⟨g, 0, none⟩)), (3, .bool false), (2, .string ⟨#[]⟩)] [.blk g 220 [.int .u32 0, .int .i32 0, .int .u32 0, Value.nilIface, .slice a 6 c], row 9 1 a 6 c (List.map strV pairsL), ro (some ⟨g1, 0, none⟩) (List.map strV pairsL)] [] (by kernel_rfl) (by kernel_rfl) trivial ?_
      refine wpr_call (dst := some 17) (rest := [ro (some ⟨g1, 0, none⟩) (List.map strV pairsL)]) (by kernel_rfl) (Replace_spec g a c s h255) (give [0, 0] (by kernel_rfl)) ?_
      rintro v _ ⟨rfl, rfl⟩
      have hEl2 : (escL s).length ≤ 510 := by omega
      have hs34 : (ByteArray.mk #[34]).size = 1 := rfl
      have hs35 : (([34] : List UInt8) ++ escL s).length = (escL s).length + 1 := by simp
      have hs36 : (mkS (([34] : List UInt8) ++ escL s)).size = (escL s).length + 1 := by rw [mkS_size]; exact hs35
      refine wpr_run (l₂ := []) true [4, 5, 6, 7] [] ([(3, .bool true), (2, .string (mkS ([34] ++ escL s ++ [34])))]) [ro (some ⟨g1, 0, none⟩) (List.map strV pairsL)] ([(ByteArray.mk #[(34 : UInt8)]).size + (escL s).length ≤ (9223372036854775807 : Nat), ([(34 : UInt8)] ++ escL s).length + (ByteArray.mk #[(34 : UInt8)]).size ≤ (9223372036854775807 : Nat)]) (by kernel_rfl) (by kernel_rfl) ⟨by first | omega | decide | (simp; done), by first | omega | decide | (simp; done), trivial⟩ ?_
      refine wpr_nil (nx_then ?_)
      refine wpc_ret ?_
      refine nx_end (hp' := []) (rest := [ro (some ⟨g1, 0, none⟩) (List.map strV pairsL)]) [] ((Value.tuple #[.string (mkS ([34] ++ escL s ++ [34])), .bool true])) (by kernel_rfl) (by kernel_rfl) (give [] (by kernel_rfl)) (by first | ((repeat (first | exact trivial | refine ⟨trivial, ?_⟩)); done) | assumption) ?_ (.inr rfl)
      exact ⟨rfl, rfl⟩
  · rw [decide_eq_false h255]
    refine fn_enter Tryz.func99 rfl 20 rfl fun w0 h0 => ?_
    refine wpc_seq ?_
    refine wpc_region [0, 1] (by kernel_rfl) ?_
    refine wpr_run (l₂ := []) true [0, 1] [] [(3, .bool false), (2, .string ⟨#[]⟩), (0, .string (mkS s))] [] [] (by kernel_rfl) (by kernel_rfl) trivial ?_
    refine wpr_nil (nx_then (wpc_seq ?_))
    refine wpc_region [0] (by kernel_rfl) ?_
    refine wpr_run (l₂ := []) true [0] [] [(4, Value.func (Fn.func 137) #[] #[]), (3, .bool false), (2, .string ⟨#[]⟩), (0, .string (mkS s))] [] [] (by kernel_rfl) (by kernel_rfl) trivial ?_
    refine wpr_nil (nx_then (wpc_seq (wpc_seq ?_)))
    refine wpc_region [0, 1, 2, 3, 4, 5, 6, 7, 8] (by kernel_rfl) ?_
    refine wpr_run (l₂ := [4, 5, 6, 7, 8]) true [0, 1, 2, 3] [] [(8, .bool (decide ((↑s.length : Int) > 255))), (4, Value.func (Fn.func 137) #[] #[]), (3, .bool false), (2, .string ⟨#[]⟩), (0, .string (mkS s))] [] [] (by kernel_rfl) (by kernel_rfl) trivial ?_
    refine wpr_ent (ent_set 8 (.bool (decide ((↑s.length : Int) > 255))) (.bool true) (by kernel_rfl) (congrArg _ (decide_eq_true (by omega)))) ?_
    refine wpr_run (l₂ := []) true [4, 5, 6, 7, 8] [] [(13, .bool true), (3, .bool false), (2, .string ⟨#[]⟩), (0, .string (mkS s))] [] [] (by kernel_rfl) (by kernel_rfl) trivial ?_
    refine wpr_nil (nx_then ?_)
    refine wpc_true (by kernel_rfl) ?_
    refine wpc_seq ?_
    refine wpc_region [0, 1] (by kernel_rfl) ?_
    refine wpr_run (l₂ := []) true [0, 1] [] [(3, .bool false), (2, .string ⟨#[]⟩), (0, .string (mkS s))] [] [] (by kernel_rfl) (by kernel_rfl) trivial ?_
    refine wpr_nil (nx_then ?_)
    refine wpc_ret ?_
    refine nx_then_ret ?_
    refine nx_end (hp' := []) (rest := []) [] ((Value.tuple #[.string ⟨#[]⟩, .bool false])) (by kernel_rfl) (by kernel_rfl) give_all (by first | ((repeat (first | exact trivial | refine ⟨trivial, ?_⟩)); done) | assumption) ?_ (.inr rfl)
    exact ⟨rfl, rfl⟩
def tokV (k : Int) (s : List UInt8) : Value := .agg #[.int .i64 k, .string (mkS s), .int .i64 0, .int .i64 0, .int .i64 0]
theorem TextStr_spec (s : List UInt8) (hl : s.length ≤ 1048576) : Does Tryz.prog 56 [tokV 3 s] [] (fun v hp' => v = .tuple #[.string (mkS (if plainB s then quoL s else [])), .int .i64 (if plainB s then 0 else 2)] ∧ hp' = []) := by
  unfold tokV
  refine fn_enter Tryz.func56 rfl 80 rfl fun w0 h0 => ?_
  refine wpc_seq ?_
  refine wpc_region [0, 1, 2] (by kernel_rfl) ?_
  refine wpr_new (l₂ := [1, 2]) true [0] [] (fun g1 => [(1, .pointer (some ⟨g1, 0, none⟩))]) (fun g1 => [.blk g1 111 [.int .i64 3, .string (mkS s), .int .i64 0, .int .i64 0, .int .i64 0]]) (fun g1 => []) (fun g1 => by kernel_rfl) (fun g1 => by kernel_rfl) (fun g1 => trivial) fun g1 => ?_
  refine wpr_run (l₂ := []) true [1, 2] [] [(3, .int .i64 0), (2, .string ⟨#[]⟩), (1, .pointer (some ⟨g1, 0, none⟩))] [.blk g1 111 [.int .i64 3, .string (mkS s), .int .i64 0, .int .i64 0, .int .i64 0]] [] (by kernel_rfl) (by kernel_rfl) trivial ?_
  refine wpr_nil (nx_then (wpc_seq ?_))
  refine wpc_region [0, 1, 2, 3] (by kernel_rfl) ?_
  refine wpr_run (l₂ := []) true [0, 1, 2, 3] [0] [(5, .bool false), (4, .string (mkS s)), (3, .int .i64 0), (2, .string ⟨#[]⟩), (1, .pointer (some ⟨g1, 0, none⟩))] [.blk g1 111 [.int .i64 3, .string (mkS s), .int .i64 0, .int .i64 0, .int .i64 0]] [] (by kernel_rfl) (by kernel_rfl) trivial ?_
  refine wpr_nil (nx_then (wpc_seq (wpc_seq ?_)))
  refine wpc_region [0, 1] (by kernel_rfl) ?_
  refine wpr_run (l₂ := []) true [0, 1] [0] [(9, .int .i64 3), (5, .bool false), (4, .string (mkS s)), (3, .int .i64 0), (2, .string ⟨#[]⟩), (1, .pointer (some ⟨g1, 0, none⟩))] [.blk g1 111 [.int .i64 3, .string (mkS s), .int .i64 0, .int .i64 0, .int .i64 0]] [] (by kernel_rfl) (by kernel_rfl) trivial ?_
  refine wpr_nil (nx_then ?_)
  refine wpc_block ?_
  refine wpc_seq ?_
  refine wpc_region [0, 1] (by kernel_rfl) ?_
  refine wpr_run (l₂ := []) true [0, 1] [] [(10, .bool false), (9, .int .i64 3), (5, .bool false), (4, .string (mkS s)), (3, .int .i64 0), (2, .string ⟨#[]⟩), (1, .pointer (some ⟨g1, 0, none⟩))] [.blk g1 111 [.int .i64 3, .string (mkS s), .int .i64 0, .int .i64 0, .int .i64 0]] [] (by kernel_rfl) (by kernel_rfl) trivial ?_
  refine wpr_nil (nx_then ?_)
  refine wpc_false (by kernel_rfl) ?_
  refine wpc_seq ?_
  refine wpc_region [0, 1] (by kernel_rfl) ?_
  refine wpr_run (l₂ := []) true [0, 1] [] [(19, .bool false), (9, .int .i64 3), (5, .bool false), (4, .string (mkS s)), (3, .int .i64 0), (2, .string ⟨#[]⟩), (1, .pointer (some ⟨g1, 0, none⟩))] [.blk g1 111 [.int .i64 3, .string (mkS s), .int .i64 0, .int .i64 0, .int .i64 0]] [] (by kernel_rfl) (by kernel_rfl) trivial ?_
  refine wpr_nil (nx_then ?_)
  refine wpc_false (by kernel_rfl) ?_
  refine wpc_seq ?_
  refine wpc_region [0, 1] (by kernel_rfl) ?_
  refine wpr_run (l₂ := []) true [0, 1] [] [(28, .bool false), (9, .int .i64 3), (5, .bool false), (4, .string (mkS s)), (3, .int .i64 0), (2, .string ⟨#[]⟩), (1, .pointer (some ⟨g1, 0, none⟩))] [.blk g1 111 [.int .i64 3, .string (mkS s), .int .i64 0, .int .i64 0, .int .i64 0]] [] (by kernel_rfl) (by kernel_rfl) trivial ?_
  refine wpr_nil (nx_then ?_)
  refine wpc_false (by kernel_rfl) ?_
  refine wpc_seq ?_
  refine wpc_region [0, 1] (by kernel_rfl) ?_
  refine wpr_run (l₂ := []) true [0, 1] [] [(43, .bool false), (9, .int .i64 3), (5, .bool false), (4, .string (mkS s)), (3, .int .i64 0), (2, .string ⟨#[]⟩), (1, .pointer (some ⟨g1, 0, none⟩))] [.blk g1 111 [.int .i64 3, .string (mkS s), .int .i64 0, .int .i64 0, .int .i64 0]] [] (by kernel_rfl) (by kernel_rfl) trivial ?_
  refine wpr_nil (nx_then ?_)
  refine wpc_false (by kernel_rfl) ?_
  refine wpc_seq ?_
  refine wpc_region [0, 1] (by kernel_rfl) ?_
  refine wpr_run (l₂ := []) true [0, 1] [] [(52, .bool false), (9, .int .i64 3), (5, .bool false), (4, .string (mkS s)), (3, .int .i64 0), (2, .string ⟨#[]⟩), (1, .pointer (some ⟨g1, 0, none⟩))] [.blk g1 111 [.int .i64 3, .string (mkS s), .int .i64 0, .int .i64 0, .int .i64 0]] [] (by kernel_rfl) (by kernel_rfl) trivial ?_
  refine wpr_nil (nx_then ?_)
  refine wpc_false (by kernel_rfl) ?_
  refine wpc_seq ?_
  refine wpc_region [0, 1] (by kernel_rfl) ?_
  refine wpr_run (l₂ := []) true [0, 1] [] [(64, .bool true), (5, .bool false), (4, .string (mkS s)), (3, .int .i64 0), (2, .string ⟨#[]⟩), (1, .pointer (some ⟨g1, 0, none⟩))] [.blk g1 111 [.int .i64 3, .string (mkS s), .int .i64 0, .int .i64 0, .int .i64 0]] [] (by kernel_rfl) (by kernel_rfl) trivial ?_
  refine wpr_nil (nx_then ?_)
  refine wpc_true (by kernel_rfl) ?_
  refine wpc_seq ?_
  refine wpc_region [0, 1, 2, 3, 4, 5, 6] (by kernel_rfl) ?_
  refine wpr_run (l₂ := [1, 2, 3, 4, 5, 6]) true [0] [] [(67, .string (mkS s)), (5, .bool false), (4, .string (mkS s)), (3, .int .i64 0), (2, .string ⟨#[]⟩), (1, .pointer (some ⟨g1, 0, none⟩))] [.blk g1 111 [.int .i64 3, .string (mkS s), .int .i64 0, .int .i64 0, .int .i64 0]] [] (by kernel_rfl) (by kernel_rfl) trivial ?_
  refine wpr_call (dst := some 68) (rest := [.blk g1 111 [.int .i64 3, .string (mkS s), .int .i64 0, .int .i64 0, .int .i64 0]]) (by kernel_rfl) (quote_spec s hl) (give [] (by kernel_rfl)) ?_
  rintro v _ ⟨rfl, rfl⟩
  cases hp : plainB s with
  | true =>
    refine wpr_run (l₂ := []) true [2, 3, 4, 5, 6] [] [(5, .bool true), (4, .string (mkS (if true = true then quoL s else []))), (3, .int .i64 0), (2, .string ⟨#[]⟩), (1, .pointer (some ⟨g1, 0, none⟩))] [.blk g1 111 [.int .i64 3, .string (mkS s), .int .i64 0, .int .i64 0, .int .i64 0]] [] (by kernel_rfl) (by kernel_rfl) trivial ?_
    refine wpr_nil (nx_then ?_)
    refine wpc_region [0, 1, 2, 3, 4, 5, 6] (by kernel_rfl) ?_
    refine wpr_run (l₂ := []) true [0, 1, 2, 3, 4, 5, 6] [0] [(5, .bool true), (4, .string (mkS (if true = true then quoL s else []))), (3, .int .i64 0), (2, .string ⟨#[]⟩)] [.blk g1 111 [.int .i64 3, .string (mkS s), .int .i64 0, .int .i64 0, .int .i64 0]] [] (by kernel_rfl) (by kernel_rfl) trivial ?_
    refine wpr_nil (nx_block (nx_then (wpc_seq (wpc_seq ?_))))
    refine wpc_region [0, 1] (by kernel_rfl) ?_
    refine wpr_run (l₂ := []) true [0, 1] [] [(78, .bool false), (4, .string (mkS (if true = true then quoL s else []))), (3, .int .i64 0), (2, .string ⟨#[]⟩)] [.blk g1 111 [.int .i64 3, .string (mkS s), .int .i64 0, .int .i64 0, .int .i64 0]] [] (by kernel_rfl) (by kernel_rfl) trivial ?_
    refine wpr_nil (nx_then ?_)
    refine wpc_false (by kernel_rfl) ?_
    refine wpc_skip ?_
    refine nx_then (wpc_seq ?_)
    refine wpc_region [0, 1, 2] (by kernel_rfl) ?_
    refine wpr_run (l₂ := []) true [0, 1, 2] [] [(3, .int .i64 0), (2, .string (mkS (if true = true then quoL s else [])))] [.blk g1 111 [.int .i64 3, .string (mkS s), .int .i64 0, .int .i64 0, .int .i64 0]] [] (by kernel_rfl) (by kernel_rfl) trivial ?_
    refine wpr_nil (nx_then ?_)
    refine wpc_ret ?_
    refine nx_end (hp' := []) (rest := [.blk g1 111 [.int .i64 3, .string (mkS s), .int .i64 0, .int .i64 0, .int .i64 0]]) [] ((Value.tuple #[.string (mkS (if true = true then quoL s else [])), .int .i64 0])) (by kernel_rfl) (by kernel_rfl) (give [] (by kernel_rfl)) (by first | ((repeat (first | exact trivial | refine ⟨trivial, ?_⟩)); done) | assumption) ?_ (.inr rfl)
    exact ⟨rfl, rfl⟩
  | false =>
    refine wpr_run (l₂ := []) true [2, 3, 4, 5, 6] [] [(5, .bool false), (4, .string (mkS (if false = true then quoL s else []))), (3, .int .i64 0), (2, .string ⟨#[]⟩), (1, .pointer (some ⟨g1, 0, none⟩))] [.blk g1 111 [.int .i64 3, .string (mkS s), .int .i64 0, .int .i64 0, .int .i64 0]] [] (by kernel_rfl) (by kernel_rfl) trivial ?_
    refine wpr_nil (nx_then ?_)
    refine wpc_region [0, 1, 2, 3, 4, 5, 6] (by kernel_rfl) ?_
    refine wpr_run (l₂ := []) true [0, 1, 2, 3, 4, 5, 6] [] [(5, .bool false), (4, .string (mkS (if false = true then quoL s else []))), (3, .int .i64 0), (2, .string ⟨#[]⟩)] [.blk g1 111 [.int .i64 3, .string (mkS s), .int .i64 0, .int .i64 0, .int .i64 0]] [] (by kernel_rfl) (by kernel_rfl) trivial ?_
    refine wpr_nil (nx_block (nx_then (wpc_seq (wpc_seq ?_))))
    refine wpc_region [0, 1] (by kernel_rfl) ?_
    refine wpr_run (l₂ := []) true [0, 1] [] [(78, .bool true), (4, .string (mkS (if false = true then quoL s else []))), (3, .int .i64 0), (2, .string ⟨#[]⟩)] [.blk g1 111 [.int .i64 3, .string (mkS s), .int .i64 0, .int .i64 0, .int .i64 0]] [] (by kernel_rfl) (by kernel_rfl) trivial ?_
    refine wpr_nil (nx_then ?_)
    refine wpc_true (by kernel_rfl) ?_
    refine wpc_seq ?_
    refine wpc_region [0, 1] (by kernel_rfl) ?_
    refine wpr_run (l₂ := []) true [0, 1] [] [(3, .int .i64 2), (2, .string ⟨#[]⟩), (4, .string (mkS (if false = true then quoL s else [])))] [.blk g1 111 [.int .i64 3, .string (mkS s), .int .i64 0, .int .i64 0, .int .i64 0]] [] (by kernel_rfl) (by kernel_rfl) trivial ?_
    refine wpr_nil (nx_then ?_)
    refine wpc_ret ?_
    refine nx_then_ret ?_
    refine nx_end (hp' := []) (rest := [.blk g1 111 [.int .i64 3, .string (mkS s), .int .i64 0, .int .i64 0, .int .i64 0]]) [] ((Value.tuple #[.string ⟨#[]⟩, .int .i64 2])) (by kernel_rfl) (by kernel_rfl) (give [] (by kernel_rfl)) (by first | ((repeat (first | exact trivial | refine ⟨trivial, ?_⟩)); done) | assumption) ?_ (.inr rfl)
    exact ⟨rfl, rfl⟩
theorem TextName_spec (s : List UInt8) (hl : s.length ≤ 1048576) : Does Tryz.prog 56 [tokV 1 s] [gWords] (fun v hp' => v = .tuple #[.string (mkS (if nameB s then s else [])), .int .i64 (if nameB s then 0 else 2)] ∧ hp' = []) := by
  unfold tokV
  refine fn_enter Tryz.func56 rfl 80 rfl fun w0 h0 => ?_
  refine wpc_seq ?_
  refine wpc_region [0, 1, 2] (by kernel_rfl) ?_
  refine wpr_new (l₂ := [1, 2]) true [0] [] (fun g1 => [(1, .pointer (some ⟨g1, 0, none⟩))]) (fun g1 => [gWords, .blk g1 111 [.int .i64 1, .string (mkS s), .int .i64 0, .int .i64 0, .int .i64 0]]) (fun g1 => []) (fun g1 => by kernel_rfl) (fun g1 => by kernel_rfl) (fun g1 => trivial) fun g1 => ?_
  refine wpr_run (l₂ := []) true [1, 2] [] [(3, .int .i64 0), (2, .string ⟨#[]⟩), (1, .pointer (some ⟨g1, 0, none⟩))] [gWords, .blk g1 111 [.int .i64 1, .string (mkS s), .int .i64 0, .int .i64 0, .int .i64 0]] [] (by kernel_rfl) (by kernel_rfl) trivial ?_
  refine wpr_nil (nx_then (wpc_seq ?_))
  refine wpc_region [0, 1, 2, 3] (by kernel_rfl) ?_
  refine wpr_run (l₂ := []) true [0, 1, 2, 3] [1] [(5, .bool false), (4, .string (mkS s)), (3, .int .i64 0), (2, .string ⟨#[]⟩), (1, .pointer (some ⟨g1, 0, none⟩))] [gWords, .blk g1 111 [.int .i64 1, .string (mkS s), .int .i64 0, .int .i64 0, .int .i64 0]] [] (by kernel_rfl) (by kernel_rfl) trivial ?_
  refine wpr_nil (nx_then (wpc_seq (wpc_seq ?_)))
  refine wpc_region [0, 1] (by kernel_rfl) ?_
  refine wpr_run (l₂ := []) true [0, 1] [1] [(9, .int .i64 1), (5, .bool false), (4, .string (mkS s)), (3, .int .i64 0), (2, .string ⟨#[]⟩), (1, .pointer (some ⟨g1, 0, none⟩))] [gWords, .blk g1 111 [.int .i64 1, .string (mkS s), .int .i64 0, .int .i64 0, .int .i64 0]] [] (by kernel_rfl) (by kernel_rfl) trivial ?_
  refine wpr_nil (nx_then ?_)
  refine wpc_block ?_
  refine wpc_seq ?_
  refine wpc_region [0, 1] (by kernel_rfl) ?_
  refine wpr_run (l₂ := []) true [0, 1] [] [(10, .bool false), (9, .int .i64 1), (5, .bool false), (4, .string (mkS s)), (3, .int .i64 0), (2, .string ⟨#[]⟩), (1, .pointer (some ⟨g1, 0, none⟩))] [gWords, .blk g1 111 [.int .i64 1, .string (mkS s), .int .i64 0, .int .i64 0, .int .i64 0]] [] (by kernel_rfl) (by kernel_rfl) trivial ?_
  refine wpr_nil (nx_then ?_)
  refine wpc_false (by kernel_rfl) ?_
  refine wpc_seq ?_
  refine wpc_region [0, 1] (by kernel_rfl) ?_
  refine wpr_run (l₂ := []) true [0, 1] [] [(19, .bool true), (9, .int .i64 1), (5, .bool false), (4, .string (mkS s)), (3, .int .i64 0), (2, .string ⟨#[]⟩), (1, .pointer (some ⟨g1, 0, none⟩))] [gWords, .blk g1 111 [.int .i64 1, .string (mkS s), .int .i64 0, .int .i64 0, .int .i64 0]] [] (by kernel_rfl) (by kernel_rfl) trivial ?_
  refine wpr_nil (nx_then ?_)
  refine wpc_true (by kernel_rfl) ?_
  refine wpc_region [0, 1, 2, 3, 4, 5, 6, 7] (by kernel_rfl) ?_
  refine wpr_run (l₂ := [1, 2, 3, 4, 5, 6, 7]) true [0] [] [(21, .string (mkS s)), (5, .bool false), (4, .string (mkS s)), (3, .int .i64 0), (2, .string ⟨#[]⟩), (1, .pointer (some ⟨g1, 0, none⟩))] [gWords, .blk g1 111 [.int .i64 1, .string (mkS s), .int .i64 0, .int .i64 0, .int .i64 0]] [] (by kernel_rfl) (by kernel_rfl) trivial ?_
  refine wpr_call (dst := some 22) (rest := [.blk g1 111 [.int .i64 1, .string (mkS s), .int .i64 0, .int .i64 0, .int .i64 0]]) (by kernel_rfl) (name_spec s hl) (give [0] (by kernel_rfl)) ?_
  rintro v _ ⟨rfl, rfl⟩
  cases hp : nameB s with
  | true =>
    refine wpr_run (l₂ := []) true [2, 3, 4, 5, 6, 7] [0] [(5, .bool true), (4, .string (mkS s)), (3, .int .i64 0), (2, .string ⟨#[]⟩)] [.blk g1 111 [.int .i64 1, .string (mkS s), .int .i64 0, .int .i64 0, .int .i64 0]] [] (by kernel_rfl) (by kernel_rfl) trivial ?_
    refine wpr_nil (nx_block (nx_then (wpc_seq (wpc_seq ?_))))
    refine wpc_region [0, 1] (by kernel_rfl) ?_
    refine wpr_run (l₂ := []) true [0, 1] [] [(78, .bool false), (4, .string (mkS s)), (3, .int .i64 0), (2, .string ⟨#[]⟩)] [.blk g1 111 [.int .i64 1, .string (mkS s), .int .i64 0, .int .i64 0, .int .i64 0]] [] (by kernel_rfl) (by kernel_rfl) trivial ?_
    refine wpr_nil (nx_then ?_)
    refine wpc_false (by kernel_rfl) ?_
    refine wpc_skip ?_
    refine nx_then (wpc_seq ?_)
    refine wpc_region [0, 1, 2] (by kernel_rfl) ?_
    refine wpr_run (l₂ := []) true [0, 1, 2] [] [(3, .int .i64 0), (2, .string (mkS s))] [.blk g1 111 [.int .i64 1, .string (mkS s), .int .i64 0, .int .i64 0, .int .i64 0]] [] (by kernel_rfl) (by kernel_rfl) trivial ?_
    refine wpr_nil (nx_then ?_)
    refine wpc_ret ?_
    refine nx_end (hp' := []) (rest := [.blk g1 111 [.int .i64 1, .string (mkS s), .int .i64 0, .int .i64 0, .int .i64 0]]) [] ((Value.tuple #[.string (mkS s), .int .i64 0])) (by kernel_rfl) (by kernel_rfl) (give [] (by kernel_rfl)) (by first | ((repeat (first | exact trivial | refine ⟨trivial, ?_⟩)); done) | assumption) ?_ (.inr rfl)
    exact ⟨rfl, rfl⟩
  | false =>
    refine wpr_run (l₂ := []) true [2, 3, 4, 5, 6, 7] [] [(5, .bool false), (4, .string (mkS s)), (3, .int .i64 0), (2, .string ⟨#[]⟩)] [.blk g1 111 [.int .i64 1, .string (mkS s), .int .i64 0, .int .i64 0, .int .i64 0]] [] (by kernel_rfl) (by kernel_rfl) trivial ?_
    refine wpr_nil (nx_block (nx_then (wpc_seq (wpc_seq ?_))))
    refine wpc_region [0, 1] (by kernel_rfl) ?_
    refine wpr_run (l₂ := []) true [0, 1] [] [(78, .bool true), (4, .string (mkS s)), (3, .int .i64 0), (2, .string ⟨#[]⟩)] [.blk g1 111 [.int .i64 1, .string (mkS s), .int .i64 0, .int .i64 0, .int .i64 0]] [] (by kernel_rfl) (by kernel_rfl) trivial ?_
    refine wpr_nil (nx_then ?_)
    refine wpc_true (by kernel_rfl) ?_
    refine wpc_seq ?_
    refine wpc_region [0, 1] (by kernel_rfl) ?_
    refine wpr_run (l₂ := []) true [0, 1] [] [(3, .int .i64 2), (2, .string ⟨#[]⟩), (4, .string (mkS s))] [.blk g1 111 [.int .i64 1, .string (mkS s), .int .i64 0, .int .i64 0, .int .i64 0]] [] (by kernel_rfl) (by kernel_rfl) trivial ?_
    refine wpr_nil (nx_then ?_)
    refine wpc_ret ?_
    refine nx_then_ret ?_
    refine nx_end (hp' := []) (rest := [.blk g1 111 [.int .i64 1, .string (mkS s), .int .i64 0, .int .i64 0, .int .i64 0]]) [] ((Value.tuple #[.string ⟨#[]⟩, .int .i64 2])) (by kernel_rfl) (by kernel_rfl) (give [] (by kernel_rfl)) (by first | ((repeat (first | exact trivial | refine ⟨trivial, ?_⟩)); done) | assumption) ?_ (.inr rfl)
    exact ⟨rfl, rfl⟩
end Go.Proofs.YtpfhleghgkeemaaGreatDoor
