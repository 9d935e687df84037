import Derived.Test.YtpfhleghgkeemaaGreatDoorH2
import Derived.Test.YtpfhleghgkeemaaGreatDoorX16
namespace Go.Proofs.YtpfhleghgkeemaaGreatDoor
open Go Go.Sx
set_option linter.unusedSimpArgs false

theorem rWords_spec : Does Tryz.prog 142 [] [] (fun v hp' => ∃ g, v = .slice (some ⟨g, 0, none⟩) 10 10 ∧ hp' = [.blk g 9 (wordsL.map strV)]) := by
  refine fn_enter Tryz.func142 rfl 2 rfl fun w0 h0 => ?_
  refine wpc_seq ?_
  refine wpc_region [0] (by kernel_rfl) ?_
  refine wpr_run (l₂ := []) true [0] [] [(0, .slice none 0 0)] [] [] (by kernel_rfl) (by kernel_rfl) trivial ?_
  refine wpr_nil (nx_then (wpc_seq ?_))
  refine wpc_region [0, 1] (by kernel_rfl) ?_
  refine wpr_new (l₂ := [1]) true [0] [] (fun g1 => [(1, .slice (some ⟨g1, 0, none⟩) 10 10), (0, .slice none 0 0)]) (fun g1 => [.blk g1 9 [.string { data := #[102, 110] }, .string { data := #[114, 101, 99, 111, 114, 100] }, .string { data := #[108, 101, 116] }, .string { data := #[105, 102] }, .string { data := #[101, 108, 115, 101] }, .string { data := #[119, 104, 105, 108, 101] }, .string { data := #[114, 101, 116, 117, 114, 110] }, .string { data := #[110, 101, 119] }, .string { data := #[116, 114, 117, 101] }, .string { data := #[102, 97, 108, 115, 101] }]]) (fun g1 => []) (fun g1 => by kernel_rfl) (fun g1 => by kernel_rfl) (fun g1 => trivial) fun g1 => ?_
  refine wpr_run (l₂ := []) true [1] [] [(0, .slice (some ⟨g1, 0, none⟩) 10 10)] [.blk g1 9 [.string { data := #[102, 110] }, .string { data := #[114, 101, 99, 111, 114, 100] }, .string { data := #[108, 101, 116] }, .string { data := #[105, 102] }, .string { data := #[101, 108, 115, 101] }, .string { data := #[119, 104, 105, 108, 101] }, .string { data := #[114, 101, 116, 117, 114, 110] }, .string { data := #[110, 101, 119] }, .string { data := #[116, 114, 117, 101] }, .string { data := #[102, 97, 108, 115, 101] }]] [] (by kernel_rfl) (by kernel_rfl) trivial ?_
  refine wpr_nil (nx_then ?_)
  refine wpc_ret ?_
  refine nx_end (hp' := [.blk g1 9 [.string { data := #[102, 110] }, .string { data := #[114, 101, 99, 111, 114, 100] }, .string { data := #[108, 101, 116] }, .string { data := #[105, 102] }, .string { data := #[101, 108, 115, 101] }, .string { data := #[119, 104, 105, 108, 101] }, .string { data := #[114, 101, 116, 117, 114, 110] }, .string { data := #[110, 101, 119] }, .string { data := #[116, 114, 117, 101] }, .string { data := #[102, 97, 108, 115, 101] }]]) (rest := []) [] ((.slice (some ⟨g1, 0, none⟩) 10 10)) (by kernel_rfl) (by kernel_rfl) give_all (by first | ((repeat (first | exact trivial | refine ⟨trivial, ?_⟩)); done) | assumption) ?_ (.inr rfl)
  exact ⟨g1, rfl, rfl⟩
theorem rin_spec (a : Option Addr) (c : Nat) (l : List (List UInt8)) (s : List UInt8) (hl : l.length ≤ 1048576) : Does Tryz.prog 141 [.slice a l.length c, .string (mkS s)] [ro a (l.map strV)] (fun v hp' => v = .bool (l.contains s) ∧ hp' = []) := by
  refine fn_enter Tryz.func141 rfl 18 rfl fun w0 h0 => ?_
  refine wpc_seq ?_
  refine wpc_region [0] (by kernel_rfl) ?_
  refine wpr_run (l₂ := []) true [0] [] [(4, .bool false), (0, .slice a l.length c), (1, .string (mkS s))] [ro a (List.map strV l)] [] (by kernel_rfl) (by kernel_rfl) trivial ?_
  refine wpr_nil (nx_then (wpc_seq (wpc_seq ?_)))
  refine wpc_region [0] (by kernel_rfl) ?_
  refine wpr_run (l₂ := []) true [0] [] [(5, .int .i64 0), (4, .bool false), (0, .slice a l.length c), (1, .string (mkS s))] [ro a (List.map strV l)] [] (by kernel_rfl) (by kernel_rfl) trivial ?_
  refine wpr_nil (nx_then ?_)
  refine wpc_block ?_
  refine wpc_loop (X := {i : Nat // i ≤ l.length ∧ ∀ j, j < i → l[j]? ≠ some s}) (fun x => St.mk [(5, .int .i64 (x.1 : Int)), (4, .bool false), (0, .slice a l.length c), (1, .string (mkS s))] [ro a (l.map strV)]) (fun x => l.length - x.1) ⟨0, by omega, fun j h => absurd h (Nat.not_lt_zero _)⟩ (ent_fr (by kernel_rfl)) ?_
  rintro ⟨i, hi, hall⟩
  dsimp only at hi hall ⊢
  refine wpc_seq (wpc_seq ?_)
  refine wpc_region [0, 1, 2, 3] (by kernel_rfl) ?_
  refine wpr_run (l₂ := []) true [0, 1, 2, 3] [] [(9, .bool (decide ((↑i : Int) < (↑l.length : Int)))), (5, .int .i64 (↑i : Int)), (4, .bool false), (0, .slice a l.length c), (1, .string (mkS s))] [ro a (List.map strV l)] [] (by kernel_rfl) (by kernel_rfl) trivial ?_
  refine wpr_nil (nx_then ?_)
  refine wpc_if (((↑i : Int) < (↑l.length : Int))) (by kernel_rfl) (fun hlt => ?_) (fun hlt => ?_)
  · have hil : i < l.length := by omega
    refine wpc_fact (fun w h => ro_addr h 0 rfl (by rw [List.length_map]; omega)) ?_
    rintro ⟨g0, o0, rfl⟩
    refine wpc_skip ?_
    refine nx_then (wpc_seq ?_)
    refine wpc_block ?_
    refine wpc_seq ?_
    refine wpc_region [0, 1, 2, 3, 4, 5] (by kernel_rfl) ?_
    refine wpr_run (l₂ := [3, 4, 5]) true [0, 1, 2] [] ([(14, .pointer (some ⟨g0, o0 + i * 1, none⟩)), (5, .int .i64 (↑i : Int)), (4, .bool false), (0, .slice (some ⟨g0, o0, none⟩) l.length c), (1, .string (mkS s))]) [ro (some ⟨g0, o0, none⟩) (List.map strV l)] [(0 : Int) ≤ (↑i : Int) ∧ (↑i : Int) < (↑l.length : Int)] (by kernel_rfl) (by kernel_rfl) ⟨by omega, trivial⟩ ?_
    refine wpr_eq (ld (t := 9) (a := (⟨g0, o0 + i * 1, none⟩)) (dst := some 15) (by kernel_rfl) false 1 (by kernel_rfl) (by simp) [.string (mkS l[i])] rfl (fun w h => ld_ro h 0 rfl (i * 1) (map_at strV hil))) ?_
    refine wpr_run (l₂ := []) true [4, 5] [] [(17, .bool (decide (l[i] = s))), (5, .int .i64 (↑i : Int)), (4, .bool false), (0, .slice (some ⟨g0, o0, none⟩) l.length c), (1, .string (mkS s))] [ro (some ⟨g0, o0, none⟩) (List.map strV l)] [] (by kernel_rfl) (by kernel_rfl) trivial ?_
    refine wpr_nil (nx_then ?_)
    refine wpc_if ((l[i] = s)) (by kernel_rfl) (fun heq => ?_) (fun heq => ?_)
    · refine wpc_seq ?_
      refine wpc_region [0] (by kernel_rfl) ?_
      refine wpr_run (l₂ := []) true [0] [] [(4, .bool true), (5, .int .i64 (↑i : Int)), (0, .slice (some ⟨g0, o0, none⟩) l.length c), (1, .string (mkS s))] [ro (some ⟨g0, o0, none⟩) (List.map strV l)] [] (by kernel_rfl) (by kernel_rfl) trivial ?_
      refine wpr_nil (nx_then ?_)
      refine wpc_ret ?_
      refine nx_block_ret ?_
      refine nx_then_ret ?_
      refine nx_then_ret ?_
      refine nx_block_ret ?_
      refine nx_then_ret ?_
      refine nx_end (hp' := []) (rest := [ro (some ⟨g0, o0, none⟩) (List.map strV l)]) [] ((.bool true)) (by kernel_rfl) (by kernel_rfl) (give [] (by kernel_rfl)) (by first | ((repeat (first | exact trivial | refine ⟨trivial, ?_⟩)); done) | assumption) ?_ (.inr rfl)
      refine ⟨?_, rfl⟩
      have he : l[i] = s := heq
      have h2 : l.contains s = true := List.contains_iff_mem.2 (he ▸ List.getElem_mem hil)
      rw [h2]
    · refine wpc_skip ?_
      refine nx_block (nx_then ?_)
      refine wpc_region [0, 1, 2] (by kernel_rfl) ?_
      refine wpr_run (l₂ := []) true [0, 1, 2] [] ([(5, .int .i64 ((↑i : Int) + 1)), (4, .bool false), (0, .slice (some ⟨g0, o0, none⟩) l.length c), (1, .string (mkS s))]) [ro (some ⟨g0, o0, none⟩) (List.map strV l)] ([inI64 ((↑i : Int) + (1 : Int))]) (by kernel_rfl) (by kernel_rfl) ⟨by unfold inI64; omega, trivial⟩ ?_
      refine wpr_nil ?_
      exact fun a' w' hS' => ⟨⟨i + 1, by omega, fun j hj => by
              rcases Nat.lt_or_ge j i with h | h
              · exact hall j h
              · obtain rfl : j = i := by omega
                rw [List.getElem?_eq_getElem hil]
                intro h2
                exact heq (Option.some.inj h2)⟩, by dsimp only; omega, ent_fr (by kernel_rfl) _ _ (ent_hp [0] rfl _ _ hS')⟩
  · refine wpc_exit ?_
    refine nx_then_exit ?_
    refine nx_then_exit ?_
    refine nx_block_here ?_
    refine nx_then (wpc_seq ?_)
    refine wpc_region [0] (by kernel_rfl) ?_
    refine wpr_run (l₂ := []) true [0] [] [(4, .bool false)] [ro a (List.map strV l)] [] (by kernel_rfl) (by kernel_rfl) trivial ?_
    refine wpr_nil (nx_then ?_)
    refine wpc_ret ?_
    refine nx_end (hp' := []) (rest := [ro a (List.map strV l)]) [] ((.bool false)) (by kernel_rfl) (by kernel_rfl) (give [] (by kernel_rfl)) (by first | ((repeat (first | exact trivial | refine ⟨trivial, ?_⟩)); done) | assumption) ?_ (.inr rfl)
    refine ⟨?_, rfl⟩
    have h2 : l.contains s = false := by
      cases hw : l.contains s with
      | false => rfl
      | true =>
        obtain ⟨j, hj⟩ := List.getElem?_of_mem (List.contains_iff_mem.1 hw)
        obtain ⟨hj1, _⟩ := List.getElem?_eq_some_iff.1 hj
        exact absurd hj (hall j (by omega))
    rw [h2]
theorem rWord_spec (s : List UInt8) : Does Tryz.prog 101 [.string (mkS s)] [] (fun v hp' => v = .bool (isWord s) ∧ hp' = []) := by
  refine fn_enter Tryz.func101 rfl 6 rfl fun w0 h0 => ?_
  refine wpc_seq ?_
  refine wpc_region [0] (by kernel_rfl) ?_
  refine wpr_run (l₂ := []) true [0] [] [(2, .bool false), (0, .string (mkS s))] [] [] (by kernel_rfl) (by kernel_rfl) trivial ?_
  refine wpr_nil (nx_then (wpc_seq ?_))
  refine wpc_region [0, 1, 2, 3] (by kernel_rfl) ?_
  refine wpr_call_all (dst := some 3) (by kernel_rfl) (rWords_spec) give_all ?_
  rintro v _ ⟨g, rfl, rfl⟩
  refine wpr_ent (ent_turn 0 (ro (some ⟨g, 0, none⟩) (wordsL.map strV)) rfl (turn_rblk (by intro u hu; obtain ⟨x, _, rfl⟩ := List.mem_map.1 hu; rfl)) rfl) ?_
  refine wpr_run (l₂ := [2, 3]) true [1] [] [(4, .string (mkS s)), (3, .slice (some ⟨g, 0, none⟩) 10 10), (2, .bool false)] [ro (some ⟨g, 0, none⟩) (List.map strV wordsL)] [] (by kernel_rfl) (by kernel_rfl) trivial ?_
  refine wpr_call (dst := some 5) (rest := [ro (some ⟨g, 0, none⟩) (List.map strV wordsL)]) (by kernel_rfl) (rin_spec (some ⟨g, 0, none⟩) 10 wordsL s (by decide)) (Give.view (c := (ro (some ⟨g, 0, none⟩) (List.map strV wordsL))) (give (pre := []) (rest := [ro (some ⟨g, 0, none⟩) (List.map strV wordsL)]) [] (by kernel_rfl)) 0 (by kernel_rfl) view_ro) ?_
  rintro v _ ⟨rfl, rfl⟩
  refine wpr_run (l₂ := []) true [3] [] [(2, .bool (wordsL.contains s))] [ro (some ⟨g, 0, none⟩) (List.map strV wordsL)] [] (by kernel_rfl) (by kernel_rfl) trivial ?_
  refine wpr_nil (nx_then ?_)
  refine wpc_ret ?_
  refine nx_end (hp' := []) (rest := [ro (some ⟨g, 0, none⟩) (List.map strV wordsL)]) [] ((.bool (wordsL.contains s))) (by kernel_rfl) (by kernel_rfl) (give [] (by kernel_rfl)) (by first | ((repeat (first | exact trivial | refine ⟨trivial, ?_⟩)); done) | assumption) ?_ (.inr rfl)
  exact ⟨rfl, rfl⟩
/-- Of bytes: a letter or a digit. -/
def ldB (c : UInt8) : Bool := letB c || digB c
theorem name1_spec (c : UInt8) : Does Tryz.prog 134 [.int .u8 c.toNat] [] (fun v hp' => v = .bool (ldB c) ∧ hp' = []) := by
  unfold ldB
  refine fn_enter Tryz.func134 rfl 9 rfl fun w0 h0 => ?_
  refine wpc_seq ?_
  refine wpc_region [0] (by kernel_rfl) ?_
  refine wpr_run (l₂ := []) true [0] [] [(2, .bool false), (0, .int .u8 (↑c.toNat : Int))] [] [] (by kernel_rfl) (by kernel_rfl) trivial ?_
  refine wpr_nil (nx_then (wpc_seq ?_))
  refine wpc_region [0, 1, 2, 3, 4, 5, 6] (by kernel_rfl) ?_
  refine wpr_run (l₂ := [1, 2, 3, 4, 5, 6]) true [0] [] [(3, .int .u8 (↑c.toNat : Int)), (2, .bool false), (0, .int .u8 (↑c.toNat : Int))] [] [] (by kernel_rfl) (by kernel_rfl) trivial ?_
  refine wpr_call_all (dst := some 4) (by kernel_rfl) (letter_spec c) give_all ?_
  rintro v _ ⟨rfl, rfl⟩
  cases hl : letB c with
  | true =>
    refine wpr_run (l₂ := []) true [2, 3, 4, 5, 6] [] [(2, .bool true)] [] [] (by kernel_rfl) (by kernel_rfl) trivial ?_
    refine wpr_nil (nx_then ?_)
    refine wpc_ret ?_
    refine nx_end (hp' := []) (rest := []) [] ((.bool true)) (by kernel_rfl) (by kernel_rfl) give_all (by first | ((repeat (first | exact trivial | refine ⟨trivial, ?_⟩)); done) | assumption) ?_ (.inr rfl)
    exact ⟨rfl, rfl⟩
  | false =>
    refine wpr_run (l₂ := [4, 5, 6]) true [2, 3] [] [(6, .int .u8 (↑c.toNat : Int)), (5, .bool false), (2, .bool false)] [] [] (by kernel_rfl) (by kernel_rfl) trivial ?_
    refine wpr_call_all (dst := some 7) (by kernel_rfl) (digit_spec c) give_all ?_
    rintro v _ ⟨rfl, rfl⟩
    refine wpr_run (l₂ := []) true [5, 6] [] [(2, .bool (digB c))] [] [] (by kernel_rfl) (by kernel_rfl) trivial ?_
    refine wpr_nil (nx_then ?_)
    refine wpc_ret ?_
    refine nx_end (hp' := []) (rest := []) [] ((.bool (digB c))) (by kernel_rfl) (by kernel_rfl) give_all (by first | ((repeat (first | exact trivial | refine ⟨trivial, ?_⟩)); done) | assumption) ?_ (.inr rfl)
    exact ⟨by simp, rfl⟩
theorem bt_at {s : List UInt8} {i : Nat} (h : i < s.length) : bt (mkS s) (i : Int) = (s[i].toNat : Int) := by
  simp [bt, mkS, List.getD, h]
theorem takeWhile_end {p : UInt8 → Bool} {s : List UInt8} {n : Nat} (hn : n ≤ s.length) (h1 : ∀ j, (hj : j < n) → p (s[j]'(by omega)) = true) (h2 : (h : n < s.length) → p s[n] = false) : (s.takeWhile p).length = n := by
  induction s generalizing n with
  | nil => simp at hn; subst hn; rfl
  | cons c s ih =>
    cases n with
    | zero =>
      have := h2 (by simp)
      simp only [List.getElem_cons_zero] at this
      simp [List.takeWhile, this]
    | succ n =>
      have h0 := h1 0 (by omega)
      simp only [List.getElem_cons_zero] at h0
      have h3 := ih (n := n) (by simpa using hn) (fun j hj => by have := h1 (j + 1) (by omega); simpa using this) (fun h => by have := h2 (by simpa using h); simpa using this)
      simp [List.takeWhile, h0, h3]
theorem row_spec (s : List UInt8) (hl : s.length ≤ 1048576) : Does Tryz.prog 133 [.string (mkS s), .func (.func 134) #[] #[]] [] (fun v hp' => v = .int .i64 ((s.takeWhile ldB).length : Int) ∧ hp' = []) := by
  refine fn_enter Tryz.func133 rfl 20 rfl fun w0 h0 => ?_
  refine wpc_seq ?_
  refine wpc_region [0] (by kernel_rfl) ?_
  refine wpr_run (l₂ := []) true [0] [] [(4, .int .i64 0), (0, .string (mkS s)), (1, Value.func (Fn.func 134) #[] #[])] [] [] (by kernel_rfl) (by kernel_rfl) trivial ?_
  refine wpr_nil (nx_then (wpc_seq ?_))
  refine wpc_region [0] (by kernel_rfl) ?_
  refine wpr_run (l₂ := []) true [0] [] [(5, .int .i64 0), (4, .int .i64 0), (0, .string (mkS s)), (1, Value.func (Fn.func 134) #[] #[])] [] [] (by kernel_rfl) (by kernel_rfl) trivial ?_
  refine wpr_nil (nx_then (wpc_seq ?_))
  refine wpc_block ?_
  refine wpc_loop (X := {n : Nat // ∃ h : n ≤ s.length, ∀ j, (hj : j < n) → ldB (s[j]'(by omega)) = true}) (fun x => St.mk [(5, .int .i64 (x.1 : Int)), (0, .string (mkS s)), (1, .func (.func 134) #[] #[])] []) (fun x => s.length - x.1) ⟨0, Nat.zero_le _, fun j h => absurd h (Nat.not_lt_zero _)⟩ (ent_fr (by kernel_rfl)) ?_
  rintro ⟨n, hn, hall⟩
  dsimp only at hn hall ⊢
  by_cases hlt : n < s.length
  · refine wpc_seq ?_
    refine wpc_seq ?_
    refine wpc_region [0, 1, 2, 3, 4, 5, 6, 7, 8, 9, 10] (by kernel_rfl) ?_
    refine wpr_run (l₂ := [5, 6, 7, 8, 9, 10]) true [0, 1, 2, 3, 4] [] [(10, .bool (decide ((↑n : Int) < (↑s.length : Int)))), (5, .int .i64 (↑n : Int)), (0, .string (mkS s)), (1, Value.func (Fn.func 134) #[] #[])] [] [] (by kernel_rfl) (by kernel_rfl) trivial ?_
    refine wpr_ent (ent_set 10 (.bool (decide ((↑n : Int) < (↑s.length : Int)))) (.bool true) (by kernel_rfl) (congrArg _ (decide_eq_true (by omega)))) ?_
    refine wpr_run (l₂ := [9, 10]) true [5, 6, 7, 8] [] [(14, .int .u8 (bt (mkS s) (↑n : Int))), (11, Value.func (Fn.func 134) #[] #[]), (10, .bool true), (5, .int .i64 (↑n : Int)), (0, .string (mkS s)), (1, Value.func (Fn.func 134) #[] #[])] [] [(0 : Int) ≤ (↑n : Int) ∧ (↑n : Int) < (↑s.length : Int)] (by kernel_rfl) (by kernel_rfl) ⟨by omega, trivial⟩ ?_
    rw [bt_at hlt]
    refine wpr_callv_all (dst := some 15) (first := (#[])) (caps := (#[])) (args := [.int .u8 (↑s[n].toNat : Int)]) (f := 134) (by kernel_rfl) (by kernel_rfl) (name1_spec s[n]) give_all ?_
    rintro v _ ⟨rfl, rfl⟩
    cases hp : ldB s[n] with
    | true =>
      refine wpr_run (l₂ := []) true [10] [] [(16, .bool true), (5, .int .i64 (↑n : Int)), (0, .string (mkS s)), (1, Value.func (Fn.func 134) #[] #[])] [] [] (by kernel_rfl) (by kernel_rfl) trivial ?_
      refine wpr_nil (nx_then ?_)
      refine wpc_true (by kernel_rfl) ?_
      refine wpc_skip ?_
      refine nx_then ?_
      refine wpc_block ?_
      refine wpc_region [0, 1, 2] (by kernel_rfl) ?_
      refine wpr_run (l₂ := []) true [0, 1, 2] [] ([(5, .int .i64 ((↑n : Int) + 1)), (0, .string (mkS s)), (1, Value.func (Fn.func 134) #[] #[])]) [] ([inI64 ((↑n : Int) + (1 : Int))]) (by kernel_rfl) (by kernel_rfl) ⟨by unfold inI64; omega, trivial⟩ ?_
      refine wpr_nil (nx_block ?_)
      exact fun a' w' hS' => ⟨⟨n + 1, hlt, fun j hj => by
              rcases Nat.lt_or_ge j n with h | h
              · exact hall j h
              · obtain rfl : j = n := by omega
                exact hp⟩, by dsimp only; omega, ent_fr (by kernel_rfl) _ _ (ent_hp [] rfl _ _ hS')⟩
    | false =>
      refine wpr_run (l₂ := []) true [10] [] [(16, .bool false), (5, .int .i64 (↑n : Int)), (0, .string (mkS s)), (1, Value.func (Fn.func 134) #[] #[])] [] [] (by kernel_rfl) (by kernel_rfl) trivial ?_
      refine wpr_nil (nx_then ?_)
      refine wpc_false (by kernel_rfl) ?_
      refine wpc_exit ?_
      refine nx_then_exit ?_
      refine nx_then_exit ?_
      refine nx_block_here ?_
      refine nx_then (wpc_seq ?_)
      refine wpc_region [0, 1] (by kernel_rfl) ?_
      refine wpr_run (l₂ := []) true [0, 1] [] [(4, .int .i64 (↑n : Int))] [] [] (by kernel_rfl) (by kernel_rfl) trivial ?_
      refine wpr_nil (nx_then ?_)
      refine wpc_ret ?_
      refine nx_end (hp' := []) (rest := []) [] ((.int .i64 (↑n : Int))) (by kernel_rfl) (by kernel_rfl) give_all (by first | ((repeat (first | exact trivial | refine ⟨trivial, ?_⟩)); done) | assumption) ?_ (.inr rfl)
      exact ⟨by rw [takeWhile_end hn hall (fun _ => hp)], rfl⟩
  · refine wpc_seq ?_
    refine wpc_seq ?_
    refine wpc_region [0, 1, 2, 3, 4, 5, 6, 7, 8, 9, 10] (by kernel_rfl) ?_
    refine wpr_run (l₂ := [5, 6, 7, 8, 9, 10]) true [0, 1, 2, 3, 4] [] [(10, .bool (decide ((↑n : Int) < (↑s.length : Int)))), (5, .int .i64 (↑n : Int)), (0, .string (mkS s)), (1, Value.func (Fn.func 134) #[] #[])] [] [] (by kernel_rfl) (by kernel_rfl) trivial ?_
    refine wpr_ent (ent_set 10 (.bool (decide ((↑n : Int) < (↑s.length : Int)))) (.bool false) (by kernel_rfl) (congrArg _ (decide_eq_false (by omega)))) ?_
    refine wpr_run (l₂ := []) true [5, 6, 7, 8, 9, 10] [] [(16, .bool false), (5, .int .i64 (↑n : Int)), (0, .string (mkS s)), (1, Value.func (Fn.func 134) #[] #[])] [] [] (by kernel_rfl) (by kernel_rfl) trivial ?_
    refine wpr_nil (nx_then ?_)
    refine wpc_false (by kernel_rfl) ?_
    refine wpc_exit ?_
    refine nx_then_exit ?_
    refine nx_then_exit ?_
    refine nx_block_here ?_
    refine nx_then (wpc_seq ?_)
    refine wpc_region [0, 1] (by kernel_rfl) ?_
    refine wpr_run (l₂ := []) true [0, 1] [] [(4, .int .i64 (↑n : Int))] [] [] (by kernel_rfl) (by kernel_rfl) trivial ?_
    refine wpr_nil (nx_then ?_)
    refine wpc_ret ?_
    refine nx_end (hp' := []) (rest := []) [] ((.int .i64 (↑n : Int))) (by kernel_rfl) (by kernel_rfl) give_all (by first | ((repeat (first | exact trivial | refine ⟨trivial, ?_⟩)); done) | assumption) ?_ (.inr rfl)
    exact ⟨by rw [takeWhile_end hn hall (fun h => absurd h hlt)], rfl⟩
/-- Is a text a name? -/
def nameB (s : List UInt8) : Bool := match s with
  | [] => false
  | c :: _ => decide (s.length ≤ 20) && !digB c && !isWord s && s.all ldB
theorem takeWhile_all {p : UInt8 → Bool} : ∀ s : List UInt8, ((s.takeWhile p).length == s.length) = s.all p
  | [] => rfl
  | c :: s => by
    cases h : p c with
    | true =>
      simp only [List.takeWhile, h, List.length_cons, List.all_cons, Bool.true_and]
      rw [← takeWhile_all s, Bool.eq_iff_iff, beq_iff_eq, beq_iff_eq]; omega
    | false => simp [List.takeWhile, h]
theorem name_spec (s : List UInt8) (hl : s.length ≤ 1048576) : Does Tryz.prog 96 [.string (mkS s)] [gWords] (fun v hp' => v = .bool (nameB s) ∧ hp' = []) := by
  cases s with
  | nil =>
    refine fn_enter Tryz.func96 rfl 28 rfl fun w0 h0 => ?_
    refine wpc_seq ?_
    refine wpc_region [0] (by kernel_rfl) ?_
    refine wpr_run (l₂ := []) true [0] [] [(2, .bool false), (0, .string (mkS []))] [gWords] [] (by kernel_rfl) (by kernel_rfl) trivial ?_
    refine wpr_nil (nx_then (wpc_seq ?_))
    refine wpc_region [0, 1, 2, 3, 4, 5, 6, 7, 8, 9, 10, 11, 12, 13, 14, 15, 16, 17, 18, 19, 20, 21, 22, 23, 24, 25] (by kernel_rfl) ?_
    refine wpr_run (l₂ := []) true [0, 1, 2, 3, 4, 5, 6, 7, 8, 9, 10, 11, 12, 13, 14, 15, 16, 17, 18, 19, 20, 21, 22, 23, 24, 25] [] [(2, .bool false)] [gWords] [] (by kernel_rfl) (by kernel_rfl) trivial ?_
    refine wpr_nil (nx_then ?_)
    refine wpc_ret ?_
    refine nx_end (hp' := []) (rest := [gWords]) [] ((.bool false)) (by kernel_rfl) (by kernel_rfl) (give [] (by kernel_rfl)) (by first | ((repeat (first | exact trivial | refine ⟨trivial, ?_⟩)); done) | assumption) ?_ (.inr rfl)
    exact ⟨rfl, rfl⟩
  | cons c r =>
    have hb : bt (mkS (c :: r)) 0 = (c.toNat : Int) := bt_at (s := c :: r) (i := 0) (by simp)
    have hall := takeWhile_all (p := ldB) (c :: r)
    unfold nameB
    dsimp only
    rw [← hall]
    obtain ⟨s, hs⟩ : ∃ s, s = c :: r := ⟨_, rfl⟩
    have hpos : 0 < s.length := by rw [hs]; simp
    rw [← hs] at hb hl ⊢
    have hne : (!decide (s = [])) = true := by rw [hs]; simp
    by_cases h20 : s.length ≤ 20
    · refine fn_enter Tryz.func96 rfl 28 rfl fun w0 h0 => ?_
      refine wpc_seq ?_
      refine wpc_region [0] (by kernel_rfl) ?_
      refine wpr_run (l₂ := []) true [0] [] [(2, .bool false), (0, .string (mkS s))] [gWords] [] (by kernel_rfl) (by kernel_rfl) trivial ?_
      refine wpr_nil (nx_then (wpc_seq ?_))
      refine wpc_region [0, 1, 2, 3, 4, 5, 6, 7, 8, 9, 10, 11, 12, 13, 14, 15, 16, 17, 18, 19, 20, 21, 22, 23, 24, 25] (by kernel_rfl) ?_
      refine wpr_run (l₂ := [3, 4, 5, 6, 7, 8, 9, 10, 11, 12, 13, 14, 15, 16, 17, 18, 19, 20, 21, 22, 23, 24, 25]) true [0, 1, 2] [] [(5, .bool !decide (s = [])), (2, .bool false), (0, .string (mkS s))] [gWords] [] (by kernel_rfl) (by kernel_rfl) trivial ?_
      refine wpr_ent (ent_set 5 (.bool !decide (s = [])) (.bool true) (by kernel_rfl) (congrArg _ hne)) ?_
      refine wpr_run (l₂ := [8, 9, 10, 11, 12, 13, 14, 15, 16, 17, 18, 19, 20, 21, 22, 23, 24, 25]) true [3, 4, 5, 6, 7] [] [(10, .bool (decide ((↑s.length : Int) ≤ 20))), (2, .bool false), (0, .string (mkS s))] [gWords] [] (by kernel_rfl) (by kernel_rfl) trivial ?_
      refine wpr_ent (ent_set 10 (.bool (decide ((↑s.length : Int) ≤ 20))) (.bool true) (by kernel_rfl) (congrArg _ (decide_eq_true (by omega)))) ?_
      refine wpr_run (l₂ := [10, 11, 12, 13, 14, 15, 16, 17, 18, 19, 20, 21, 22, 23, 24, 25]) true [8, 9] [] [(12, .int .u8 (bt (mkS s) 0)), (10, .bool true), (2, .bool false), (0, .string (mkS s))] [gWords] [(0 : Int) ≤ (0 : Int) ∧ (0 : Int) < (↑s.length : Int)] (by kernel_rfl) (by kernel_rfl) ⟨by omega, trivial⟩ ?_
      rw [hb]
      refine wpr_call (dst := some 13) (rest := [gWords]) (by kernel_rfl) (digit_spec c) (give [] (by kernel_rfl)) ?_
      rintro v _ ⟨rfl, rfl⟩
      cases hd : digB c with
      | true =>
        refine wpr_run (l₂ := []) true [11, 12, 13, 14, 15, 16, 17, 18, 19, 20, 21, 22, 23, 24, 25] [] [(2, .bool false)] [gWords] [] (by kernel_rfl) (by kernel_rfl) trivial ?_
        refine wpr_nil (nx_then ?_)
        refine wpc_ret ?_
        refine nx_end (hp' := []) (rest := [gWords]) [] ((.bool false)) (by kernel_rfl) (by kernel_rfl) (give [] (by kernel_rfl)) (by first | ((repeat (first | exact trivial | refine ⟨trivial, ?_⟩)); done) | assumption) ?_ (.inr rfl)
        exact ⟨by simp, rfl⟩
      | false =>
        refine wpr_run (l₂ := [15, 16, 17, 18, 19, 20, 21, 22, 23, 24, 25]) true [11, 12, 13, 14] [] [(17, .string (mkS s)), (16, .bool true), (2, .bool false), (0, .string (mkS s))] [gWords] [] (by kernel_rfl) (by kernel_rfl) trivial ?_
        refine wpr_call_all (dst := some 18) (by kernel_rfl) (Word_spec s) give_all ?_
        rintro v _ ⟨rfl, rfl⟩
        cases hw : isWord s with
        | true =>
          refine wpr_run (l₂ := []) true [16, 17, 18, 19, 20, 21, 22, 23, 24, 25] [] [(2, .bool false)] [] [] (by kernel_rfl) (by kernel_rfl) trivial ?_
          refine wpr_nil (nx_then ?_)
          refine wpc_ret ?_
          refine nx_end (hp' := []) (rest := []) [] ((.bool false)) (by kernel_rfl) (by kernel_rfl) give_all (by first | ((repeat (first | exact trivial | refine ⟨trivial, ?_⟩)); done) | assumption) ?_ (.inr rfl)
          exact ⟨by simp, rfl⟩
        | false =>
          refine wpr_run (l₂ := [20, 21, 22, 23, 24, 25]) true [16, 17, 18, 19] [] [(22, .string (mkS s)), (21, .bool true), (2, .bool false), (0, .string (mkS s))] [] [] (by kernel_rfl) (by kernel_rfl) trivial ?_
          refine wpr_call_all (dst := some 23) (by kernel_rfl) (row_spec s hl) give_all ?_
          rintro v _ ⟨rfl, rfl⟩
          refine wpr_run (l₂ := []) true [21, 22, 23, 24, 25] [] [(2, .bool ((↑(List.takeWhile ldB s).length : Int) == (↑s.length : Int)))] [] [] (by kernel_rfl) (by kernel_rfl) trivial ?_
          refine wpr_nil (nx_then ?_)
          refine wpc_ret ?_
          refine nx_end (hp' := []) (rest := []) [] ((.bool ((↑(List.takeWhile ldB s).length : Int) == (↑s.length : Int)))) (by kernel_rfl) (by kernel_rfl) give_all (by first | ((repeat (first | exact trivial | refine ⟨trivial, ?_⟩)); done) | assumption) ?_ (.inr rfl)
          refine ⟨?_, rfl⟩
          simp only [decide_eq_true h20, Bool.true_and, Bool.not_false, Value.bool.injEq, Bool.and_true, cond_true]
          rw [Bool.eq_iff_iff, beq_iff_eq, beq_iff_eq]; omega
    · refine fn_enter Tryz.func96 rfl 28 rfl fun w0 h0 => ?_
      refine wpc_seq ?_
      refine wpc_region [0] (by kernel_rfl) ?_
      refine wpr_run (l₂ := []) true [0] [] [(2, .bool false), (0, .string (mkS s))] [gWords] [] (by kernel_rfl) (by kernel_rfl) trivial ?_
      refine wpr_nil (nx_then (wpc_seq ?_))
      refine wpc_region [0, 1, 2, 3, 4, 5, 6, 7, 8, 9, 10, 11, 12, 13, 14, 15, 16, 17, 18, 19, 20, 21, 22, 23, 24, 25] (by kernel_rfl) ?_
      refine wpr_run (l₂ := [3, 4, 5, 6, 7, 8, 9, 10, 11, 12, 13, 14, 15, 16, 17, 18, 19, 20, 21, 22, 23, 24, 25]) true [0, 1, 2] [] [(5, .bool !decide (s = [])), (2, .bool false), (0, .string (mkS s))] [gWords] [] (by kernel_rfl) (by kernel_rfl) trivial ?_
      refine wpr_ent (ent_set 5 (.bool !decide (s = [])) (.bool true) (by kernel_rfl) (congrArg _ hne)) ?_
      refine wpr_run (l₂ := [8, 9, 10, 11, 12, 13, 14, 15, 16, 17, 18, 19, 20, 21, 22, 23, 24, 25]) true [3, 4, 5, 6, 7] [] [(10, .bool (decide ((↑s.length : Int) ≤ 20))), (2, .bool false), (0, .string (mkS s))] [gWords] [] (by kernel_rfl) (by kernel_rfl) trivial ?_
      refine wpr_ent (ent_set 10 (.bool (decide ((↑s.length : Int) ≤ 20))) (.bool false) (by kernel_rfl) (congrArg _ (decide_eq_false (by omega)))) ?_
      refine wpr_run (l₂ := []) true [8, 9, 10, 11, 12, 13, 14, 15, 16, 17, 18, 19, 20, 21, 22, 23, 24, 25] [] [(2, .bool false)] [gWords] [] (by kernel_rfl) (by kernel_rfl) trivial ?_
      refine wpr_nil (nx_then ?_)
      refine wpc_ret ?_
      refine nx_end (hp' := []) (rest := [gWords]) [] ((.bool false)) (by kernel_rfl) (by kernel_rfl) (give [] (by kernel_rfl)) (by first | ((repeat (first | exact trivial | refine ⟨trivial, ?_⟩)); done) | assumption) ?_ (.inr rfl)
      exact ⟨by simp [h20], rfl⟩
theorem let_dig (c : UInt8) : letB c = (!digB c && ldB c) := by
  unfold ldB
  cases h : letB c with
  | true =>
    have : digB c = false := by
      unfold letB at h
      unfold digB
      simp only [Bool.or_eq_true, Bool.and_eq_true, decide_eq_true_eq, beq_iff_eq] at h
      simp only [Bool.and_eq_false_iff, decide_eq_false_iff_not]
      omega
    simp [this]
  | false => cases digB c <;> rfl
theorem nameB_eq (c : UInt8) (r : List UInt8) : nameB (c :: r) = (decide ((c :: r).length ≤ 20) && letB c && !isWord (c :: r) && r.all ldB) := by
  unfold nameB
  rw [let_dig, List.all_cons]
  dsimp only
  cases decide ((c :: r).length ≤ 20) <;> cases digB c <;> cases isWord (c :: r) <;> cases ldB c <;> cases r.all ldB <;> rfl
theorem rName_spec (s : List UInt8) (hl : s.length ≤ 1048576) : Does Tryz.prog 57 [.string (mkS s)] [] (fun v hp' => v = .bool (nameB s) ∧ hp' = []) := by
  cases s with
  | nil =>
    refine fn_enter Tryz.func57 rfl 40 rfl fun w0 h0 => ?_
    refine wpc_seq ?_
    refine wpc_region [0] (by kernel_rfl) ?_
    refine wpr_run (l₂ := []) true [0] [] [(2, .bool false), (0, .string (mkS []))] [] [] (by kernel_rfl) (by kernel_rfl) trivial ?_
    refine wpr_nil (nx_then (wpc_seq (wpc_seq ?_)))
    refine wpc_region [0, 1, 2, 3, 4, 5, 6, 7, 8, 9, 10, 11, 12, 13, 14, 15, 16, 17] (by kernel_rfl) ?_
    refine wpr_run (l₂ := []) true [0, 1, 2, 3, 4, 5, 6, 7, 8, 9, 10, 11, 12, 13, 14, 15, 16, 17] [] [(21, .bool true), (2, .bool false), (0, .string (mkS []))] [] [] (by kernel_rfl) (by kernel_rfl) trivial ?_
    refine wpr_nil (nx_then ?_)
    refine wpc_true (by kernel_rfl) ?_
    refine wpc_seq ?_
    refine wpc_region [0] (by kernel_rfl) ?_
    refine wpr_run (l₂ := []) true [0] [] [(2, .bool false), (0, .string (mkS []))] [] [] (by kernel_rfl) (by kernel_rfl) trivial ?_
    refine wpr_nil (nx_then ?_)
    refine wpc_ret ?_
    refine nx_then_ret ?_
    refine nx_end (hp' := []) (rest := []) [] ((.bool false)) (by kernel_rfl) (by kernel_rfl) give_all (by first | ((repeat (first | exact trivial | refine ⟨trivial, ?_⟩)); done) | assumption) ?_ (.inr rfl)
    exact ⟨rfl, rfl⟩
  | cons c r =>
    have hb : bt (mkS (c :: r)) 0 = (c.toNat : Int) := bt_at (s := c :: r) (i := 0) (by simp)
    rw [nameB_eq]
    obtain ⟨s, hs⟩ : ∃ s, s = c :: r := ⟨_, rfl⟩
    have hpos : s.length = r.length + 1 := by rw [hs]; simp
    rw [← hs] at hb hl ⊢
    by_cases h20 : s.length ≤ 20
    · rw [decide_eq_true h20]
      refine fn_enter Tryz.func57 rfl 40 rfl fun w0 h0 => ?_
      refine wpc_seq ?_
      refine wpc_region [0] (by kernel_rfl) ?_
      refine wpr_run (l₂ := []) true [0] [] [(2, .bool false), (0, .string (mkS s))] [] [] (by kernel_rfl) (by kernel_rfl) trivial ?_
      refine wpr_nil (nx_then (wpc_seq (wpc_seq ?_)))
      refine wpc_region [0, 1, 2, 3, 4, 5, 6, 7, 8, 9, 10, 11, 12, 13, 14, 15, 16, 17] (by kernel_rfl) ?_
      refine wpr_run (l₂ := [4, 5, 6, 7, 8, 9, 10, 11, 12, 13, 14, 15, 16, 17]) true [0, 1, 2, 3] [] [(7, .bool (decide ((↑s.length : Int) < 1))), (2, .bool false), (0, .string (mkS s))] [] [] (by kernel_rfl) (by kernel_rfl) trivial ?_
      refine wpr_ent (ent_set 7 (.bool (decide ((↑s.length : Int) < 1))) (.bool false) (by kernel_rfl) (congrArg _ (decide_eq_false (by omega)))) ?_
      refine wpr_run (l₂ := [9, 10, 11, 12, 13, 14, 15, 16, 17]) true [4, 5, 6, 7, 8] [] [(12, .bool (decide ((↑s.length : Int) > 20))), (2, .bool false), (0, .string (mkS s))] [] [] (by kernel_rfl) (by kernel_rfl) trivial ?_
      refine wpr_ent (ent_set 12 (.bool (decide ((↑s.length : Int) > 20))) (.bool false) (by kernel_rfl) (congrArg _ (decide_eq_false (by omega)))) ?_
      refine wpr_run (l₂ := [11, 12, 13, 14, 15, 16, 17]) true [9, 10] [] [(14, .int .u8 (bt (mkS s) 0)), (12, .bool false), (2, .bool false), (0, .string (mkS s))] [] [(0 : Int) ≤ (0 : Int) ∧ (0 : Int) < (↑s.length : Int)] (by kernel_rfl) (by kernel_rfl) ⟨by omega, trivial⟩ ?_
      rw [hb]
      refine wpr_call_all (dst := some 15) (by kernel_rfl) (rletter_spec c) give_all ?_
      rintro v _ ⟨rfl, rfl⟩
      cases hd : letB c with
      | false =>
        refine wpr_run (l₂ := []) true [12, 13, 14, 15, 16, 17] [] [(21, .bool true), (2, .bool false), (0, .string (mkS s))] [] [] (by kernel_rfl) (by kernel_rfl) trivial ?_
        refine wpr_nil (nx_then ?_)
        refine wpc_true (by kernel_rfl) ?_
        refine wpc_seq ?_
        refine wpc_region [0] (by kernel_rfl) ?_
        refine wpr_run (l₂ := []) true [0] [] [(2, .bool false), (0, .string (mkS s))] [] [] (by kernel_rfl) (by kernel_rfl) trivial ?_
        refine wpr_nil (nx_then ?_)
        refine wpc_ret ?_
        refine nx_then_ret ?_
        refine nx_end (hp' := []) (rest := []) [] ((.bool false)) (by kernel_rfl) (by kernel_rfl) give_all (by first | ((repeat (first | exact trivial | refine ⟨trivial, ?_⟩)); done) | assumption) ?_ (.inr rfl)
        exact ⟨by simp, rfl⟩
      | true =>
        refine wpr_run (l₂ := [16, 17]) true [12, 13, 14, 15] [] [(19, .string (mkS s)), (18, .bool false), (2, .bool false), (0, .string (mkS s))] [] [] (by kernel_rfl) (by kernel_rfl) trivial ?_
        refine wpr_call_all (dst := some 20) (by kernel_rfl) (rWord_spec s) give_all ?_
        rintro v _ ⟨rfl, rfl⟩
        cases hw : isWord s with
        | true =>
          refine wpr_run (l₂ := []) true [17] [] [(21, .bool true), (2, .bool false), (0, .string (mkS s))] [] [] (by kernel_rfl) (by kernel_rfl) trivial ?_
          refine wpr_nil (nx_then ?_)
          refine wpc_true (by kernel_rfl) ?_
          refine wpc_seq ?_
          refine wpc_region [0] (by kernel_rfl) ?_
          refine wpr_run (l₂ := []) true [0] [] [(2, .bool false), (0, .string (mkS s))] [] [] (by kernel_rfl) (by kernel_rfl) trivial ?_
          refine wpr_nil (nx_then ?_)
          refine wpc_ret ?_
          refine nx_then_ret ?_
          refine nx_end (hp' := []) (rest := []) [] ((.bool false)) (by kernel_rfl) (by kernel_rfl) give_all (by first | ((repeat (first | exact trivial | refine ⟨trivial, ?_⟩)); done) | assumption) ?_ (.inr rfl)
          exact ⟨by simp, rfl⟩
        | false =>
          refine wpr_run (l₂ := []) true [17] [] [(21, .bool false), (2, .bool false), (0, .string (mkS s))] [] [] (by kernel_rfl) (by kernel_rfl) trivial ?_
          refine wpr_nil (nx_then ?_)
          refine wpc_false (by kernel_rfl) ?_
          refine wpc_skip ?_
          refine nx_then (wpc_seq (wpc_seq ?_))
          refine wpc_region [0] (by kernel_rfl) ?_
          refine wpr_run (l₂ := []) true [0] [] [(3, .int .i64 1), (2, .bool false), (0, .string (mkS s))] [] [] (by kernel_rfl) (by kernel_rfl) trivial ?_
          refine wpr_nil (nx_then ?_)
          refine wpc_block ?_
          refine wpc_loop (X := {i : Nat // i ≤ r.length ∧ ∀ j, (hj : j < r.length) → j < i → ldB r[j] = true}) (fun x => St.mk [(3, .int .i64 ((x.1 + 1 : Nat) : Int)), (2, .bool false), (0, .string (mkS s))] []) (fun x => r.length - x.1) ⟨0, Nat.zero_le _, fun j _ h => absurd h (Nat.not_lt_zero _)⟩ (ent_fr (by kernel_rfl)) ?_
          rintro ⟨i, hi, hall⟩
          dsimp only at hi hall ⊢
          by_cases hlt : i < r.length
          · have hbt : bt (mkS s) ((i + 1 : Nat) : Int) = (r[i].toNat : Int) := by rw [bt_at (s := s) (i := i + 1) (by omega)]; simp [hs]
            refine wpc_seq (wpc_seq ?_)
            refine wpc_region [0, 1, 2, 3] (by kernel_rfl) ?_
            refine wpr_run (l₂ := []) true [0, 1, 2, 3] [] ([(25, .bool (decide ((↑(i + 1) : Int) < (↑s.length : Int)))), (3, .int .i64 (↑(i + 1) : Int)), (2, .bool false), (0, .string (mkS s))]) [] [] (by kernel_rfl) (by kernel_rfl) trivial ?_
            refine wpr_nil (nx_then ?_)
            refine wpc_ent (ent_set 25 (.bool (decide ((↑(i + 1) : Int) < (↑s.length : Int)))) (.bool true) (by kernel_rfl) (congrArg _ (decide_eq_true (by omega)))) ?_
            refine wpc_true (by kernel_rfl) ?_
            refine wpc_skip ?_
            refine nx_then (wpc_seq ?_)
            refine wpc_block ?_
            refine wpc_seq ?_
            refine wpc_region [0, 1, 2, 3, 4, 5, 6, 7, 8, 9, 10, 11] (by kernel_rfl) ?_
            refine wpr_run (l₂ := [3, 4, 5, 6, 7, 8, 9, 10, 11]) true [0, 1, 2] [] ([(30, .int .u8 (bt (mkS s) (↑(i + 1) : Int))), (3, .int .i64 (↑(i + 1) : Int)), (2, .bool false), (0, .string (mkS s))]) [] ([(0 : Int) ≤ (↑(i + (1 : Nat)) : Int) ∧ (↑(i + (1 : Nat)) : Int) < (↑s.length : Int)]) (by kernel_rfl) (by kernel_rfl) ⟨by omega, trivial⟩ ?_
            rw [hbt]
            refine wpr_call_all (dst := some 31) (by kernel_rfl) (rletter_spec r[i]) give_all ?_
            rintro v _ ⟨rfl, rfl⟩
            have hnext : ldB r[i] = true → ∀ j, (hj : j < r.length) → j < i + 1 → ldB r[j] = true := fun h j hj hji => by
              rcases Nat.lt_or_ge j i with h' | h'
              · exact hall j hj h'
              · obtain rfl : j = i := by omega
                exact h
            cases h1 : letB r[i] with
            | true =>
              refine wpr_run (l₂ := []) true [4, 5, 6, 7, 8, 9, 10, 11] [] ([(39, .bool false), (3, .int .i64 (↑(i + 1) : Int)), (2, .bool false), (0, .string (mkS s))]) [] [] (by kernel_rfl) (by kernel_rfl) trivial ?_
              refine wpr_nil (nx_then ?_)
              refine wpc_false (by kernel_rfl) ?_
              refine wpc_skip ?_
              refine nx_block (nx_then ?_)
              refine wpc_region [0, 1, 2] (by kernel_rfl) ?_
              refine wpr_run (l₂ := []) true [0, 1, 2] [] ([(3, .int .i64 ((↑(i + 1) : Int) + 1)), (2, .bool false), (0, .string (mkS s))]) [] ([inI64 ((↑(i + (1 : Nat)) : Int) + (1 : Int))]) (by kernel_rfl) (by kernel_rfl) ⟨by unfold inI64; omega, trivial⟩ ?_
              refine wpr_nil ?_
              exact fun a' w' hS' => ⟨⟨i + 1, hlt, hnext (by unfold ldB; rw [h1]; rfl)⟩, by dsimp only; omega, ent_fr (by kernel_rfl) _ _ (ent_hp [] rfl _ _ hS')⟩
            | false =>
              refine wpr_run (l₂ := [9, 10, 11]) true [4, 5, 6, 7, 8] [] ([(36, .int .u8 (bt (mkS s) (↑(i + 1) : Int))), (33, .bool true), (3, .int .i64 (↑(i + 1) : Int)), (2, .bool false), (0, .string (mkS s))]) [] ([(0 : Int) ≤ (↑(i + (1 : Nat)) : Int) ∧ (↑(i + (1 : Nat)) : Int) < (↑s.length : Int)]) (by kernel_rfl) (by kernel_rfl) ⟨by omega, trivial⟩ ?_
              rw [hbt]
              refine wpr_call_all (dst := some 37) (by kernel_rfl) (rdigit_spec r[i]) give_all ?_
              rintro v _ ⟨rfl, rfl⟩
              cases h2 : digB r[i] with
              | true =>
                refine wpr_run (l₂ := []) true [10, 11] [] ([(39, .bool false), (3, .int .i64 (↑(i + 1) : Int)), (2, .bool false), (0, .string (mkS s))]) [] [] (by kernel_rfl) (by kernel_rfl) trivial ?_
                refine wpr_nil (nx_then ?_)
                refine wpc_false (by kernel_rfl) ?_
                refine wpc_skip ?_
                refine nx_block (nx_then ?_)
                refine wpc_region [0, 1, 2] (by kernel_rfl) ?_
                refine wpr_run (l₂ := []) true [0, 1, 2] [] ([(3, .int .i64 ((↑(i + 1) : Int) + 1)), (2, .bool false), (0, .string (mkS s))]) [] ([inI64 ((↑(i + (1 : Nat)) : Int) + (1 : Int))]) (by kernel_rfl) (by kernel_rfl) ⟨by unfold inI64; omega, trivial⟩ ?_
                refine wpr_nil ?_
                exact fun a' w' hS' => ⟨⟨i + 1, hlt, hnext (by unfold ldB; rw [h1, h2]; rfl)⟩, by dsimp only; omega, ent_fr (by kernel_rfl) _ _ (ent_hp [] rfl _ _ hS')⟩
              | false =>
                refine wpr_run (l₂ := []) true [10, 11] [] ([(39, .bool true), (3, .int .i64 (↑(i + 1) : Int)), (2, .bool false), (0, .string (mkS s))]) [] [] (by kernel_rfl) (by kernel_rfl) trivial ?_
                refine wpr_nil (nx_then ?_)
                refine wpc_true (by kernel_rfl) ?_
                refine wpc_seq ?_
                refine wpc_region [0] (by kernel_rfl) ?_
                refine wpr_run (l₂ := []) true [0] [] ([(2, .bool false), (3, .int .i64 (↑(i + 1) : Int)), (0, .string (mkS s))]) [] [] (by kernel_rfl) (by kernel_rfl) trivial ?_
                refine wpr_nil (nx_then ?_)
                refine wpc_ret ?_
                refine nx_block_ret ?_
                refine nx_then_ret ?_
                refine nx_then_ret ?_
                refine nx_block_ret ?_
                refine nx_then_ret ?_
                refine nx_end (hp' := []) (rest := []) [] ((.bool false)) (by kernel_rfl) (by kernel_rfl) give_all (by first | ((repeat (first | exact trivial | refine ⟨trivial, ?_⟩)); done) | assumption) ?_ (.inr rfl)
                refine ⟨?_, rfl⟩
                have : r.all ldB = false := by
                  cases h3 : r.all ldB with
                  | false => rfl
                  | true =>
                    have h4 := List.all_eq_true.1 h3 r[i] (List.getElem_mem hlt)
                    unfold ldB at h4
                    rw [h1, h2] at h4
                    cases h4
                simp [this]
          · refine wpc_seq ?_
            refine wpc_seq ?_
            refine wpc_region [0, 1, 2, 3] (by kernel_rfl) ?_
            refine wpr_run (l₂ := []) true [0, 1, 2, 3] [] ([(25, .bool (decide ((↑(i + 1) : Int) < (↑s.length : Int)))), (3, .int .i64 (↑(i + 1) : Int)), (2, .bool false), (0, .string (mkS s))]) [] [] (by kernel_rfl) (by kernel_rfl) trivial ?_
            refine wpr_nil (nx_then ?_)
            refine wpc_ent (ent_set 25 (.bool (decide ((↑(i + 1) : Int) < (↑s.length : Int)))) (.bool false) (by kernel_rfl) (congrArg _ (decide_eq_false (by omega)))) ?_
            refine wpc_false (by kernel_rfl) ?_
            refine wpc_exit ?_
            refine nx_then_exit ?_
            refine nx_then_exit ?_
            refine nx_block_here ?_
            refine nx_then (wpc_seq ?_)
            refine wpc_region [0] (by kernel_rfl) ?_
            refine wpr_run (l₂ := []) true [0] [] [(2, .bool true)] [] [] (by kernel_rfl) (by kernel_rfl) trivial ?_
            refine wpr_nil (nx_then ?_)
            refine wpc_ret ?_
            refine nx_end (hp' := []) (rest := []) [] ((.bool true)) (by kernel_rfl) (by kernel_rfl) give_all (by first | ((repeat (first | exact trivial | refine ⟨trivial, ?_⟩)); done) | assumption) ?_ (.inr rfl)
            refine ⟨?_, rfl⟩
            have : r.all ldB = true := List.all_eq_true.2 fun x hx => by
              obtain ⟨j, hj⟩ := List.getElem?_of_mem hx
              obtain ⟨hj1, rfl⟩ := List.getElem?_eq_some_iff.1 hj
              exact hall j hj1 (by omega)
            simp [this]
    · rw [decide_eq_false h20]
      refine fn_enter Tryz.func57 rfl 40 rfl fun w0 h0 => ?_
      refine wpc_seq ?_
      refine wpc_region [0] (by kernel_rfl) ?_
      refine wpr_run (l₂ := []) true [0] [] [(2, .bool false), (0, .string (mkS s))] [] [] (by kernel_rfl) (by kernel_rfl) trivial ?_
      refine wpr_nil (nx_then (wpc_seq (wpc_seq ?_)))
      refine wpc_region [0, 1, 2, 3, 4, 5, 6, 7, 8, 9, 10, 11, 12, 13, 14, 15, 16, 17] (by kernel_rfl) ?_
      refine wpr_run (l₂ := [4, 5, 6, 7, 8, 9, 10, 11, 12, 13, 14, 15, 16, 17]) true [0, 1, 2, 3] [] [(7, .bool (decide ((↑s.length : Int) < 1))), (2, .bool false), (0, .string (mkS s))] [] [] (by kernel_rfl) (by kernel_rfl) trivial ?_
      refine wpr_ent (ent_set 7 (.bool (decide ((↑s.length : Int) < 1))) (.bool false) (by kernel_rfl) (congrArg _ (decide_eq_false (by omega)))) ?_
      refine wpr_run (l₂ := [9, 10, 11, 12, 13, 14, 15, 16, 17]) true [4, 5, 6, 7, 8] [] [(12, .bool (decide ((↑s.length : Int) > 20))), (2, .bool false), (0, .string (mkS s))] [] [] (by kernel_rfl) (by kernel_rfl) trivial ?_
      refine wpr_ent (ent_set 12 (.bool (decide ((↑s.length : Int) > 20))) (.bool true) (by kernel_rfl) (congrArg _ (decide_eq_true (by omega)))) ?_
      refine wpr_run (l₂ := []) true [9, 10, 11, 12, 13, 14, 15, 16, 17] [] [(21, .bool true), (2, .bool false), (0, .string (mkS s))] [] [] (by kernel_rfl) (by kernel_rfl) trivial ?_
      refine wpr_nil (nx_then ?_)
      refine wpc_true (by kernel_rfl) ?_
      refine wpc_seq ?_
      refine wpc_region [0] (by kernel_rfl) ?_
      refine wpr_run (l₂ := []) true [0] [] [(2, .bool false), (0, .string (mkS s))] [] [] (by kernel_rfl) (by kernel_rfl) trivial ?_
      refine wpr_nil (nx_then ?_)
      refine wpc_ret ?_
      refine nx_then_ret ?_
      refine nx_end (hp' := []) (rest := []) [] ((.bool false)) (by kernel_rfl) (by kernel_rfl) give_all (by first | ((repeat (first | exact trivial | refine ⟨trivial, ?_⟩)); done) | assumption) ?_ (.inr rfl)
      exact ⟨by simp, rfl⟩
end Go.Proofs.YtpfhleghgkeemaaGreatDoor
