import Derived.Test.YtpfhleghgkeemaaGreatDoorH19
import Derived.Test.YtpfhleghgkeemaaGreatDoorX23
import Derived.Test.YtpfhleghgkeemaaGreatDoorX16
namespace Go.Proofs.YtpfhleghgkeemaaGreatDoor
open Go Go.Sx
set_option linter.unusedSimpArgs false

theorem copyCheck_spec (g : Nat) (ad : Option Addr) (had : ad = none ∨ ad = some ⟨g, 0, none⟩) (s x : Value) : Does Tryz.prog 151 [.pointer (some ⟨g, 0, none⟩)] [.blk g 105 [.pointer ad, s, x]] (fun u hp' => u = .tuple #[] ∧ hp' = [.blk g 105 [.pointer (some ⟨g, 0, none⟩), s, x]]) := by
  rcases had with rfl | rfl
  · refine fn_enter Tryz.func151 rfl 20 rfl fun w0 h0 => ?_
    refine wpc_seq ?_
    refine wpc_region [0, 1, 2, 3, 4] (by kernel_rfl) ?_
    refine wpr_run (l₂ := []) true [0, 1, 2, 3, 4] [0] [(6, .bool true), (0, .pointer (some ⟨g, 0, none⟩))] [.blk g 105 [.pointer none, s, x]] [] (by kernel_rfl) (by kernel_rfl) trivial ?_
    refine wpr_nil (nx_then ?_)
    refine wpc_true (by kernel_rfl) ?_
    refine wpc_region [0, 1, 2, 3, 4, 5, 6, 7] (by kernel_rfl) ?_
    refine wpr_run (l₂ := []) true [0, 1, 2, 3, 4, 5, 6, 7] [0, 0, 0, 0, 0] [] [.blk g 105 [.pointer (some ⟨g, 0, none⟩), s, x]] [] (by kernel_rfl) (by kernel_rfl) trivial ?_
    refine wpr_nil ?_
    refine nx_end (hp' := [.blk g 105 [.pointer (some ⟨g, 0, none⟩), s, x]]) (rest := []) [] ((Value.tuple #[])) (by kernel_rfl) (by kernel_rfl) give_all (by first | ((repeat (first | exact trivial | refine ⟨trivial, ?_⟩)); done) | assumption) ?_ (.inl rfl)
    exact ⟨rfl, rfl⟩
  · refine fn_enter Tryz.func151 rfl 20 rfl fun w0 h0 => ?_
    refine wpc_seq ?_
    refine wpc_region [0, 1, 2, 3, 4] (by kernel_rfl) ?_
    refine wpr_run (l₂ := []) true [0, 1, 2, 3, 4] [0] [(6, .bool false), (0, .pointer (some ⟨g, 0, none⟩))] [.blk g 105 [.pointer (some ⟨g, 0, none⟩), s, x]] [] (by kernel_rfl) (by kernel_rfl) trivial ?_
    refine wpr_nil (nx_then ?_)
    refine wpc_false (by kernel_rfl) ?_
    refine wpc_seq ?_
    refine wpc_region [0, 1, 2, 3, 4, 5] (by kernel_rfl) ?_
    refine wpr_run (l₂ := [5]) true [0, 1, 2, 3, 4] [0] [(18, .pointer (some ⟨g, 0, none⟩)), (17, .pointer (some ⟨g, 0, none⟩))] [.blk g 105 [.pointer (some ⟨g, 0, none⟩), s, x]] [] (by kernel_rfl) (by kernel_rfl) trivial ?_
    refine wpr_eq (step_eqp (b := false) (t := 101) (ad := ⟨g, 0, none⟩) (dst := some 19) (by kernel_rfl) (by kernel_rfl)) ?_
    refine wpr_nil (nx_then ?_)
    refine wpc_false (by kernel_rfl) ?_
    refine wpc_skip ?_
    refine nx_end (hp' := [.blk g 105 [.pointer (some ⟨g, 0, none⟩), s, x]]) (rest := []) [] ((Value.tuple #[])) (by kernel_rfl) (by kernel_rfl) give_all (by first | ((repeat (first | exact trivial | refine ⟨trivial, ?_⟩)); done) | assumption) ?_ (.inl rfl)
    exact ⟨rfl, rfl⟩
theorem u8s_cat (a b : List UInt8) : u8s a ++ u8s b = u8s (a ++ b) := by simp [u8s]
theorem WriteString_spec (g : Nat) (ad : Option Addr) (had : ad = none ∨ ad = some ⟨g, 0, none⟩) (a : Option Addr) (c : Nat) (bs : List UInt8) (x : Value) (t : List UInt8) (hb : bs.length ≤ 1099511627000) (ht : t.length ≤ 1099511627000) : Does Tryz.prog 129 [.pointer (some ⟨g, 0, none⟩), .string (mkS t)] [.blk g 105 [.pointer ad, .slice a bs.length c, x], row 5 1 a bs.length c (u8s bs)]
    (fun u hp' => ∃ a' c', u = .tuple #[.int .i64 t.length, .nilIface] ∧ hp' = [.blk g 105 [.pointer (some ⟨g, 0, none⟩), .slice a' (bs ++ t).length c', x], row 5 1 a' (bs ++ t).length c' (u8s (bs ++ t))]) := by
  have hcc := copyCheck_spec g ad had (.slice a bs.length c) x
  refine fn_enter Tryz.func129 rfl 19 rfl fun w0 h0 => ?_
  refine wpc_seq ?_
  refine wpc_region [0, 1] (by kernel_rfl) ?_
  refine wpr_run (l₂ := []) true [0, 1] [] [(5, Value.nilIface), (4, .int .i64 0), (0, .pointer (some ⟨g, 0, none⟩)), (1, .string (mkS t))] [.blk g 105 [.pointer ad, .slice a bs.length c, x], row 5 1 a bs.length c (u8s bs)] [] (by kernel_rfl) (by kernel_rfl) trivial ?_
  refine wpr_nil (nx_then (wpc_seq ?_))
  refine wpc_region [0, 1] (by kernel_rfl) ?_
  refine wpr_run (l₂ := [1]) true [0] [] [(6, .pointer (some ⟨g, 0, none⟩)), (5, Value.nilIface), (4, .int .i64 0), (0, .pointer (some ⟨g, 0, none⟩)), (1, .string (mkS t))] [.blk g 105 [.pointer ad, .slice a bs.length c, x], row 5 1 a bs.length c (u8s bs)] [] (by kernel_rfl) (by kernel_rfl) trivial ?_
  refine wpr_call (dst := some 7) (rest := [row 5 1 a bs.length c (u8s bs)]) (by kernel_rfl) (hcc) (give [0] (by kernel_rfl)) ?_
  rintro v _ ⟨rfl, rfl⟩
  refine wpr_nil (nx_then (wpc_seq ?_))
  refine wpc_region [0, 1, 2, 3, 4, 5, 6, 7, 8, 9] (by kernel_rfl) ?_
  refine wpr_run (l₂ := [6, 7, 8, 9]) true [0, 1, 2, 3, 4, 5] [0] [(13, .string (mkS t)), (12, .slice a bs.length c), (8, .pointer (some ⟨g, 0, none⟩)), (5, Value.nilIface), (4, .int .i64 0), (1, .string (mkS t))] [.blk g 105 [.pointer (some ⟨g, 0, none⟩), .slice a bs.length c, x], row 5 1 a bs.length c (u8s bs)] [] (by kernel_rfl) (by kernel_rfl) trivial ?_
  refine wpr_app (a := a) (n := bs.length) (cap := c) (x := (.string (mkS t))) (t := 77) (xt := 9) (dst := some 14) (by kernel_rfl) (e := 5) (sz := 1) (bytes := 1) (by kernel_rfl) 1 (xs := (u8s bs)) (by kernel_rfl) (m := (t.length)) (news := (u8s t)) (fun w h => src_str (mkS t)) (by unfold maxLen; omega) (by omega) ?_
  intro a2 c2 hn
  rw [u8s_cat, ← List.length_append]
  refine wpr_run (l₂ := []) true [7, 8, 9] [0] [(5, Value.nilIface), (4, .int .i64 0), (1, .string (mkS t))] ([.blk g 105 [.pointer (some ⟨g, 0, none⟩), .slice a2 (bs ++ t).length c2, x], row 5 1 a2 (bs ++ t).length c2 (u8s (bs ++ t))]) [] (by kernel_rfl) (by kernel_rfl) trivial ?_
  refine wpr_nil (nx_then (wpc_seq ?_))
  refine wpc_region [0, 1, 2, 3] (by kernel_rfl) ?_
  refine wpr_run (l₂ := []) true [0, 1, 2, 3] [] [(5, Value.nilIface), (4, .int .i64 (↑t.length : Int))] ([.blk g 105 [.pointer (some ⟨g, 0, none⟩), .slice a2 (bs ++ t).length c2, x], row 5 1 a2 (bs ++ t).length c2 (u8s (bs ++ t))]) [] (by kernel_rfl) (by kernel_rfl) trivial ?_
  refine wpr_nil (nx_then ?_)
  refine wpc_ret ?_
  refine nx_end (hp' := ([.blk g 105 [.pointer (some ⟨g, 0, none⟩), .slice a2 (bs ++ t).length c2, x], row 5 1 a2 (bs ++ t).length c2 (u8s (bs ++ t))])) (rest := []) [] ((Value.tuple #[.int .i64 (↑t.length : Int), Value.nilIface])) (by kernel_rfl) (by kernel_rfl) give_all (by first | ((repeat (first | exact trivial | refine ⟨trivial, ?_⟩)); done) | assumption) ?_ (.inr rfl)
  exact ⟨a2, c2, rfl, rfl⟩
theorem wr_put_spec (g : Nat) (ad : Option Addr) (had : ad = none ∨ ad = some ⟨g, 0, none⟩) (a : Option Addr) (c : Nat) (bs : List UInt8) (x : Value) (p : Option Addr) (pc : Nat) (ss : List (List UInt8)) (hb : bs.length ≤ 549755813888) (hs0 : ss ≠ []) (hsl : ss.length ≤ 1048576) (ht : ss.flatten.length ≤ 549755813000) : Does Tryz.prog 92 [.pointer (some ⟨g, 0, none⟩), .slice p ss.length pc] [.blk g 105 [.pointer ad, .slice a bs.length c, x], row 5 1 a bs.length c (u8s bs), ro p (ss.map strV)]
    (fun u hp' => ∃ a' c', u = .tuple #[] ∧ hp' = [.blk g 105 [.pointer (some ⟨g, 0, none⟩), .slice a' (bs ++ ss.flatten).length c', x], row 5 1 a' (bs ++ ss.flatten).length c' (u8s (bs ++ ss.flatten))]) := by
  refine fn_enter Tryz.func92 rfl 18 rfl fun w0 h0 => ?_
  refine wpc_seq ?_
  refine wpc_region [0, 1, 2] (by kernel_rfl) ?_
  refine wpr_run (l₂ := []) true [0, 1, 2] [] [(8, .int .i64 0), (7, .int .i64 (↑ss.length : Int)), (6, .slice p ss.length pc), (0, .pointer (some ⟨g, 0, none⟩))] [.blk g 105 [.pointer ad, .slice a bs.length c, x], row 5 1 a bs.length c (u8s bs), ro p (List.map strV ss)] [] (by kernel_rfl) (by kernel_rfl) trivial ?_
  refine wpr_nil (nx_then ?_)
  refine wpc_block ?_
  refine wpc_loop (X := {y : Nat × Option Addr × Option Addr × Nat // y.1 ≤ ss.length ∧ (y.2.1 = none ∨ y.2.1 = some ⟨g, 0, none⟩) ∧ (0 < y.1 → y.2.1 = some ⟨g, 0, none⟩)}) (fun y => St.mk [(8, .int .i64 (y.1.1 : Int)), (7, .int .i64 ss.length), (6, .slice p ss.length pc), (0, .pointer (some ⟨g, 0, none⟩))]
    [.blk g 105 [.pointer y.1.2.1, .slice y.1.2.2.1 (bs ++ (ss.take y.1.1).flatten).length y.1.2.2.2, x], row 5 1 y.1.2.2.1 (bs ++ (ss.take y.1.1).flatten).length y.1.2.2.2 (u8s (bs ++ (ss.take y.1.1).flatten)), ro p (ss.map strV)]) (fun y => ss.length - y.1.1) ⟨(0, ad, a, c), Nat.zero_le _, had, fun h => absurd h (Nat.lt_irrefl _)⟩ ?_ ?_
  · show Ent _ _ (St.mk _ [.blk g 105 [.pointer ad, .slice a (bs ++ []).length c, x], row 5 1 a (bs ++ []).length c (u8s (bs ++ [])), ro p (ss.map strV)])
    rw [List.append_nil]
    exact ent_fr (by kernel_rfl)
  rintro ⟨⟨i, ad1, a1, c1⟩, hi, had1, hself⟩
  dsimp only at hi had1 hself ⊢
  have hle : (ss.take i).flatten.length ≤ ss.flatten.length := by
    conv => rhs; rw [← List.take_append_drop i ss]
    rw [List.flatten_append, List.length_append]; exact Nat.le_add_right _ _
  have hbl : (bs ++ (ss.take i).flatten).length = bs.length + (ss.take i).flatten.length := List.length_append
  by_cases hlt : i < ss.length
  · have hle2 : ss[i].length ≤ ss.flatten.length := by
      conv => rhs; rw [← List.take_append_drop i ss, ← List.getElem_cons_drop hlt]
      simp only [List.flatten_append, List.flatten_cons, List.length_append]; omega
    refine wpc_fact (fun w h => ro_addr h 2 rfl (by rw [List.length_map]; omega)) ?_
    rintro ⟨g0, o0, rfl⟩
    refine wpc_seq ?_
    refine wpc_region [0] (by kernel_rfl) ?_
    refine wpr_run (l₂ := []) true [0] [] [(9, .bool (decide ((↑i : Int) < (↑ss.length : Int)))), (8, .int .i64 (↑i : Int)), (7, .int .i64 (↑ss.length : Int)), (6, .slice (some ⟨g0, o0, none⟩) ss.length pc), (0, .pointer (some ⟨g, 0, none⟩))] ([.blk g 105 [.pointer ad1, .slice a1 (bs ++ (List.take i ss).flatten).length c1, x], row 5 1 a1 (bs ++ (List.take i ss).flatten).length c1 (u8s (bs ++ (List.take i ss).flatten)), ro (some ⟨g0, o0, none⟩) (List.map strV ss)]) [] (by kernel_rfl) (by kernel_rfl) trivial ?_
    refine wpr_nil (nx_then (wpc_seq ?_))
    refine wpc_ent (ent_set 9 (.bool (decide ((↑i : Int) < (↑ss.length : Int)))) (.bool true) (by kernel_rfl) (congrArg _ (decide_eq_true (by omega)))) ?_
    refine wpc_true (by kernel_rfl) ?_
    refine wpc_skip ?_
    refine nx_then (wpc_seq ?_)
    refine wpc_block ?_
    refine wpc_seq ?_
    refine wpc_region [0, 1, 2] (by kernel_rfl) ?_
    refine wpr_run (l₂ := [1, 2]) true [0] [] ([(10, .pointer (some ⟨g0, o0 + i * 1, none⟩)), (8, .int .i64 (↑i : Int)), (7, .int .i64 (↑ss.length : Int)), (6, .slice (some ⟨g0, o0, none⟩) ss.length pc), (0, .pointer (some ⟨g, 0, none⟩))]) ([.blk g 105 [.pointer ad1, .slice a1 (bs ++ (List.take i ss).flatten).length c1, x], row 5 1 a1 (bs ++ (List.take i ss).flatten).length c1 (u8s (bs ++ (List.take i ss).flatten)), ro (some ⟨g0, o0, none⟩) (List.map strV ss)]) [(0 : Int) ≤ (↑i : Int) ∧ (↑i : Int) < (↑ss.length : Int)] (by kernel_rfl) (by kernel_rfl) ⟨by first | omega | decide | (simp; done), trivial⟩ ?_
    refine wpr_eq (ld (t := 9) (a := ⟨g0, o0 + i * 1, none⟩) (dst := some 11) (by kernel_rfl) false 1 (by kernel_rfl) (by simp) [.string (mkS ss[i])] rfl (fun w h => ld_ro h 2 rfl (i * 1) (map_at strV hlt))) ?_
    refine wpr_run (l₂ := []) true [2] [] [(5, .string (mkS ss[i])), (8, .int .i64 (↑i : Int)), (7, .int .i64 (↑ss.length : Int)), (6, .slice (some ⟨g0, o0, none⟩) ss.length pc), (0, .pointer (some ⟨g, 0, none⟩))] ([.blk g 105 [.pointer ad1, .slice a1 (bs ++ (List.take i ss).flatten).length c1, x], row 5 1 a1 (bs ++ (List.take i ss).flatten).length c1 (u8s (bs ++ (List.take i ss).flatten)), ro (some ⟨g0, o0, none⟩) (List.map strV ss)]) [] (by kernel_rfl) (by kernel_rfl) trivial ?_
    refine wpr_nil (nx_then ?_)
    refine wpc_region [0, 1, 2, 3, 4] (by kernel_rfl) ?_
    refine wpr_run (l₂ := [4]) true [0, 1, 2, 3] [] [(15, .string (mkS ss[i])), (14, .pointer (some ⟨g, 0, none⟩)), (8, .int .i64 (↑i : Int)), (7, .int .i64 (↑ss.length : Int)), (6, .slice (some ⟨g0, o0, none⟩) ss.length pc), (0, .pointer (some ⟨g, 0, none⟩))] ([.blk g 105 [.pointer ad1, .slice a1 (bs ++ (List.take i ss).flatten).length c1, x], row 5 1 a1 (bs ++ (List.take i ss).flatten).length c1 (u8s (bs ++ (List.take i ss).flatten)), ro (some ⟨g0, o0, none⟩) (List.map strV ss)]) [] (by kernel_rfl) (by kernel_rfl) trivial ?_
    refine wpr_call (dst := some 16) (rest := [ro (some ⟨g0, o0, none⟩) (List.map strV ss)]) (by kernel_rfl) (WriteString_spec g ad1 had1 a1 c1 (bs ++ (ss.take i).flatten) x ss[i] (by omega) (by omega)) (give [0, 0] (by kernel_rfl)) ?_
    rintro v _ ⟨a2, c2, rfl, rfl⟩
    rw [show bs ++ (ss.take i).flatten ++ ss[i] = bs ++ (ss.take (i + 1)).flatten by rw [← List.take_append_getElem hlt, List.flatten_append]; simp]
    refine wpr_nil (nx_block (nx_then ?_))
    refine wpc_region [0, 1] (by kernel_rfl) ?_
    refine wpr_run (l₂ := []) true [0, 1] [] ([(8, .int .i64 ((↑i : Int) + 1)), (7, .int .i64 (↑ss.length : Int)), (6, .slice (some ⟨g0, o0, none⟩) ss.length pc), (0, .pointer (some ⟨g, 0, none⟩))]) ([.blk g 105 [.pointer (some ⟨g, 0, none⟩), .slice a2 (bs ++ (List.take (i + 1) ss).flatten).length c2, x], row 5 1 a2 (bs ++ (List.take (i + 1) ss).flatten).length c2 (u8s (bs ++ (List.take (i + 1) ss).flatten)), ro (some ⟨g0, o0, none⟩) (List.map strV ss)]) ([inI64 ((↑i : Int) + (1 : Int))]) (by kernel_rfl) (by kernel_rfl) ⟨by unfold inI64; omega, trivial⟩ ?_
    refine wpr_nil ?_
    exact fun a' w' hS' => ⟨⟨(i + 1, some ⟨g, 0, none⟩, a2, c2), hlt, .inr rfl, fun _ => rfl⟩, by dsimp only; omega, ent_fr (by kernel_rfl) _ _ (ent_hp [0, 0, 0] rfl _ _ hS')⟩
  · obtain rfl : i = ss.length := by omega
    rw [List.take_length]
    obtain rfl := hself (List.length_pos_iff.2 hs0)
    refine wpc_seq ?_
    refine wpc_region [0] (by kernel_rfl) ?_
    refine wpr_run (l₂ := []) true [0] [] [(9, .bool (decide ((↑ss.length : Int) < (↑ss.length : Int)))), (8, .int .i64 (↑ss.length : Int)), (7, .int .i64 (↑ss.length : Int)), (6, .slice p ss.length pc), (0, .pointer (some ⟨g, 0, none⟩))] ([.blk g 105 [.pointer (some ⟨g, 0, none⟩), .slice a1 (bs ++ ss.flatten).length c1, x], row 5 1 a1 (bs ++ ss.flatten).length c1 (u8s (bs ++ ss.flatten)), ro p (List.map strV ss)]) [] (by kernel_rfl) (by kernel_rfl) trivial ?_
    refine wpr_nil (nx_then (wpc_seq ?_))
    refine wpc_ent (ent_set 9 (.bool (decide ((↑ss.length : Int) < (↑ss.length : Int)))) (.bool false) (by kernel_rfl) (congrArg _ (by simp))) ?_
    refine wpc_false (by kernel_rfl) ?_
    refine wpc_exit ?_
    refine nx_then_exit ?_
    refine nx_then_exit ?_
    refine nx_block_here ?_
    refine nx_end (hp' := ([.blk g 105 [.pointer (some ⟨g, 0, none⟩), .slice a1 (bs ++ ss.flatten).length c1, x], row 5 1 a1 (bs ++ ss.flatten).length c1 (u8s (bs ++ ss.flatten))])) (rest := [ro p (List.map strV ss)]) [] ((Value.tuple #[])) (by kernel_rfl) (by kernel_rfl) (give [0, 0] (by kernel_rfl)) (by first | ((repeat (first | exact trivial | refine ⟨trivial, ?_⟩)); done) | assumption) ?_ (.inl rfl)
    exact ⟨a1, c1, rfl, rfl⟩
end Go.Proofs.YtpfhleghgkeemaaGreatDoor
