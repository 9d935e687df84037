import Derived.Test.YtmjhcadciblcdaaB12
import Derived.Test.YtmjhcadciblcdaaX16
namespace Go.Proofs.Ytmjhcadciblcdaa
open Go Go.Sx
set_option linter.unusedVariables false
set_option linter.unusedSimpArgs false

theorem FrameJoined_spec (a0 a1 a2 : Option Addr) (k0 k1 k2 : Nat) (l0 l1 l2 : List UInt8) (n0 : a0 = none → l0 = []) (n1 : a1 = none → l1 = []) (n2 : a2 = none → l2 = []) (q0 : l0.length ≤ 1048576) (q1 : l1.length ≤ 1048576) (q2 : l2.length ≤ 1048576) (p0 : l0.length ≤ k0) (p1 : l1.length ≤ k1) (p2 : l2.length ≤ k2) :
    Does Try.prog 9 [.slice a0 l0.length k0, .slice a1 l1.length k1, .slice a2 l2.length k2] [ro a0 (u8s l0), ro a1 (u8s l1), ro a2 (u8s l2)] (fun v hp' => v = .bool true ∧ hp' = []) := by
  refine fn_enter Try.func9 rfl 69 rfl fun w0 h0 => ?_
  refine wpc_seq ?_
  refine wpc_region [0] (by kernel_rfl) ?_
  refine wpr_run (l₂ := []) true [0] [] [(6, Value.bool false), (0, Value.slice a0 l0.length k0), (1, Value.slice a1 l1.length k1), (2, Value.slice a2 l2.length k2)] [ro a0 (u8s l0), ro a1 (u8s l1), ro a2 (u8s l2)] [] (by kernel_rfl) (by kernel_rfl) trivial ?_
  refine wpr_nil ?_
  refine nx_then ?_
  refine wpc_seq ?_
  refine wpc_seq ?_
  refine wpc_region [0, 1, 2, 3, 4, 5, 6, 7, 8, 9] (by kernel_rfl) ?_
  refine wpr_run (l₂ := [1, 2, 3, 4, 5, 6, 7, 8, 9]) true [0] [] [(10, Value.slice a0 l0.length k0), (6, Value.bool false), (0, Value.slice a0 l0.length k0), (1, Value.slice a1 l1.length k1), (2, Value.slice a2 l2.length k2)] [ro a0 (u8s l0), ro a1 (u8s l1), ro a2 (u8s l2)] [] (by kernel_rfl) (by kernel_rfl) trivial ?_
  refine wpr_call (dst := some 11) (rest := [ro a0 (u8s l0), ro a1 (u8s l1), ro a2 (u8s l2)]) (by kernel_rfl) (Sum_spec a0 k0 l0 n0 (by omega)) (Give.view (c := (ro a0 (u8s l0))) (give (pre := []) (rest := [ro a0 (u8s l0), ro a1 (u8s l1), ro a2 (u8s l2)]) [] (by kernel_rfl)) 0 (by kernel_rfl) view_ro) ?_
  rintro v _ ⟨rfl, rfl⟩
  refine wpr_run (l₂ := [3, 4, 5, 6, 7, 8, 9]) true [2] [] [(12, Value.slice a1 l1.length k1), (11, Value.int IntKind.u32 (↑(more 0 l0).toNat : Int)), (6, Value.bool false), (0, Value.slice a0 l0.length k0), (1, Value.slice a1 l1.length k1), (2, Value.slice a2 l2.length k2)] [ro a0 (u8s l0), ro a1 (u8s l1), ro a2 (u8s l2)] [] (by kernel_rfl) (by kernel_rfl) trivial ?_
  refine wpr_call (dst := some 13) (rest := [ro a0 (u8s l0), ro a1 (u8s l1), ro a2 (u8s l2)]) (by kernel_rfl) (More_spec a1 k1 l1 (more 0 l0) n1 (by omega)) (Give.view (c := (ro a1 (u8s l1))) (give (pre := []) (rest := [ro a0 (u8s l0), ro a1 (u8s l1), ro a2 (u8s l2)]) [] (by kernel_rfl)) 1 (by kernel_rfl) view_ro) ?_
  rintro v _ ⟨rfl, rfl⟩
  refine wpr_run (l₂ := [5, 6, 7, 8, 9]) true [4] [] [(14, Value.slice a0 l0.length k0), (13, Value.int IntKind.u32 (↑(more (more 0 l0) l1).toNat : Int)), (6, Value.bool false), (0, Value.slice a0 l0.length k0), (1, Value.slice a1 l1.length k1), (2, Value.slice a2 l2.length k2)] [ro a0 (u8s l0), ro a1 (u8s l1), ro a2 (u8s l2)] [] (by kernel_rfl) (by kernel_rfl) trivial ?_
  refine wpr_call (dst := some 15) (rest := [ro a0 (u8s l0), ro a1 (u8s l1), ro a2 (u8s l2)]) (by kernel_rfl) (own_spec a0 k0 l0 n0 (by omega)) (Give.view (c := (ro a0 (u8s l0))) (give (pre := []) (rest := [ro a0 (u8s l0), ro a1 (u8s l1), ro a2 (u8s l2)]) [] (by kernel_rfl)) 0 (by kernel_rfl) view_ro) ?_
  rintro v _ ⟨b0, c0, m0, rfl, rfl⟩
  refine wpr_run (l₂ := [7, 8, 9]) true [6] [] [(16, Value.slice a1 l1.length k1), (15, Value.slice b0 l0.length c0), (13, Value.int IntKind.u32 (↑(more (more 0 l0) l1).toNat : Int)), (6, Value.bool false), (0, Value.slice a0 l0.length k0), (1, Value.slice a1 l1.length k1), (2, Value.slice a2 l2.length k2)] [row 5 1 b0 l0.length c0 (u8s l0), ro a0 (u8s l0), ro a1 (u8s l1), ro a2 (u8s l2)] [] (by kernel_rfl) (by kernel_rfl) trivial ?_
  refine wpr_app (a := b0) (n := l0.length) (cap := c0) (x := (Value.slice a1 l1.length k1)) (t := 22) (xt := 22) (dst := some 17) (by kernel_rfl) (e := 5) (sz := 1) (bytes := 1) (by kernel_rfl) 0 (xs := (u8s l0)) (by kernel_rfl) (m := (l1.length)) (news := (u8s l1)) (fun w h => src_ro h 2 rfl (by rw [u8s_len, Nat.mul_one]) (fun e => by rw [n1 e]; rfl)) (by unfold maxLen; omega) (by omega) ?_
  intro b d hbd
  simp only [← u8s_app', ← List.length_append]
  refine wpr_fact (fun w h => row_none h 0 rfl) fun hn => ?_
  refine wpr_ent (ent_turn 0 (ro b (u8s (l0 ++ l1))) rfl (turn_view view_row) rfl) ?_
  have hlen : (l0 ++ l1).length = l0.length + l1.length := by simp
  refine wpr_call (dst := some 18) (rest := ([ro b (u8s (l0 ++ l1)), ro a0 (u8s l0), ro a1 (u8s l1), ro a2 (u8s l2)])) (by kernel_rfl) (Sum_spec b d (l0 ++ l1) (fun e => by simpa [u8s] using hn e) (by omega)) (Give.view (c := (ro b (u8s (l0 ++ l1)))) (give (pre := []) (rest := ([ro b (u8s (l0 ++ l1)), ro a0 (u8s l0), ro a1 (u8s l1), ro a2 (u8s l2)])) [] (by kernel_rfl)) 0 (by kernel_rfl) view_ro) ?_
  rintro v _ ⟨rfl, rfl⟩
  rw [more_append]
  obtain ⟨n, hnm⟩ : ∃ n, n = min (min l0.length l1.length) l2.length := ⟨_, rfl⟩
  refine wpr_run (l₂ := []) true [9] [] [(19, Value.bool ((↑(more (more 0 l0) l1).toNat : Int) != (↑(more (more 0 l0) l1).toNat : Int))), (6, Value.bool false), (0, Value.slice a0 l0.length k0), (1, Value.slice a1 l1.length k1), (2, Value.slice a2 l2.length k2)] ([ro b (u8s (l0 ++ l1)), ro a0 (u8s l0), ro a1 (u8s l1), ro a2 (u8s l2)]) [] (by kernel_rfl) (by kernel_rfl) trivial ?_
  refine wpr_nil ?_
  refine nx_then ?_
  refine wpc_ent (ent_set 19 (Value.bool ((↑(more (more 0 l0) l1).toNat : Int) != (↑(more (more 0 l0) l1).toNat : Int))) (Value.bool false) (by kernel_rfl) (congrArg _ (by simp))) ?_
  refine wpc_false (by kernel_rfl) ?_
  refine wpc_skip ?_
  refine nx_then ?_
  refine wpc_seq ?_
  refine wpc_region [0, 1, 2, 3, 4, 5, 6, 7] (by kernel_rfl) ?_
  refine wpr_run (l₂ := []) true [0, 1, 2, 3, 4, 5, 6, 7] [] [(7, Value.int IntKind.i64 (if (↑l2.length : Int) < if (↑l1.length : Int) < (↑l0.length : Int) then (↑l1.length : Int) else (↑l0.length : Int) then (↑l2.length : Int) else if (↑l1.length : Int) < (↑l0.length : Int) then (↑l1.length : Int) else (↑l0.length : Int))), (6, Value.bool false), (0, Value.slice a0 l0.length k0), (1, Value.slice a1 l1.length k1), (2, Value.slice a2 l2.length k2)] ([ro b (u8s (l0 ++ l1)), ro a0 (u8s l0), ro a1 (u8s l1), ro a2 (u8s l2)]) [] (by kernel_rfl) (by kernel_rfl) trivial ?_
  refine wpr_nil ?_
  refine nx_then ?_
  refine wpc_seq ?_
  refine wpc_region [0] (by kernel_rfl) ?_
  refine wpr_run (l₂ := []) true [0] [] [(8, Value.slice none 0 0), (7, Value.int IntKind.i64 (if (↑l2.length : Int) < if (↑l1.length : Int) < (↑l0.length : Int) then (↑l1.length : Int) else (↑l0.length : Int) then (↑l2.length : Int) else if (↑l1.length : Int) < (↑l0.length : Int) then (↑l1.length : Int) else (↑l0.length : Int))), (6, Value.bool false), (0, Value.slice a0 l0.length k0), (1, Value.slice a1 l1.length k1), (2, Value.slice a2 l2.length k2)] ([ro b (u8s (l0 ++ l1)), ro a0 (u8s l0), ro a1 (u8s l1), ro a2 (u8s l2)]) [] (by kernel_rfl) (by kernel_rfl) trivial ?_
  refine wpr_nil ?_
  refine nx_then ?_
  refine wpc_seq ?_
  refine wpc_seq ?_
  refine wpc_region [0] (by kernel_rfl) ?_
  refine wpr_run (l₂ := []) true [0] [] [(9, Value.int IntKind.i64 0), (8, Value.slice none 0 0), (7, Value.int IntKind.i64 (if (↑l2.length : Int) < if (↑l1.length : Int) < (↑l0.length : Int) then (↑l1.length : Int) else (↑l0.length : Int) then (↑l2.length : Int) else if (↑l1.length : Int) < (↑l0.length : Int) then (↑l1.length : Int) else (↑l0.length : Int))), (6, Value.bool false), (0, Value.slice a0 l0.length k0), (1, Value.slice a1 l1.length k1), (2, Value.slice a2 l2.length k2)] ([ro b (u8s (l0 ++ l1)), ro a0 (u8s l0), ro a1 (u8s l1), ro a2 (u8s l2)]) [] (by kernel_rfl) (by kernel_rfl) trivial ?_
  refine wpr_nil ?_
  refine nx_then ?_
  refine wpc_block ?_
  have hn0 : n ≤ l0.length := by omega
  have hn1 : n ≤ l1.length := by omega
  have hn2 : n ≤ l2.length := by omega
  refine wpc_ent (ent_set 7 (Value.int IntKind.i64 (if (↑l2.length : Int) < if (↑l1.length : Int) < (↑l0.length : Int) then (↑l1.length : Int) else (↑l0.length : Int) then (↑l2.length : Int) else if (↑l1.length : Int) < (↑l0.length : Int) then (↑l1.length : Int) else (↑l0.length : Int))) (Value.int .i64 (n : Int)) (by kernel_rfl) (by congr 1; split <;> split at * <;> omega)) ?_
  obtain ⟨X, hX⟩ : ∃ X, X = xor2 (xor2 (l0.take n) (l1.take n)) (l2.take n) := ⟨_, rfl⟩
  have hXl : X.length = n := by rw [hX]; simp [xor2]; omega
  refine wpc_ent (ent_nil 5 1) ?_
  refine wpc_loop (X := {x : Nat × Option Addr × Nat // x.1 ≤ n}) (fun x => St.mk [(9, .int .i64 (x.1.1 : Int)), (8, .slice x.1.2.1 (X.take x.1.1).length x.1.2.2), (7, .int .i64 (n : Int)), (6, .bool false), (0, .slice a0 l0.length k0), (1, .slice a1 l1.length k1), (2, .slice a2 l2.length k2)] [row 5 1 x.1.2.1 (X.take x.1.1).length x.1.2.2 (u8s (X.take x.1.1)), ro a0 (u8s l0), ro a1 (u8s l1), ro a2 (u8s l2)]) (fun x => n - x.1.1) ⟨(0, none, 0), Nat.zero_le _⟩ (Ent.trans (ent_hp [0, 1, 1, 1] rfl) (ent_fr (by kernel_rfl))) ?_
  rintro ⟨⟨i, ad, cd⟩, hi⟩
  dsimp only at hi ⊢
  refine wpc_seq ?_
  refine wpc_seq ?_
  refine wpc_region [0, 1, 2] (by kernel_rfl) ?_
  refine wpr_run (l₂ := []) true [0, 1, 2] [] [(29, Value.bool (decide ((↑i : Int) < (↑n : Int)))), (9, Value.int IntKind.i64 (↑i : Int)), (8, Value.slice ad (List.take i X).length cd), (7, Value.int IntKind.i64 (↑n : Int)), (6, Value.bool false), (0, Value.slice a0 l0.length k0), (1, Value.slice a1 l1.length k1), (2, Value.slice a2 l2.length k2)] [row 5 1 ad (List.take i X).length cd (u8s (List.take i X)), ro a0 (u8s l0), ro a1 (u8s l1), ro a2 (u8s l2)] [] (by kernel_rfl) (by kernel_rfl) trivial ?_
  refine wpr_nil ?_
  refine nx_then ?_
  refine wpc_if (((↑i : Int) < (↑n : Int))) (by kernel_rfl) (fun hlt => ?_) (fun hlt => ?_)
  · have hin : i < n := by omega
    refine wpc_fact (fun w h => ro_addr h 1 rfl (by rw [u8s_len]; omega)) ?_
    rintro ⟨g0, o0, rfl⟩
    refine wpc_fact (fun w h => ro_addr h 2 rfl (by rw [u8s_len]; omega)) ?_
    rintro ⟨g1, o1, rfl⟩
    refine wpc_fact (fun w h => ro_addr h 3 rfl (by rw [u8s_len]; omega)) ?_
    rintro ⟨g2, o2, rfl⟩
    refine wpc_skip ?_
    refine nx_then ?_
    refine wpc_seq ?_
    refine wpc_block ?_
    refine wpc_draw (by kernel_rfl) [ro (some { block := g0, off := o0 }) (u8s l0), ro (some { block := g1, off := o1 }) (u8s l1), ro (some { block := g2, off := o2 }) (u8s l2)] (sub_of [1, 2, 3] (by kernel_rfl)) 18 (by kernel_rfl) ?_
    refine wpa_take true [(0, []), (1, []), (2, []), (3, []), (5, []), (6, []), (7, []), (10, []), (11, []), (12, [])] ([(44, Value.pointer (some { block := g2, off := o2 + i * 1 })), (39, Value.pointer (some { block := g1, off := o1 + i * 1 })), (35, Value.pointer (some { block := g0, off := o0 + i * 1 })), (32, Value.slice ad (List.take i X).length cd), (9, Value.int IntKind.i64 (↑i : Int)), (8, Value.slice ad (List.take i X).length cd), (7, Value.int IntKind.i64 (↑n : Int)), (6, Value.bool false), (0, Value.slice (some { block := g0, off := o0 }) l0.length k0), (1, Value.slice (some { block := g1, off := o1 }) l1.length k1), (2, Value.slice (some { block := g2, off := o2 }) l2.length k2)]) (#[true, true, true, true, false, true, true, true, false, false, true, true, true, false, false, false, false, false]) [(0 : Int) ≤ (↑i : Int) ∧ (↑i : Int) < (↑l0.length : Int), (0 : Int) ≤ (↑i : Int) ∧ (↑i : Int) < (↑l1.length : Int), (0 : Int) ≤ (↑i : Int) ∧ (↑i : Int) < (↑l2.length : Int)] (n := 8) (by kernel_rfl) (by kernel_rfl) (by kernel_rfl) ⟨by omega, by omega, by omega, trivial⟩ ?_
    have i0 : i < l0.length := by omega
    have i1 : i < l1.length := by omega
    have i2 : i < l2.length := by omega
    refine wpa_qld (i := 4) (n := 7) (by kernel_rfl) (by kernel_rfl) (by kernel_rfl) (t := 5) (a := ({ block := g0, off := o0 + i * 1 })) (dst := some 36) (by kernel_rfl) false 1 (by kernel_rfl) (by simp) [.int .u8 (l0[i]).toNat] rfl (fun w h => ld_roL h 0 rfl (i * 1) (u8_at1 i0)) ?_
    refine wpa_qld (i := 8) (n := 6) (by kernel_rfl) (by kernel_rfl) (by kernel_rfl) (t := 5) (a := ({ block := g1, off := o1 + i * 1 })) (dst := some 40) (by kernel_rfl) false 1 (by kernel_rfl) (by simp) [.int .u8 (l1[i]).toNat] rfl (fun w h => ld_roL h 1 rfl (i * 1) (u8_at1 i1)) ?_
    refine wpa_qld (i := 13) (n := 5) (by kernel_rfl) (by kernel_rfl) (by kernel_rfl) (t := 5) (a := ({ block := g2, off := o2 + i * 1 })) (dst := some 45) (by kernel_rfl) false 1 (by kernel_rfl) (by simp) [.int .u8 (l2[i]).toNat] rfl (fun w h => ld_roL h 2 rfl (i * 1) (u8_at1 i2)) ?_
    refine wpa_take true [(9, []), (14, [])] [(46, Value.int IntKind.u8 (IntKind.u8.wrap (↑(BitVec.ofInt IntKind.u8.bits (IntKind.u8.wrap (↑(BitVec.ofInt IntKind.u8.bits (↑l0[i].toNat : Int) ^^^ BitVec.ofInt IntKind.u8.bits (↑l1[i].toNat : Int)).toNat : Int)) ^^^ BitVec.ofInt IntKind.u8.bits (↑l2[i].toNat : Int)).toNat : Int))), (32, Value.slice ad (List.take i X).length cd), (9, Value.int IntKind.i64 (↑i : Int)), (8, Value.slice ad (List.take i X).length cd), (7, Value.int IntKind.i64 (↑n : Int)), (6, Value.bool false), (0, Value.slice (some { block := g0, off := o0 }) l0.length k0), (1, Value.slice (some { block := g1, off := o1 }) l1.length k1), (2, Value.slice (some { block := g2, off := o2 }) l2.length k2)] (#[true, true, true, true, true, true, true, true, true, true, true, true, true, true, true, false, false, false]) [] (n := 3) (by kernel_rfl) (by kernel_rfl) (by kernel_rfl) trivial ?_
    refine wpa_new (n := 2) true 15 [] (fun g3 => [(47, Value.slice (some { block := g3, off := 0 }) 1 1), (32, Value.slice ad (List.take i X).length cd), (9, Value.int IntKind.i64 (↑i : Int)), (8, Value.slice ad (List.take i X).length cd), (7, Value.int IntKind.i64 (↑n : Int)), (6, Value.bool false), (0, Value.slice (some { block := g0, off := o0 }) l0.length k0), (1, Value.slice (some { block := g1, off := o1 }) l1.length k1), (2, Value.slice (some { block := g2, off := o2 }) l2.length k2)]) (fun g3 => [row 5 1 ad (List.take i X).length cd (u8s (List.take i X)), ro (some { block := g0, off := o0 }) (u8s l0), ro (some { block := g1, off := o1 }) (u8s l1), ro (some { block := g2, off := o2 }) (u8s l2), Ch.blk g3 5 [Value.int IntKind.u8 (IntKind.u8.wrap (↑(BitVec.ofInt IntKind.u8.bits (IntKind.u8.wrap (↑(BitVec.ofInt IntKind.u8.bits (↑l0[i].toNat : Int) ^^^ BitVec.ofInt IntKind.u8.bits (↑l1[i].toNat : Int)).toNat : Int)) ^^^ BitVec.ofInt IntKind.u8.bits (↑l2[i].toNat : Int)).toNat : Int))]]) (fun g3 => []) (by kernel_rfl) (fun g3 => by kernel_rfl) (fun g3 => by kernel_rfl) (fun g3 => trivial) (fun g3 => sub_of [1, 2, 3] (by kernel_rfl)) fun g3 => ?_
    have htl : (X.take i).length = i := by rw [List.length_take]; omega
    have hXi : X[i]'(by omega) = l0[i] ^^^ l1[i] ^^^ l2[i] := by subst hX; simp [xor2]
    refine wpa_ent (ent_turn 4 (ro (some ⟨g3, 0, none⟩) (u8s [X[i]'(by omega)])) rfl (turn_ro [X[i]'(by omega)] (by rw [xor_u8, xor_u8, hXi]; rfl)) rfl) ?_
    refine wpa_app (i := 16) (nf := 1) (by kernel_rfl) (a := ad) (n := ((List.take i X).length)) (cap := cd) (x := (Value.slice (some { block := g3, off := 0 }) 1 1)) (t := 22) (xt := 22) (dst := some 48) (by kernel_rfl) (e := 5) (sz := 1) (bytes := 1) (by kernel_rfl) 0 (xs := (u8s (List.take i X))) (by kernel_rfl) (m := 1) (news := (u8s [X[i]'(by omega)])) (fun w h => src_ro h 4 rfl rfl (fun e => by cases e)) (by unfold maxLen; omega) (by omega) [0, 1, 2] (by kernel_rfl) ?_
    intro b' d' hb'
    have e1 : u8s (X.take i) ++ u8s [X[i]'(by omega)] = u8s (X.take (i + 1)) := by rw [← u8s_app', List.take_append_getElem]
    have e2 : (X.take i).length + 1 = (X.take (i + 1)).length := by rw [List.length_take, List.length_take]; omega
    rw [e1, e2]
    refine wpa_take true [(17, [])] ([(8, Value.slice b' (List.take (i + 1) X).length d'), (9, Value.int IntKind.i64 (↑i : Int)), (7, Value.int IntKind.i64 (↑n : Int)), (6, Value.bool false), (0, Value.slice (some { block := g0, off := o0 }) l0.length k0), (1, Value.slice (some { block := g1, off := o1 }) l1.length k1), (2, Value.slice (some { block := g2, off := o2 }) l2.length k2)]) (#[true, true, true, true, true, true, true, true, true, true, true, true, true, true, true, true, true, true]) [] (n := 0) (by kernel_rfl) (by kernel_rfl) (by kernel_rfl) trivial ?_
    refine wpa_done 0 (by kernel_rfl) ?_
    refine nx_block ?_
    refine nx_then ?_
    refine wpc_region [0, 1, 2] (by kernel_rfl) ?_
    refine wpr_run (l₂ := []) true [0, 1, 2] [] ([(9, Value.int IntKind.i64 ((↑i : Int) + 1)), (8, Value.slice b' (List.take (i + 1) X).length d'), (7, Value.int IntKind.i64 (↑n : Int)), (6, Value.bool false), (0, Value.slice (some { block := g0, off := o0 }) l0.length k0), (1, Value.slice (some { block := g1, off := o1 }) l1.length k1), (2, Value.slice (some { block := g2, off := o2 }) l2.length k2)]) ([row 5 1 b' (List.take (i + 1) X).length d' (u8s (List.take (i + 1) X)), ro (some { block := g0, off := o0 }) (u8s l0), ro (some { block := g1, off := o1 }) (u8s l1), ro (some { block := g2, off := o2 }) (u8s l2), ro (some { block := g3, off := 0 }) (u8s [X[i]])]) ([inI64 ((↑i : Int) + (1 : Int))]) (by kernel_rfl) (by kernel_rfl) ⟨by unfold inI64; omega, trivial⟩ ?_
    refine wpr_nil ?_
    exact fun a' w' hS' => ⟨⟨(i + 1, b', d'), by omega⟩, by dsimp only; omega, ent_fr (by kernel_rfl) _ _ (ent_hp [0, 0, 0, 0] rfl _ _ hS')⟩
  · have hin : i = n := by omega
    subst hin
    rw [List.take_of_length_le (by omega : X.length ≤ i)]
    refine wpc_exit ?_
    refine nx_then_exit ?_
    refine nx_then_exit ?_
    refine nx_block_here ?_
    refine nx_then ?_
    refine wpc_seq ?_
    refine wpc_fact (fun w h => row_none h 0 rfl) fun hnx => ?_
    have vw : ∀ (a : Option Addr) (l : List UInt8), View (ro a (u8s l)) (ro a (u8s (l.take i))) := fun a l => by
      have h := view_front (a := a) (xs := u8s l) i
      rw [show (u8s l).take i = u8s (l.take i) by simp [u8s, List.map_take]] at h
      exact h
    have t0 : (l0.take i).length = i := by rw [List.length_take]; omega
    have t1 : (l1.take i).length = i := by rw [List.length_take]; omega
    have t2 : (l2.take i).length = i := by rw [List.length_take]; omega
    refine wpc_ent (ent_turn 0 (ro ad (u8s X)) rfl (turn_view view_row) rfl) ?_
    refine wpc_ent (ent_turn 1 (ro a0 (u8s (l0.take i))) rfl (turn_view (vw a0 l0)) rfl) ?_
    refine wpc_ent (ent_turn 2 (ro a1 (u8s (l1.take i))) rfl (turn_view (vw a1 l1)) rfl) ?_
    refine wpc_ent (ent_turn 3 (ro a2 (u8s (l2.take i))) rfl (turn_view (vw a2 l2)) rfl) ?_
    refine wpc_draw (by kernel_rfl) [ro ad (u8s X), ro a0 (u8s (List.take i l0)), ro a1 (u8s (List.take i l1)), ro a2 (u8s (List.take i l2))] (sub_of [0, 1, 2, 3] (by kernel_rfl)) 21 (by kernel_rfl) ?_
    refine wpa_take true [(0, []), (2, []), (3, []), (4, []), (6, []), (7, []), (8, []), (11, []), (12, []), (13, [])] [(62, Value.slice a2 i k2), (57, Value.slice a1 i k1), (53, Value.slice a0 i k0), (49, Value.slice ad X.length cd), (6, Value.bool false)] (#[true, false, true, true, true, false, true, true, true, false, false, true, true, true, false, false, false, false, false, false, false]) [(0 : Int) ≤ (↑i : Int) ∧ (↑i : Int) ≤ (↑k0 : Int), (0 : Int) ≤ (↑i : Int) ∧ (↑i : Int) ≤ (↑k1 : Int), (0 : Int) ≤ (↑i : Int) ∧ (↑i : Int) ≤ (↑k2 : Int)] (n := 11) (by kernel_rfl) (by kernel_rfl) (by kernel_rfl) ⟨by omega, by omega, by omega, trivial⟩ ?_
    refine wpa_call (i := 1) (n := 10) (dst := some 50) (rest := [ro ad (u8s X), ro a0 (u8s (List.take i l0)), ro a1 (u8s (List.take i l1)), ro a2 (u8s (List.take i l2))]) (by kernel_rfl) (by kernel_rfl) (Sum_spec ad cd X (fun e => by simpa [u8s] using hnx e) (by omega)) (Give.view (c := (ro ad (u8s X))) (give (pre := []) (rest := [ro ad (u8s X), ro a0 (u8s (List.take i l0)), ro a1 (u8s (List.take i l1)), ro a2 (u8s (List.take i l2))]) [] (by kernel_rfl)) 0 (by kernel_rfl) view_ro) (sub_of [0, 1, 2, 3] (by kernel_rfl)) ?_
    rintro v _ ⟨rfl, rfl⟩
    refine wpa_ent (ent_set 53 (Value.slice a0 i k0) (Value.slice a0 (l0.take i).length k0) (by kernel_rfl) (by rw [t0])) ?_
    refine wpa_call (i := 5) (n := 9) (dst := some 54) (rest := [ro ad (u8s X), ro a0 (u8s (List.take i l0)), ro a1 (u8s (List.take i l1)), ro a2 (u8s (List.take i l2))]) (by kernel_rfl) (by kernel_rfl) (Sum_spec a0 k0 (l0.take i) (fun e => by rw [n0 e]; simp) (by omega)) (Give.view (c := (ro a0 (u8s (List.take i l0)))) (give (pre := []) (rest := [ro ad (u8s X), ro a0 (u8s (List.take i l0)), ro a1 (u8s (List.take i l1)), ro a2 (u8s (List.take i l2))]) [] (by kernel_rfl)) 1 (by kernel_rfl) view_ro) (sub_of [0, 1, 2, 3] (by kernel_rfl)) ?_
    rintro v _ ⟨rfl, rfl⟩
    refine wpa_ent (ent_set 57 (Value.slice a1 i k1) (Value.slice a1 (l1.take i).length k1) (by kernel_rfl) (by rw [t1])) ?_
    refine wpa_call (i := 9) (n := 8) (dst := some 58) (rest := [ro ad (u8s X), ro a0 (u8s (List.take i l0)), ro a1 (u8s (List.take i l1)), ro a2 (u8s (List.take i l2))]) (by kernel_rfl) (by kernel_rfl) (Sum_spec a1 k1 (l1.take i) (fun e => by rw [n1 e]; simp) (by omega)) (Give.view (c := (ro a1 (u8s (List.take i l1)))) (give (pre := []) (rest := [ro ad (u8s X), ro a0 (u8s (List.take i l0)), ro a1 (u8s (List.take i l1)), ro a2 (u8s (List.take i l2))]) [] (by kernel_rfl)) 2 (by kernel_rfl) view_ro) (sub_of [0, 1, 2, 3] (by kernel_rfl)) ?_
    rintro v _ ⟨rfl, rfl⟩
    refine wpa_take true [(10, [])] [(59, Value.int IntKind.u32 (IntKind.u32.wrap (↑(BitVec.ofInt IntKind.u32.bits (↑(more 0 (List.take i l0)).toNat : Int) ^^^ BitVec.ofInt IntKind.u32.bits (↑(more 0 (List.take i l1)).toNat : Int)).toNat : Int))), (50, Value.int IntKind.u32 (↑(more 0 X).toNat : Int)), (62, Value.slice a2 i k2), (6, Value.bool false)] (#[true, true, true, true, true, true, true, true, true, true, true, true, true, true, false, false, false, false, false, false, false]) [] (n := 7) (by kernel_rfl) (by kernel_rfl) (by kernel_rfl) trivial ?_
    refine wpa_ent (ent_set 62 (Value.slice a2 i k2) (Value.slice a2 (l2.take i).length k2) (by kernel_rfl) (by rw [t2])) ?_
    refine wpa_call (i := 14) (n := 6) (dst := some 63) (rest := [ro ad (u8s X), ro a0 (u8s (List.take i l0)), ro a1 (u8s (List.take i l1)), ro a2 (u8s (List.take i l2))]) (by kernel_rfl) (by kernel_rfl) (Sum_spec a2 k2 (l2.take i) (fun e => by rw [n2 e]; simp) (by omega)) (Give.view (c := (ro a2 (u8s (List.take i l2)))) (give (pre := []) (rest := [ro ad (u8s X), ro a0 (u8s (List.take i l0)), ro a1 (u8s (List.take i l1)), ro a2 (u8s (List.take i l2))]) [] (by kernel_rfl)) 3 (by kernel_rfl) view_ro) (sub_of [0, 1, 2, 3] (by kernel_rfl)) ?_
    rintro v _ ⟨rfl, rfl⟩
    refine wpa_take true [(15, []), (16, []), (17, [])] [(66, Value.bool ((↑(more 0 X).toNat : Int) == IntKind.u32.wrap (↑(BitVec.ofInt IntKind.u32.bits (IntKind.u32.wrap (↑(BitVec.ofInt IntKind.u32.bits (↑(more 0 (List.take i l0)).toNat : Int) ^^^ BitVec.ofInt IntKind.u32.bits (↑(more 0 (List.take i l1)).toNat : Int)).toNat : Int)) ^^^ BitVec.ofInt IntKind.u32.bits (↑(more 0 (List.take i l2)).toNat : Int)).toNat : Int))), (6, Value.bool false)] (#[true, true, true, true, true, true, true, true, true, true, true, true, true, true, true, true, true, true, false, false, false]) [] (n := 3) (by kernel_rfl) (by kernel_rfl) (by kernel_rfl) trivial ?_
    refine wpa_ent (ent_set 66 (Value.bool ((↑(more 0 X).toNat : Int) == IntKind.u32.wrap (↑(BitVec.ofInt IntKind.u32.bits (IntKind.u32.wrap (↑(BitVec.ofInt IntKind.u32.bits (↑(more 0 (List.take i l0)).toNat : Int) ^^^ BitVec.ofInt IntKind.u32.bits (↑(more 0 (List.take i l1)).toNat : Int)).toNat : Int)) ^^^ BitVec.ofInt IntKind.u32.bits (↑(more 0 (List.take i l2)).toNat : Int)).toNat : Int))) (Value.bool true) (by kernel_rfl) (by rw [xor32, xor32, hX, more_xor3 _ _ _ (t0.trans t1.symm) (t1.trans t2.symm)]; simp)) ?_
    refine wpa_call (i := 18) (n := 2) (dst := some 67) (rest := [ro ad (u8s X), ro a0 (u8s (List.take i l0)), ro a1 (u8s (List.take i l1)), ro a2 (u8s (List.take i l2))]) (by kernel_rfl) (by kernel_rfl) (lives_spec) (give [] (by kernel_rfl)) (sub_of [0, 1, 2, 3] (by kernel_rfl)) ?_
    rintro v _ ⟨rfl, rfl⟩
    refine wpa_take true [(19, []), (20, [])] [(6, Value.bool true)] (#[true, true, true, true, true, true, true, true, true, true, true, true, true, true, true, true, true, true, true, true, true]) [] (n := 0) (by kernel_rfl) (by kernel_rfl) (by kernel_rfl) trivial ?_
    refine wpa_done 0 (by kernel_rfl) ?_
    refine nx_then ?_
    refine wpc_ret ?_
    refine nx_end (hp' := []) (rest := [ro ad (u8s X), ro a0 (u8s (List.take i l0)), ro a1 (u8s (List.take i l1)), ro a2 (u8s (List.take i l2))]) [] ((Value.bool true)) (by kernel_rfl) (by kernel_rfl) (give [] (by kernel_rfl)) (by first | ((repeat (first | exact trivial | refine ⟨trivial, ?_⟩)); done) | assumption) ?_ (.inr rfl)
    exact ⟨rfl, rfl⟩
end Go.Proofs.Ytmjhcadciblcdaa
