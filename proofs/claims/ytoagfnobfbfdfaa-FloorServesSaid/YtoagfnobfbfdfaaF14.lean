import Derived.Test.YtoagfnobfbfdfaaF13
import Derived.Test.YtoagfnobfbfdfaaX13
namespace Go.Proofs.Ytoagfnobfbfdfaa
open Go Go.Sx
set_option linter.unusedVariables false
set_option linter.unusedSimpArgs false

theorem ask0_zero (q : List Int) (x : Int) : (askN 0 0 q x).1 = 0 := by
  by_cases h : (askN 0 0 q x).1 = 0
  · exact h
  · have := ask_holder h; omega
theorem serve1 {q : List Int} {c : Int} (h : Ok 0 q) (hc : c ∈ q) : askF 1 0 q c = (0, c, q.erase c) ∧ askN 1 0 q c = (c, q.erase c) := by
  have hcl := (h.2.2.1 c hc).1
  have hb : bad 0 q c = 0 := by unfold bad; rw [if_pos h, if_pos hcl]
  have e : askF 1 0 q c = (0, c, q.erase c) := by
    unfold askF; rw [if_pos rfl]; unfold grant; rw [if_neg (by rw [hb]; decide), if_pos hc]
  exact ⟨e, by unfold askN; rw [e]; rfl⟩
theorem serve2 {q : List Int} {c : Int} (h : Ok c q) (hcl : cl c = true) : askF 3 c q c = (0, 0, q) ∧ askN 3 c q c = (0, q) := by
  have hb : bad c q c = 0 := by unfold bad; rw [if_pos h, if_pos hcl]
  have e : askF 3 c q c = (0, 0, q) := by
    unfold askF; rw [if_neg (by decide), if_neg (by decide), if_pos rfl]; unfold release; rw [if_neg (by rw [hb]; decide), if_neg (by simp)]
  exact ⟨e, by unfold askN; rw [e]; rfl⟩

structure HX (n : Nat) where
  i : Nat
  q : List Int
  a : Option Addr
  c : Nat
  hi : i ≤ n
  ok : Ok 0 q
structure KX where
  q : List Int
  a : Option Addr
  c : Nat
  ok : Ok 0 q

set_option maxHeartbeats 4000000 in
theorem FloorServes_spec (al : Option Addr) (cl_ : Nat) (l : List Int) (ha : al = none → l = []) (hl : l.length ≤ 9223372036854775807) :
    Does Try.prog 6 [.slice al l.length cl_] [ro al (ints l)] (fun v hp' => v = .bool true ∧ hp' = []) := by
  refine fn_enter Try.func6 rfl 93 rfl fun w0 h0 => ?_
  refine wpc_seq ?_
  refine wpc_region [0] (by kernel_rfl) ?_
  refine wpr_run (l₂ := []) true [0] [] [(2, Value.bool false), (0, Value.slice al l.length cl_)] [ro al (ints l)] [] (by kernel_rfl) (by kernel_rfl) trivial ?_
  refine wpr_nil ?_
  refine nx_then ?_
  refine wpc_seq ?_
  refine wpc_region [0] (by kernel_rfl) ?_
  refine wpr_new (l₂ := []) true [0] [] (fun g1 => [(3, Value.pointer (some { block := g1, off := 0 })), (2, Value.bool false), (0, Value.slice al l.length cl_)]) (fun g1 => [ro al (ints l), Ch.blk g1 24 [Value.int IntKind.i64 0, Value.slice none 0 0]]) (fun g1 => []) (fun g1 => by kernel_rfl) (fun g1 => by kernel_rfl) (fun g1 => trivial) fun g1 => ?_
  refine wpr_nil ?_
  refine nx_then ?_
  refine wpc_seq ?_
  refine wpc_seq ?_
  refine wpc_region [0] (by kernel_rfl) ?_
  refine wpr_run (l₂ := []) true [0] [] [(4, Value.int IntKind.i64 0), (3, Value.pointer (some { block := g1, off := 0 })), (2, Value.bool false), (0, Value.slice al l.length cl_)] [ro al (ints l), Ch.blk g1 24 [Value.int IntKind.i64 0, Value.slice none 0 0]] [] (by kernel_rfl) (by kernel_rfl) trivial ?_
  refine wpr_nil ?_
  refine nx_then ?_
  refine wpc_block ?_
  refine wpc_ent (ent_nil 3 1) ?_
  refine wpc_loop (X := HX l.length) (fun x => St.mk [(4, .int .i64 (x.i : Int)), (3, .pointer (some ⟨g1, 0, none⟩)), (2, .bool false), (0, .slice al l.length cl_)]
    [ro al (ints l), row 3 1 x.a x.q.length x.c (ints x.q), .blk g1 24 [.int .i64 0, .slice x.a x.q.length x.c]]) (fun x => l.length - x.i) ⟨0, [], none, 0, Nat.zero_le _, by decide⟩ ?_ ?_
  · exact fun a w hS => ent_fr (by kernel_rfl) _ _ (ent_hp [1, 0, 0] rfl _ _ hS)
  rintro ⟨i, q, a, c, hi, ok⟩
  dsimp only at hi ok ⊢
  have hq4 := ok.2.1
  by_cases hb : i < l.length ∧ i < 100
  · obtain ⟨hil, hi100⟩ := hb
    have ok' := ok_askN (k := 0) (x := l[i]) ok
    rw [ask0_zero] at ok'
    have hz := ask0_zero q l[i]
    refine wpc_fact (fun w h => ro_addr h 0 rfl (by rw [ints_len]; omega)) ?_
    rintro ⟨w1, o1, rfl⟩
    refine wpc_seq ?_
    refine wpc_seq ?_
    refine wpc_region [0, 1, 2, 3, 4, 5, 6, 7] (by kernel_rfl) ?_
    refine wpr_run (l₂ := [5, 6, 7]) true [0, 1, 2, 3, 4] [] [(15, Value.bool (decide ((↑i : Int) < (↑l.length : Int)))), (4, Value.int IntKind.i64 (↑i : Int)), (3, Value.pointer (some { block := g1, off := 0 })), (2, Value.bool false), (0, Value.slice (some { block := w1, off := o1 }) l.length cl_)] [ro (some { block := w1, off := o1 }) (ints l), row 3 1 a q.length c (ints q), Ch.blk g1 24 [Value.int IntKind.i64 0, Value.slice a q.length c]] [] (by kernel_rfl) (by kernel_rfl) trivial ?_
    refine wpr_ent (ent_set 15 (Value.bool (decide ((↑i : Int) < (↑l.length : Int)))) (Value.bool true) (by kernel_rfl) (congrArg _ (decide_eq_true (by omega)))) ?_
    refine wpr_run (l₂ := []) true [5, 6, 7] [] [(18, Value.bool (decide ((↑i : Int) < 100))), (4, Value.int IntKind.i64 (↑i : Int)), (3, Value.pointer (some { block := g1, off := 0 })), (2, Value.bool false), (0, Value.slice (some { block := w1, off := o1 }) l.length cl_)] [ro (some { block := w1, off := o1 }) (ints l), row 3 1 a q.length c (ints q), Ch.blk g1 24 [Value.int IntKind.i64 0, Value.slice a q.length c]] [] (by kernel_rfl) (by kernel_rfl) trivial ?_
    refine wpr_nil ?_
    refine nx_then ?_
    refine wpc_ent (ent_set 18 (Value.bool (decide ((↑i : Int) < 100))) (Value.bool true) (by kernel_rfl) (congrArg _ (decide_eq_true (by omega)))) ?_
    refine wpc_true (by kernel_rfl) ?_
    refine wpc_skip ?_
    refine nx_then ?_
    refine wpc_seq ?_
    refine wpc_block ?_
    refine wpc_draw (by kernel_rfl) [ro (some { block := w1, off := o1 }) (ints l)] (sub_of [0] (by kernel_rfl)) 11 (by kernel_rfl) ?_
    refine wpa_take true [(1, []), (2, []), (3, [])] ([(25, Value.pointer (some { block := w1, off := o1 + i * 1 })), (4, Value.int IntKind.i64 (↑i : Int)), (3, Value.pointer (some { block := g1, off := 0 })), (2, Value.bool false), (0, Value.slice (some { block := w1, off := o1 }) l.length cl_)]) (#[false, true, true, true, false, false, false, false, false, false, false]) [(0 : Int) ≤ (↑i : Int) ∧ (↑i : Int) < (↑l.length : Int)] (n := 8) (by kernel_rfl) (by kernel_rfl) (by kernel_rfl) ⟨by omega, trivial⟩ ?_
    refine wpa_qld (i := 4) (n := 7) (by kernel_rfl) (by kernel_rfl) (by kernel_rfl) (t := 3) (a := ({ block := w1, off := o1 + i * 1 })) (dst := some 26) (by kernel_rfl) false 1 (by kernel_rfl) (by simp) [.int .i64 l[i]] rfl (fun w h => ld_roL h 0 rfl (i * 1) (ints_at hil)) ?_
    refine wpa_take true [(5, [])] [(27, Value.agg #[Value.int IntKind.i64 0, Value.int IntKind.i64 l[i]]), (4, Value.int IntKind.i64 (↑i : Int)), (3, Value.pointer (some { block := g1, off := 0 })), (2, Value.bool false), (0, Value.slice (some { block := w1, off := o1 }) l.length cl_)] (#[false, true, true, true, true, true, false, false, false, false, false]) [] (n := 6) (by kernel_rfl) (by kernel_rfl) (by kernel_rfl) trivial ?_
    refine wpa_one (n := 5) true 0 [2, 2] [(22, Value.agg #[Value.int IntKind.i64 0, Value.slice a q.length c]), (27, Value.agg #[Value.int IntKind.i64 0, Value.int IntKind.i64 l[i]]), (4, Value.int IntKind.i64 (↑i : Int)), (3, Value.pointer (some { block := g1, off := 0 })), (2, Value.bool false), (0, Value.slice (some { block := w1, off := o1 }) l.length cl_)] [ro (some { block := w1, off := o1 }) (ints l), row 3 1 a q.length c (ints q), Ch.blk g1 24 [Value.int IntKind.i64 0, Value.slice a q.length c]] [] (by kernel_rfl) (by kernel_rfl) (by kernel_rfl) trivial (sub_of [0] (by kernel_rfl)) ?_
    refine wpa_call (i := 6) (n := 4) (dst := some 28) (rest := [ro (some { block := w1, off := o1 }) (ints l), Ch.blk g1 24 [Value.int IntKind.i64 0, Value.slice a q.length c]]) (by kernel_rfl) (by kernel_rfl) (lask_spec 0 a c q 0 l[i] (by omega)) (give [1] (by kernel_rfl)) (sub_of [0] (by kernel_rfl)) ?_
    rintro v hp' ⟨a1, c1, rfl, rfl⟩
    rw [hz]
    unfold fl
    refine wpa_take true [(7, []), (8, []), (9, [])] [(29, Value.agg #[Value.int IntKind.i64 0, Value.slice a1 (askN 0 0 q l[i]).snd.length c1]), (4, Value.int IntKind.i64 (↑i : Int)), (3, Value.pointer (some { block := g1, off := 0 })), (2, Value.bool false), (0, Value.slice (some { block := w1, off := o1 }) l.length cl_)] (#[true, true, true, true, true, true, true, true, true, true, false]) [] (n := 1) (by kernel_rfl) (by kernel_rfl) (by kernel_rfl) trivial ?_
    refine wpa_one (n := 0) true 10 [2, 2] [(4, Value.int IntKind.i64 (↑i : Int)), (3, Value.pointer (some { block := g1, off := 0 })), (2, Value.bool false), (0, Value.slice (some { block := w1, off := o1 }) l.length cl_)] [row 3 1 a1 (askN 0 0 q l[i]).snd.length c1 (ints (askN 0 0 q l[i]).snd), ro (some { block := w1, off := o1 }) (ints l), Ch.blk g1 24 [Value.int IntKind.i64 0, Value.slice a1 (askN 0 0 q l[i]).snd.length c1]] [] (by kernel_rfl) (by kernel_rfl) (by kernel_rfl) trivial (sub_of [1] (by kernel_rfl)) ?_
    refine wpa_done 0 (by kernel_rfl) ?_
    refine nx_block ?_
    refine nx_then ?_
    refine wpc_region [0, 1, 2] (by kernel_rfl) ?_
    refine wpr_run (l₂ := []) true [0, 1, 2] [] ([(4, Value.int IntKind.i64 ((↑i : Int) + 1)), (3, Value.pointer (some { block := g1, off := 0 })), (2, Value.bool false), (0, Value.slice (some { block := w1, off := o1 }) l.length cl_)]) [row 3 1 a1 (askN 0 0 q l[i]).snd.length c1 (ints (askN 0 0 q l[i]).snd), ro (some { block := w1, off := o1 }) (ints l), Ch.blk g1 24 [Value.int IntKind.i64 0, Value.slice a1 (askN 0 0 q l[i]).snd.length c1]] ([inI64 ((↑i : Int) + (1 : Int))]) (by kernel_rfl) (by kernel_rfl) ⟨by unfold inI64; omega, trivial⟩ ?_
    refine wpr_nil ?_
    exact fun a' w' hS' => ⟨⟨i + 1, (askN 0 0 q l[i]).2, a1, c1, by omega, ok'⟩, by dsimp only; omega, ent_fr (by kernel_rfl) _ _ (ent_hp [1, 0, 0] rfl _ _ hS')⟩
  refine wpc_seq ?_
  refine wpc_seq ?_
  refine wpc_region [0, 1, 2, 3, 4, 5, 6, 7] (by kernel_rfl) ?_
  refine wpr_run (l₂ := [5, 6, 7]) true [0, 1, 2, 3, 4] [] [(15, Value.bool (decide ((↑i : Int) < (↑l.length : Int)))), (4, Value.int IntKind.i64 (↑i : Int)), (3, Value.pointer (some { block := g1, off := 0 })), (2, Value.bool false), (0, Value.slice al l.length cl_)] [ro al (ints l), row 3 1 a q.length c (ints q), Ch.blk g1 24 [Value.int IntKind.i64 0, Value.slice a q.length c]] [] (by kernel_rfl) (by kernel_rfl) trivial ?_
  refine wpr_join ⟨[(18, Value.bool false), (3, (Value.pointer (some { block := g1, off := 0 }))), (2, (Value.bool false)), (4, (Value.int IntKind.i64 (↑i : Int))), (0, (Value.slice al l.length cl_))], [ro al (ints l), row 3 1 a q.length c (ints q), Ch.blk g1 24 [Value.int IntKind.i64 0, Value.slice a q.length c]]⟩ (fun Q1 hQ1 hk => ?_) ?_
  · by_cases h1 : i < l.length
    · have h2 : ¬ i < 100 := fun h => hb ⟨h1, h⟩
      refine wpr_ent (ent_set 15 (Value.bool (decide ((↑i : Int) < (↑l.length : Int)))) (Value.bool true) (by kernel_rfl) (congrArg _ (decide_eq_true (by omega)))) ?_
      refine wpr_run (l₂ := []) true [5, 6, 7] [] [(18, Value.bool (decide ((↑i : Int) < 100))), (4, Value.int IntKind.i64 (↑i : Int)), (3, Value.pointer (some { block := g1, off := 0 })), (2, Value.bool false), (0, Value.slice al l.length cl_)] [ro al (ints l), row 3 1 a q.length c (ints q), Ch.blk g1 24 [Value.int IntKind.i64 0, Value.slice a q.length c]] [] (by kernel_rfl) (by kernel_rfl) trivial ?_
      refine wpr_nil ?_
      refine nx_ent (ent_set 18 (Value.bool (decide ((↑i : Int) < 100))) (Value.bool false) (by kernel_rfl) (congrArg _ (decide_eq_false (by omega)))) ?_
      exact nx_ent (ent_fr (by kernel_rfl)) hk
    · refine wpr_ent (ent_set 15 (Value.bool (decide ((↑i : Int) < (↑l.length : Int)))) (Value.bool false) (by kernel_rfl) (congrArg _ (decide_eq_false (by omega)))) ?_
      refine wpr_run (l₂ := []) true [5, 6, 7] [] [(18, Value.bool false), (4, Value.int IntKind.i64 (↑i : Int)), (3, Value.pointer (some { block := g1, off := 0 })), (2, Value.bool false), (0, Value.slice al l.length cl_)] [ro al (ints l), row 3 1 a q.length c (ints q), Ch.blk g1 24 [Value.int IntKind.i64 0, Value.slice a q.length c]] [] (by kernel_rfl) (by kernel_rfl) trivial ?_
      refine wpr_nil ?_
      exact nx_ent (ent_fr (by kernel_rfl)) hk
  refine nx_then ?_
  refine wpc_false (by kernel_rfl) ?_
  refine wpc_exit ?_
  refine nx_then_exit ?_
  refine nx_then_exit ?_
  refine nx_block_here ?_
  refine nx_then ?_
  refine wpc_seq ?_
  refine wpc_seq ?_
  refine wpc_region [0, 1, 2, 3] (by kernel_rfl) ?_
  refine wpr_run (l₂ := []) true [0, 1, 2, 3] [2] [(5, Value.int IntKind.i64 (↑q.length : Int)), (3, Value.pointer (some { block := g1, off := 0 })), (2, Value.bool false)] [ro al (ints l), row 3 1 a q.length c (ints q), Ch.blk g1 24 [Value.int IntKind.i64 0, Value.slice a q.length c]] [] (by kernel_rfl) (by kernel_rfl) trivial ?_
  refine wpr_nil ?_
  refine nx_then ?_
  refine wpc_block ?_
  refine wpc_loop (X := KX) (fun x => St.mk [(5, .int .i64 (x.q.length : Int)), (3, .pointer (some ⟨g1, 0, none⟩)), (2, .bool false)]
    [row 3 1 x.a x.q.length x.c (ints x.q), .blk g1 24 [.int .i64 0, .slice x.a x.q.length x.c]]) (fun x => x.q.length) ⟨q, a, c, ok⟩ ?_ ?_
  · exact fun a w hS => ent_fr (by kernel_rfl) _ _ (ent_hp [1, 1] rfl _ _ hS)
  clear ok hq4 hi
  rintro ⟨q, a, c, ok⟩
  dsimp only at ok ⊢
  have hq4 := ok.2.1
  by_cases hpos : 0 < q.length
  · obtain ⟨y, hy⟩ : ∃ y, y = q[q.length - 1] := ⟨_, rfl⟩
    have hyq : y ∈ q := by rw [hy]; exact List.getElem_mem _
    have hlen : (q.erase y).length = q.length - 1 := List.length_erase_of_mem hyq
    obtain ⟨s1, s2⟩ := serve1 ok hyq
    have ok1 := ok_askN (k := 1) (x := y) ok
    rw [s2] at ok1
    have hcly := (ok.2.2.1 y hyq).1
    obtain ⟨s3, s4⟩ := serve2 ok1 hcly
    have ok2 := ok_askN (k := 3) (x := y) ok1
    rw [s4] at ok2
    dsimp only at ok1 ok2
    have hq4' := ok1.2.1
    refine wpc_fact (fun w h => row_addr h 0 rfl (by omega)) ?_
    rintro ⟨w2, o2, rfl⟩
    refine wpc_seq ?_
    refine wpc_seq ?_
    refine wpc_region [0, 1] (by kernel_rfl) ?_
    refine wpr_run (l₂ := []) true [0, 1] [] [(35, Value.bool (decide ((↑q.length : Int) > 0))), (5, Value.int IntKind.i64 (↑q.length : Int)), (3, Value.pointer (some { block := g1, off := 0 })), (2, Value.bool false)] [row 3 1 (some { block := w2, off := o2 }) q.length c (ints q), Ch.blk g1 24 [Value.int IntKind.i64 0, Value.slice (some { block := w2, off := o2 }) q.length c]] [] (by kernel_rfl) (by kernel_rfl) trivial ?_
    refine wpr_nil ?_
    refine nx_then ?_
    refine wpc_ent (ent_set 35 (Value.bool (decide ((↑q.length : Int) > 0))) (Value.bool true) (by kernel_rfl) (congrArg _ (decide_eq_true (by omega)))) ?_
    refine wpc_true (by kernel_rfl) ?_
    refine wpc_skip ?_
    refine nx_then ?_
    refine wpc_seq ?_
    refine wpc_block ?_
    refine wpc_seq ?_
    refine wpc_seq ?_
    refine wpc_region [0, 1, 2, 3, 4] (by kernel_rfl) ?_
    refine wpr_run (l₂ := []) true [0, 1, 2, 3, 4] [1] [(42, Value.bool ((↑q.length : Int) != (↑q.length : Int))), (5, Value.int IntKind.i64 (↑q.length : Int)), (3, Value.pointer (some { block := g1, off := 0 })), (2, Value.bool false)] [row 3 1 (some { block := w2, off := o2 }) q.length c (ints q), Ch.blk g1 24 [Value.int IntKind.i64 0, Value.slice (some { block := w2, off := o2 }) q.length c]] [] (by kernel_rfl) (by kernel_rfl) trivial ?_
    refine wpr_nil ?_
    refine nx_then ?_
    refine wpc_ent (ent_set 42 (Value.bool ((↑q.length : Int) != (↑q.length : Int))) (Value.bool false) (by kernel_rfl) (congrArg _ (by simp))) ?_
    refine wpc_false (by kernel_rfl) ?_
    refine wpc_skip ?_
    refine nx_then ?_
    refine wpc_seq ?_
    refine wpc_region [0, 1, 2, 3, 4, 5, 6] (by kernel_rfl) ?_
    refine wpr_run (l₂ := [5, 6]) true [0, 1, 2, 3, 4] [1] ([(47, Value.pointer (some { block := w2, off := o2 + ((↑q.length : Int) - 1).toNat * 1 })), (5, Value.int IntKind.i64 (↑q.length : Int)), (3, Value.pointer (some { block := g1, off := 0 })), (2, Value.bool false)]) [row 3 1 (some { block := w2, off := o2 }) q.length c (ints q), Ch.blk g1 24 [Value.int IntKind.i64 0, Value.slice (some { block := w2, off := o2 }) q.length c]] [inI64 ((↑q.length : Int) - (1 : Int)), (0 : Int) ≤ (↑q.length : Int) - (1 : Int) ∧ (↑q.length : Int) - (1 : Int) < (↑q.length : Int)] (by kernel_rfl) (by kernel_rfl) ⟨by unfold inI64; omega, by omega, trivial⟩ ?_
    have eN : ((q.length : Int) - 1).toNat = q.length - 1 := by omega
    refine wpr_eq (ld (t := 3) (a := ({ block := w2, off := o2 + ((↑q.length : Int) - 1).toNat * 1 })) (dst := some 48) (by kernel_rfl) false 1 (by kernel_rfl) (by simp) [.int .i64 y] rfl (fun w h => ld_row h 0 rfl (((q.length : Int) - 1).toNat * 1) (by rw [eN]; exact (ints_at (by omega)).trans (congrArg (fun z => [Value.int .i64 z]) hy.symm)))) ?_
    refine wpr_run (l₂ := []) true [6] [] [(6, Value.int IntKind.i64 y), (5, Value.int IntKind.i64 (↑q.length : Int)), (3, Value.pointer (some { block := g1, off := 0 })), (2, Value.bool false)] [row 3 1 (some { block := w2, off := o2 }) q.length c (ints q), Ch.blk g1 24 [Value.int IntKind.i64 0, Value.slice (some { block := w2, off := o2 }) q.length c]] [] (by kernel_rfl) (by kernel_rfl) trivial ?_
    refine wpr_nil ?_
    refine nx_then ?_
    refine wpc_seq ?_
    refine wpc_region [0, 1, 2, 3, 4, 5, 6, 7, 8, 9] (by kernel_rfl) ?_
    refine wpr_run (l₂ := [3, 4, 5, 6, 7, 8, 9]) true [0, 1, 2] [1, 1] [(52, Value.agg #[Value.int IntKind.i64 1, Value.int IntKind.i64 y]), (50, Value.agg #[Value.int IntKind.i64 0, Value.slice (some { block := w2, off := o2 }) q.length c]), (6, Value.int IntKind.i64 y), (5, Value.int IntKind.i64 (↑q.length : Int)), (3, Value.pointer (some { block := g1, off := 0 })), (2, Value.bool false)] [row 3 1 (some { block := w2, off := o2 }) q.length c (ints q), Ch.blk g1 24 [Value.int IntKind.i64 0, Value.slice (some { block := w2, off := o2 }) q.length c]] [] (by kernel_rfl) (by kernel_rfl) trivial ?_
    refine wpr_call (dst := some 53) (rest := [Ch.blk g1 24 [Value.int IntKind.i64 0, Value.slice (some { block := w2, off := o2 }) q.length c]]) (by kernel_rfl) (lask_spec 0 (some ⟨w2, o2, none⟩) c q 1 y (by omega)) (give [0] (by kernel_rfl)) ?_
    rintro v hp' ⟨a1, c1, rfl, rfl⟩
    rw [s1, s2]
    unfold fl
    dsimp only
    refine wpr_new (l₂ := [8, 9]) true [4, 5, 6, 7] [] (fun g2 => [(7, Value.pointer (some { block := g2, off := 0 })), (55, Value.int IntKind.i64 0), (54, Value.agg #[Value.int IntKind.i64 y, Value.slice a1 (q.erase y).length c1]), (6, Value.int IntKind.i64 y), (5, Value.int IntKind.i64 (↑q.length : Int)), (3, Value.pointer (some { block := g1, off := 0 })), (2, Value.bool false)]) (fun g2 => [row 3 1 a1 (q.erase y).length c1 (ints (q.erase y)), Ch.blk g1 24 [Value.int IntKind.i64 0, Value.slice (some { block := w2, off := o2 }) q.length c], Ch.blk g2 24 [Value.int IntKind.i64 0, Value.slice none 0 0]]) (fun g2 => []) (fun g2 => by kernel_rfl) (fun g2 => by kernel_rfl) (fun g2 => trivial) fun g2 => ?_
    refine wpr_run (l₂ := []) true [8, 9] [2, 2] [(8, Value.int IntKind.i64 0), (7, Value.pointer (some { block := g2, off := 0 })), (6, Value.int IntKind.i64 y), (5, Value.int IntKind.i64 (↑q.length : Int)), (3, Value.pointer (some { block := g1, off := 0 })), (2, Value.bool false)] [row 3 1 a1 (q.erase y).length c1 (ints (q.erase y)), Ch.blk g1 24 [Value.int IntKind.i64 0, Value.slice (some { block := w2, off := o2 }) q.length c], Ch.blk g2 24 [Value.int IntKind.i64 y, Value.slice a1 (q.erase y).length c1]] [] (by kernel_rfl) (by kernel_rfl) trivial ?_
    refine wpr_nil ?_
    refine nx_then ?_
    refine wpc_seq ?_
    refine wpc_region [0, 1, 2, 3, 4, 5, 6, 7, 8, 9] (by kernel_rfl) ?_
    refine wpr_run (l₂ := [3, 4, 5, 6, 7, 8, 9]) true [0, 1, 2] [2, 2] [(59, Value.agg #[Value.int IntKind.i64 3, Value.int IntKind.i64 y]), (57, Value.agg #[Value.int IntKind.i64 y, Value.slice a1 (q.erase y).length c1]), (8, Value.int IntKind.i64 0), (7, Value.pointer (some { block := g2, off := 0 })), (6, Value.int IntKind.i64 y), (5, Value.int IntKind.i64 (↑q.length : Int)), (3, Value.pointer (some { block := g1, off := 0 })), (2, Value.bool false)] [row 3 1 a1 (q.erase y).length c1 (ints (q.erase y)), Ch.blk g1 24 [Value.int IntKind.i64 0, Value.slice (some { block := w2, off := o2 }) q.length c], Ch.blk g2 24 [Value.int IntKind.i64 y, Value.slice a1 (q.erase y).length c1]] [] (by kernel_rfl) (by kernel_rfl) trivial ?_
    refine wpr_call (dst := some 60) (rest := [Ch.blk g1 24 [Value.int IntKind.i64 0, Value.slice (some { block := w2, off := o2 }) q.length c], Ch.blk g2 24 [Value.int IntKind.i64 y, Value.slice a1 (q.erase y).length c1]]) (by kernel_rfl) (lask_spec y a1 c1 (q.erase y) 3 y (by omega)) (give [0] (by kernel_rfl)) ?_
    rintro v hp' ⟨a2, c2, rfl, rfl⟩
    rw [s3, s4]
    unfold fl
    dsimp only
    refine wpr_new (l₂ := [8, 9]) true [4, 5, 6, 7] [] (fun g3 => [(9, Value.pointer (some { block := g3, off := 0 })), (62, Value.int IntKind.i64 0), (61, Value.agg #[Value.int IntKind.i64 0, Value.slice a2 (q.erase y).length c2]), (8, Value.int IntKind.i64 0), (7, Value.pointer (some { block := g2, off := 0 })), (6, Value.int IntKind.i64 y), (5, Value.int IntKind.i64 (↑q.length : Int)), (3, Value.pointer (some { block := g1, off := 0 })), (2, Value.bool false)]) (fun g3 => [row 3 1 a2 (q.erase y).length c2 (ints (q.erase y)), Ch.blk g1 24 [Value.int IntKind.i64 0, Value.slice (some { block := w2, off := o2 }) q.length c], Ch.blk g2 24 [Value.int IntKind.i64 y, Value.slice a1 (q.erase y).length c1], Ch.blk g3 24 [Value.int IntKind.i64 0, Value.slice none 0 0]]) (fun g3 => []) (fun g3 => by kernel_rfl) (fun g3 => by kernel_rfl) (fun g3 => trivial) fun g3 => ?_
    refine wpr_run (l₂ := []) true [8, 9] [3, 3] [(10, Value.int IntKind.i64 0), (9, Value.pointer (some { block := g3, off := 0 })), (8, Value.int IntKind.i64 0), (7, Value.pointer (some { block := g2, off := 0 })), (6, Value.int IntKind.i64 y), (5, Value.int IntKind.i64 (↑q.length : Int)), (3, Value.pointer (some { block := g1, off := 0 })), (2, Value.bool false)] [row 3 1 a2 (q.erase y).length c2 (ints (q.erase y)), Ch.blk g1 24 [Value.int IntKind.i64 0, Value.slice (some { block := w2, off := o2 }) q.length c], Ch.blk g2 24 [Value.int IntKind.i64 y, Value.slice a1 (q.erase y).length c1], Ch.blk g3 24 [Value.int IntKind.i64 0, Value.slice a2 (q.erase y).length c2]] [] (by kernel_rfl) (by kernel_rfl) trivial ?_
    refine wpr_nil ?_
    refine nx_then ?_
    refine wpc_seq ?_
    refine wpc_seq ?_
    refine wpc_region [0, 1, 2, 3, 4, 5, 6, 7, 8, 9, 10, 11, 12, 13, 14, 15, 16] (by kernel_rfl) ?_
    refine wpr_run (l₂ := [9, 10, 11, 12, 13, 14, 15, 16]) true [0, 1, 2, 3, 4, 5, 6, 7, 8] [2] [(71, Value.bool (y != y)), (10, Value.int IntKind.i64 0), (9, Value.pointer (some { block := g3, off := 0 })), (5, Value.int IntKind.i64 (↑q.length : Int)), (3, Value.pointer (some { block := g1, off := 0 })), (2, Value.bool false)] [row 3 1 a2 (q.erase y).length c2 (ints (q.erase y)), Ch.blk g1 24 [Value.int IntKind.i64 0, Value.slice (some { block := w2, off := o2 }) q.length c], Ch.blk g2 24 [Value.int IntKind.i64 y, Value.slice a1 (q.erase y).length c1], Ch.blk g3 24 [Value.int IntKind.i64 0, Value.slice a2 (q.erase y).length c2]] [] (by kernel_rfl) (by kernel_rfl) trivial ?_
    refine wpr_ent (ent_set 71 (Value.bool (y != y)) (Value.bool false) (by kernel_rfl) (congrArg _ (by simp))) ?_
    refine wpr_run (l₂ := []) true [9, 10, 11, 12, 13, 14, 15, 16] [3] [(79, Value.bool false), (9, Value.pointer (some { block := g3, off := 0 })), (5, Value.int IntKind.i64 (↑q.length : Int)), (3, Value.pointer (some { block := g1, off := 0 })), (2, Value.bool false)] [row 3 1 a2 (q.erase y).length c2 (ints (q.erase y)), Ch.blk g1 24 [Value.int IntKind.i64 0, Value.slice (some { block := w2, off := o2 }) q.length c], Ch.blk g2 24 [Value.int IntKind.i64 y, Value.slice a1 (q.erase y).length c1], Ch.blk g3 24 [Value.int IntKind.i64 0, Value.slice a2 (q.erase y).length c2]] [] (by kernel_rfl) (by kernel_rfl) trivial ?_
    refine wpr_nil ?_
    refine nx_then ?_
    refine wpc_false (by kernel_rfl) ?_
    refine wpc_skip ?_
    refine nx_then ?_
    refine wpc_region [0, 1] (by kernel_rfl) ?_
    refine wpr_run (l₂ := []) true [0, 1] [3, 3, 1, 1] [(5, Value.int IntKind.i64 (↑q.length : Int)), (3, Value.pointer (some { block := g1, off := 0 })), (2, Value.bool false)] [row 3 1 a2 (q.erase y).length c2 (ints (q.erase y)), Ch.blk g1 24 [Value.int IntKind.i64 0, Value.slice a2 (q.erase y).length c2], Ch.blk g2 24 [Value.int IntKind.i64 y, Value.slice a1 (q.erase y).length c1], Ch.blk g3 24 [Value.int IntKind.i64 0, Value.slice a2 (q.erase y).length c2]] [] (by kernel_rfl) (by kernel_rfl) trivial ?_
    refine wpr_nil ?_
    refine nx_block ?_
    refine nx_then ?_
    refine wpc_region [0, 1, 2] (by kernel_rfl) ?_
    refine wpr_run (l₂ := []) true [0, 1, 2] [] [(5, Value.int IntKind.i64 ((↑q.length : Int) - 1)), (3, Value.pointer (some { block := g1, off := 0 })), (2, Value.bool false)] [row 3 1 a2 (q.erase y).length c2 (ints (q.erase y)), Ch.blk g1 24 [Value.int IntKind.i64 0, Value.slice a2 (q.erase y).length c2], Ch.blk g2 24 [Value.int IntKind.i64 y, Value.slice a1 (q.erase y).length c1], Ch.blk g3 24 [Value.int IntKind.i64 0, Value.slice a2 (q.erase y).length c2]] [inI64 ((↑q.length : Int) - (1 : Int))] (by kernel_rfl) (by kernel_rfl) ⟨by unfold inI64; omega, trivial⟩ ?_
    refine wpr_nil ?_
    rw [show ((q.length : Int) - 1) = ((q.erase y).length : Int) by omega]
    exact fun a' w' hS' => ⟨⟨q.erase y, a2, c2, ok2⟩, by dsimp only; omega, ent_fr (by kernel_rfl) _ _ (ent_hp [0, 0] rfl _ _ hS')⟩
  · have hq0 : q = [] := List.eq_nil_of_length_eq_zero (by omega)
    subst hq0
    refine wpc_seq ?_
    refine wpc_seq ?_
    refine wpc_region [0, 1] (by kernel_rfl) ?_
    refine wpr_run (l₂ := []) true [0, 1] [] [(35, Value.bool false), (5, Value.int IntKind.i64 0), (3, Value.pointer (some { block := g1, off := 0 })), (2, Value.bool false)] [row 3 1 a 0 c (ints []), Ch.blk g1 24 [Value.int IntKind.i64 0, Value.slice a 0 c]] [] (by kernel_rfl) (by kernel_rfl) trivial ?_
    refine wpr_nil ?_
    refine nx_then ?_
    refine wpc_false (by kernel_rfl) ?_
    refine wpc_exit ?_
    refine nx_then_exit ?_
    refine nx_then_exit ?_
    refine nx_block_here ?_
    refine nx_then ?_
    refine wpc_seq ?_
    refine wpc_region [0, 1, 2, 3, 4, 5, 6, 7, 8, 9, 10, 11, 12] (by kernel_rfl) ?_
    refine wpr_run (l₂ := [10, 11, 12]) true [0, 1, 2, 3, 4, 5, 6, 7, 8, 9] [1, 1] [(90, Value.bool true), (2, Value.bool false)] [row 3 1 a 0 c (ints []), Ch.blk g1 24 [Value.int IntKind.i64 0, Value.slice a 0 c]] [] (by kernel_rfl) (by kernel_rfl) trivial ?_
    refine wpr_call (dst := some 91) (rest := [row 3 1 a 0 c (ints []), Ch.blk g1 24 [Value.int IntKind.i64 0, Value.slice a 0 c]]) (by kernel_rfl) (lives_spec) (give [] (by kernel_rfl)) ?_
    rintro v hp' ⟨rfl, rfl⟩
    refine wpr_run (l₂ := []) true [11, 12] [] [(2, Value.bool true)] [row 3 1 a 0 c (ints []), Ch.blk g1 24 [Value.int IntKind.i64 0, Value.slice a 0 c]] [] (by kernel_rfl) (by kernel_rfl) trivial ?_
    refine wpr_nil ?_
    refine nx_then ?_
    refine wpc_ret ?_
    refine nx_end (hp' := []) (rest := [row 3 1 a 0 c (ints []), Ch.blk g1 24 [Value.int IntKind.i64 0, Value.slice a 0 c]]) [] ((Value.bool true)) (by kernel_rfl) (by kernel_rfl) (give [] (by kernel_rfl)) (by first | ((repeat (first | exact trivial | refine ⟨trivial, ?_⟩)); done) | assumption) ?_ (.inr rfl)
    exact ⟨rfl, rfl⟩
end Go.Proofs.Ytoagfnobfbfdfaa
