import Derived.Test.YtmjhcadciblcdaaB18
import Derived.Test.YtmjhcadciblcdaaX18
import Derived.Test.YtmjhcadciblcdaaX16
namespace Go.Proofs.Ytmjhcadciblcdaa
open Go Go.Sx
set_option linter.unusedVariables false
set_option linter.unusedSimpArgs false

theorem map_at {α : Type} (f : α → Value) {l : List α} {q : Nat} (hq : q < l.length) : ((l.map f).drop (q * 1)).take 1 = [f l[q]] := by
  rw [Nat.mul_one, List.drop_eq_getElem_cons (by simpa using hq)]
  simp
theorem allG_len : ∀ (k : Nat) (l : List UInt8) (p : Nat), (allG k l p).1.length ≤ l.length - p
  | 0, l, p => Nat.zero_le _
  | k + 1, l, p => by
    rw [allG_succ]
    split
    · rename_i h
      obtain ⟨nx, hnx, hn1, hn2, hn3⟩ := getL_ok h.2
      have ih := allG_len k l nx
      rw [hnx, Int.toNat_natCast]
      simp only [List.length_cons]
      omega
    · exact Nat.zero_le _
theorem FrameGets_spec (a0 : Option Addr) (k0 : Nat) (l : List UInt8) (z : Int) (n0 : a0 = none → l = []) (hl : l.length ≤ 1048576) (h1 : -9223372036854775808 ≤ z) (h2 : z ≤ 9223372036854775807) :
    Does Try.prog 5 [.slice a0 l.length k0, .int .i64 z] [ro a0 (u8s l)] (fun v hp' => v = .bool true ∧ hp' = []) := by
  have hgl : (getL l z).1.length ≤ l.length := by
    unfold getL
    dsimp only
    repeat' split
    all_goals simp
    omega
  have hal : (allL l).1.length ≤ l.length - 0 := allG_len _ _ _
  refine fn_enter Try.func5 rfl 87 rfl fun w0 h0 => ?_
  refine wpc_seq ?_
  refine wpc_region [0] (by kernel_rfl) ?_
  refine wpr_run (l₂ := []) true [0] [] [(4, Value.bool false), (0, Value.slice a0 l.length k0), (1, Value.int IntKind.i64 z)] [ro a0 (u8s l)] [] (by kernel_rfl) (by kernel_rfl) trivial ?_
  refine wpr_nil ?_
  refine nx_then ?_
  refine wpc_seq ?_
  refine wpc_region [0, 1, 2, 3, 4, 5, 6, 7, 8, 9, 10] (by kernel_rfl) ?_
  refine wpr_run (l₂ := [1, 2, 3, 4, 5, 6, 7, 8, 9, 10]) true [0] [] [(17, Value.slice a0 l.length k0), (4, Value.bool false), (0, Value.slice a0 l.length k0), (1, Value.int IntKind.i64 z)] [ro a0 (u8s l)] [] (by kernel_rfl) (by kernel_rfl) trivial ?_
  refine wpr_call (dst := some 18) (rest := [ro a0 (u8s l)]) (by kernel_rfl) (own_spec a0 k0 l n0 (by omega)) (Give.view (c := (ro a0 (u8s l))) (give (pre := []) (rest := [ro a0 (u8s l)]) [] (by kernel_rfl)) 0 (by kernel_rfl) view_ro) ?_
  rintro v _ ⟨b0, c0, m0, rfl, rfl⟩
  refine wpr_fact (fun w h => row_cap h 0 rfl) fun hcap0 => ?_
  refine wpr_fact (fun w h => row_spot h 0 rfl) fun hsp0 => ?_
  refine wpr_ent (ent_turn 0 (ro b0 (u8s l)) rfl (turn_view view_row) rfl) ?_
  refine wpr_run (l₂ := [3, 4, 5, 6, 7, 8, 9, 10]) true [2] [] [(19, Value.int IntKind.i64 z), (18, Value.slice b0 l.length c0), (4, Value.bool false), (0, Value.slice a0 l.length k0), (1, Value.int IntKind.i64 z)] [ro b0 (u8s l), ro a0 (u8s l)] [] (by kernel_rfl) (by kernel_rfl) trivial ?_
  refine wpr_call (dst := some 20) (rest := [ro b0 (u8s l), ro a0 (u8s l)]) (by kernel_rfl) (Get_spec b0 c0 l z h1 h2 m0 hsp0 (by omega) (by omega)) (Give.view (c := (ro b0 (u8s l))) (give (pre := []) (rest := [ro b0 (u8s l), ro a0 (u8s l)]) [] (by kernel_rfl)) 0 (by kernel_rfl) view_ro) ?_
  rintro v _ ⟨a1, c1, m1, rfl, rfl⟩
  refine wpr_run (l₂ := []) true [4, 5, 6, 7, 8, 9, 10] [] [(7, Value.int IntKind.i64 (getL l z).snd.snd), (6, Value.int IntKind.i64 (getL l z).snd.fst), (5, Value.slice a1 (getL l z).fst.length c1), (4, Value.bool false), (0, Value.slice a0 l.length k0), (1, Value.int IntKind.i64 z)] [row 5 1 a1 (getL l z).fst.length c1 (u8s (getL l z).fst), ro b0 (u8s l), ro a0 (u8s l)] [] (by kernel_rfl) (by kernel_rfl) trivial ?_
  refine wpr_nil ?_
  refine nx_then ?_
  refine wpc_seq ?_
  refine wpc_region [0, 1, 2, 3, 4, 5, 6, 7, 8, 9, 10] (by kernel_rfl) ?_
  refine wpr_run (l₂ := [1, 2, 3, 4, 5, 6, 7, 8, 9, 10]) true [0] [] [(25, Value.slice a0 l.length k0), (7, Value.int IntKind.i64 (getL l z).snd.snd), (6, Value.int IntKind.i64 (getL l z).snd.fst), (5, Value.slice a1 (getL l z).fst.length c1), (4, Value.bool false), (0, Value.slice a0 l.length k0), (1, Value.int IntKind.i64 z)] [row 5 1 a1 (getL l z).fst.length c1 (u8s (getL l z).fst), ro b0 (u8s l), ro a0 (u8s l)] [] (by kernel_rfl) (by kernel_rfl) trivial ?_
  refine wpr_eq (b2s (a := 22) (b := 9) (ad := a0) (n := l.length) (c := k0) (dst := some 26) (by kernel_rfl) (by kernel_rfl) l (by first | rfl | simp) (fun w h => b2s_ro h 2 rfl)) ?_
  refine wpr_run (l₂ := [3, 4, 5, 6, 7, 8, 9, 10]) true [2] [] [(27, Value.int IntKind.i64 z), (26, Value.string (mkS l)), (7, Value.int IntKind.i64 (getL l z).snd.snd), (6, Value.int IntKind.i64 (getL l z).snd.fst), (5, Value.slice a1 (getL l z).fst.length c1), (4, Value.bool false), (0, Value.slice a0 l.length k0)] [row 5 1 a1 (getL l z).fst.length c1 (u8s (getL l z).fst), ro b0 (u8s l), ro a0 (u8s l)] [] (by kernel_rfl) (by kernel_rfl) trivial ?_
  refine wpr_call (dst := some 28) (rest := [row 5 1 a1 (getL l z).fst.length c1 (u8s (getL l z).fst), ro b0 (u8s l), ro a0 (u8s l)]) (by kernel_rfl) (rGet_spec l z hl h1 h2) (give [] (by kernel_rfl)) ?_
  rintro v _ ⟨rfl, rfl⟩
  refine wpr_run (l₂ := []) true [4, 5, 6, 7, 8, 9, 10] [] [(10, Value.int IntKind.i64 (getL l z).snd.snd), (9, Value.int IntKind.i64 (getL l z).snd.fst), (8, Value.string (mkS (getL l z).fst)), (7, Value.int IntKind.i64 (getL l z).snd.snd), (6, Value.int IntKind.i64 (getL l z).snd.fst), (5, Value.slice a1 (getL l z).fst.length c1), (4, Value.bool false), (0, Value.slice a0 l.length k0)] [row 5 1 a1 (getL l z).fst.length c1 (u8s (getL l z).fst), ro b0 (u8s l), ro a0 (u8s l)] [] (by kernel_rfl) (by kernel_rfl) trivial ?_
  refine wpr_nil ?_
  refine nx_then ?_
  refine wpc_seq ?_
  refine wpc_region [0, 1, 2, 3, 4, 5, 6, 7] (by kernel_rfl) ?_
  refine wpr_run (l₂ := [1, 2, 3, 4, 5, 6, 7]) true [0] [] [(33, Value.slice a0 l.length k0), (10, Value.int IntKind.i64 (getL l z).snd.snd), (9, Value.int IntKind.i64 (getL l z).snd.fst), (8, Value.string (mkS (getL l z).fst)), (7, Value.int IntKind.i64 (getL l z).snd.snd), (6, Value.int IntKind.i64 (getL l z).snd.fst), (5, Value.slice a1 (getL l z).fst.length c1), (4, Value.bool false), (0, Value.slice a0 l.length k0)] [row 5 1 a1 (getL l z).fst.length c1 (u8s (getL l z).fst), ro b0 (u8s l), ro a0 (u8s l)] [] (by kernel_rfl) (by kernel_rfl) trivial ?_
  refine wpr_call (dst := some 34) (rest := [row 5 1 a1 (getL l z).fst.length c1 (u8s (getL l z).fst), ro b0 (u8s l), ro a0 (u8s l)]) (by kernel_rfl) (own_spec a0 k0 l n0 (by omega)) (Give.view (c := (ro a0 (u8s l))) (give (pre := []) (rest := [row 5 1 a1 (getL l z).fst.length c1 (u8s (getL l z).fst), ro b0 (u8s l), ro a0 (u8s l)]) [] (by kernel_rfl)) 2 (by kernel_rfl) view_ro) ?_
  rintro v _ ⟨b2, c2, m2, rfl, rfl⟩
  refine wpr_fact (fun w h => row_cap h 0 rfl) fun hcap2 => ?_
  refine wpr_ent (ent_turn 0 (ro b2 (u8s l)) rfl (turn_view view_row) rfl) ?_
  refine wpr_call (dst := some 35) (rest := [ro b2 (u8s l), row 5 1 a1 (getL l z).fst.length c1 (u8s (getL l z).fst), ro b0 (u8s l), ro a0 (u8s l)]) (by kernel_rfl) (All_spec b2 c2 l m2 (by omega) (by omega)) (Give.view (c := (ro b2 (u8s l))) (give (pre := []) (rest := [ro b2 (u8s l), row 5 1 a1 (getL l z).fst.length c1 (u8s (getL l z).fst), ro b0 (u8s l), ro a0 (u8s l)]) [] (by kernel_rfl)) 0 (by kernel_rfl) view_ro) ?_
  rintro v _ ⟨s, ps, hps, rfl, rfl⟩
  refine wpr_run (l₂ := []) true [3, 4, 5, 6, 7] [] [(12, Value.int IntKind.i64 (↑(allL l).snd : Int)), (11, Value.slice s.1 ps.length s.snd), (10, Value.int IntKind.i64 (getL l z).snd.snd), (9, Value.int IntKind.i64 (getL l z).snd.fst), (8, Value.string (mkS (getL l z).fst)), (7, Value.int IntKind.i64 (getL l z).snd.snd), (6, Value.int IntKind.i64 (getL l z).snd.fst), (5, Value.slice a1 (getL l z).fst.length c1), (4, Value.bool false), (0, Value.slice a0 l.length k0)] [row 22 1 s.fst ps.length s.snd (List.map valOf' ps), star (List.map rowOf ps), ro b2 (u8s l), row 5 1 a1 (getL l z).fst.length c1 (u8s (getL l z).fst), ro b0 (u8s l), ro a0 (u8s l)] [] (by kernel_rfl) (by kernel_rfl) trivial ?_
  refine wpr_nil ?_
  refine nx_then ?_
  refine wpc_seq ?_
  refine wpc_region [0, 1, 2, 3, 4, 5, 6, 7] (by kernel_rfl) ?_
  refine wpr_run (l₂ := [1, 2, 3, 4, 5, 6, 7]) true [0] [] [(39, Value.slice a0 l.length k0), (12, Value.int IntKind.i64 (↑(allL l).snd : Int)), (11, Value.slice s.1 ps.length s.snd), (10, Value.int IntKind.i64 (getL l z).snd.snd), (9, Value.int IntKind.i64 (getL l z).snd.fst), (8, Value.string (mkS (getL l z).fst)), (7, Value.int IntKind.i64 (getL l z).snd.snd), (6, Value.int IntKind.i64 (getL l z).snd.fst), (5, Value.slice a1 (getL l z).fst.length c1), (4, Value.bool false)] [row 22 1 s.fst ps.length s.snd (List.map valOf' ps), star (List.map rowOf ps), ro b2 (u8s l), row 5 1 a1 (getL l z).fst.length c1 (u8s (getL l z).fst), ro b0 (u8s l), ro a0 (u8s l)] [] (by kernel_rfl) (by kernel_rfl) trivial ?_
  refine wpr_eq (b2s (a := 22) (b := 9) (ad := a0) (n := l.length) (c := k0) (dst := some 40) (by kernel_rfl) (by kernel_rfl) l (by first | rfl | simp) (fun w h => b2s_ro h 5 rfl)) ?_
  refine wpr_call (dst := some 41) (rest := [row 22 1 s.fst ps.length s.snd (List.map valOf' ps), star (List.map rowOf ps), ro b2 (u8s l), row 5 1 a1 (getL l z).fst.length c1 (u8s (getL l z).fst), ro b0 (u8s l), ro a0 (u8s l)]) (by kernel_rfl) (rAll_spec l hl) (give [] (by kernel_rfl)) ?_
  rintro v _ ⟨⟨s2a, s2c⟩, rfl, rfl⟩
  obtain ⟨sa, sc⟩ := s
  have hpl : ps.length = (allL l).1.length := by rw [← hps, List.length_map]
  rw [← hps, List.map_map, List.length_map]
  refine wpr_ent (ent_turn 0 (ro s2a (ps.map (strV ∘ fun x => x.2.2))) rfl (turn_view view_row) rfl) ?_
  refine wpr_ent (ent_turn 1 (ro sa (ps.map valOf')) rfl (turn_view view_row) rfl) ?_
  refine wpr_ent (ent_turn 2 (bag (ps.map rowOf)) rfl (turn_view view_bag) rfl) ?_
  refine wpr_run (l₂ := []) true [3, 4, 5, 6, 7] [] [(14, Value.int IntKind.i64 (↑(allL l).snd : Int)), (13, Value.slice s2a ps.length s2c), (12, Value.int IntKind.i64 (↑(allL l).snd : Int)), (11, Value.slice sa ps.length sc), (10, Value.int IntKind.i64 (getL l z).snd.snd), (9, Value.int IntKind.i64 (getL l z).snd.fst), (8, Value.string (mkS (getL l z).fst)), (7, Value.int IntKind.i64 (getL l z).snd.snd), (6, Value.int IntKind.i64 (getL l z).snd.fst), (5, Value.slice a1 (getL l z).fst.length c1), (4, Value.bool false)] [ro s2a (List.map (strV ∘ fun (x : Part) => x.snd.snd) ps), ro sa (List.map valOf' ps), bag (List.map rowOf ps), ro b2 (u8s l), row 5 1 a1 (getL l z).fst.length c1 (u8s (getL l z).fst), ro b0 (u8s l), ro a0 (u8s l)] [] (by kernel_rfl) (by kernel_rfl) trivial ?_
  refine wpr_nil ?_
  refine nx_then ?_
  refine wpc_seq ?_
  refine wpc_seq ?_
  refine wpc_region [0, 1, 2, 3, 4] (by kernel_rfl) ?_
  refine wpr_run (l₂ := []) true [0, 1, 2, 3, 4] [] [(48, Value.bool ((↑ps.length : Int) != (↑ps.length : Int))), (14, Value.int IntKind.i64 (↑(allL l).snd : Int)), (13, Value.slice s2a ps.length s2c), (12, Value.int IntKind.i64 (↑(allL l).snd : Int)), (11, Value.slice sa ps.length sc), (10, Value.int IntKind.i64 (getL l z).snd.snd), (9, Value.int IntKind.i64 (getL l z).snd.fst), (8, Value.string (mkS (getL l z).fst)), (7, Value.int IntKind.i64 (getL l z).snd.snd), (6, Value.int IntKind.i64 (getL l z).snd.fst), (5, Value.slice a1 (getL l z).fst.length c1), (4, Value.bool false)] [ro s2a (List.map (strV ∘ fun (x : Part) => x.snd.snd) ps), ro sa (List.map valOf' ps), bag (List.map rowOf ps), ro b2 (u8s l), row 5 1 a1 (getL l z).fst.length c1 (u8s (getL l z).fst), ro b0 (u8s l), ro a0 (u8s l)] [] (by kernel_rfl) (by kernel_rfl) trivial ?_
  refine wpr_nil ?_
  refine nx_then ?_
  refine wpc_ent (ent_set 48 (Value.bool ((↑ps.length : Int) != (↑ps.length : Int))) (Value.bool false) (by kernel_rfl) (congrArg _ (by simp))) ?_
  refine wpc_false (by kernel_rfl) ?_
  refine wpc_skip ?_
  refine nx_then ?_
  refine wpc_seq ?_
  refine wpc_seq ?_
  refine wpc_region [0] (by kernel_rfl) ?_
  refine wpr_run (l₂ := []) true [0] [] [(15, Value.int IntKind.i64 0), (14, Value.int IntKind.i64 (↑(allL l).snd : Int)), (13, Value.slice s2a ps.length s2c), (12, Value.int IntKind.i64 (↑(allL l).snd : Int)), (11, Value.slice sa ps.length sc), (10, Value.int IntKind.i64 (getL l z).snd.snd), (9, Value.int IntKind.i64 (getL l z).snd.fst), (8, Value.string (mkS (getL l z).fst)), (7, Value.int IntKind.i64 (getL l z).snd.snd), (6, Value.int IntKind.i64 (getL l z).snd.fst), (5, Value.slice a1 (getL l z).fst.length c1), (4, Value.bool false)] [ro s2a (List.map (strV ∘ fun (x : Part) => x.snd.snd) ps), ro sa (List.map valOf' ps), bag (List.map rowOf ps), ro b2 (u8s l), row 5 1 a1 (getL l z).fst.length c1 (u8s (getL l z).fst), ro b0 (u8s l), ro a0 (u8s l)] [] (by kernel_rfl) (by kernel_rfl) trivial ?_
  refine wpr_nil ?_
  refine nx_then ?_
  refine wpc_block ?_
  refine wpc_loop (X := {i : Nat // i ≤ ps.length}) (fun x => St.mk [(15, .int .i64 (x.1 : Int)), (14, Value.int IntKind.i64 ↑(allL l).snd), (13, Value.slice s2a ps.length s2c), (12, Value.int IntKind.i64 ↑(allL l).snd), (11, Value.slice sa ps.length sc), (10, Value.int IntKind.i64 (getL l z).snd.snd), (9, Value.int IntKind.i64 (getL l z).snd.fst), (8, Value.string (mkS (getL l z).fst)), (7, Value.int IntKind.i64 (getL l z).snd.snd), (6, Value.int IntKind.i64 (getL l z).snd.fst), (5, Value.slice a1 (getL l z).fst.length c1), (4, Value.bool false)] [ro s2a (ps.map (strV ∘ fun x => x.2.2)), ro sa (ps.map valOf'), bag (ps.map rowOf), row 5 1 a1 (getL l z).fst.length c1 (u8s (getL l z).fst)]) (fun x => ps.length - x.1) ⟨0, Nat.zero_le _⟩ (Ent.trans (ent_hp [0, 0, 0, 1] rfl) (ent_fr (by kernel_rfl))) ?_
  rintro ⟨i, hi⟩
  dsimp only at hi ⊢
  refine wpc_seq ?_
  refine wpc_seq ?_
  refine wpc_region [0, 1, 2, 3] (by kernel_rfl) ?_
  refine wpr_run (l₂ := []) true [0, 1, 2, 3] [] [(52, Value.bool (decide ((↑i : Int) < (↑ps.length : Int)))), (15, Value.int IntKind.i64 (↑i : Int)), (14, Value.int IntKind.i64 (↑(allL l).snd : Int)), (13, Value.slice s2a ps.length s2c), (12, Value.int IntKind.i64 (↑(allL l).snd : Int)), (11, Value.slice sa ps.length sc), (10, Value.int IntKind.i64 (getL l z).snd.snd), (9, Value.int IntKind.i64 (getL l z).snd.fst), (8, Value.string (mkS (getL l z).fst)), (7, Value.int IntKind.i64 (getL l z).snd.snd), (6, Value.int IntKind.i64 (getL l z).snd.fst), (5, Value.slice a1 (getL l z).fst.length c1), (4, Value.bool false)] [ro s2a (List.map (strV ∘ fun (x : Part) => x.snd.snd) ps), ro sa (List.map valOf' ps), bag (List.map rowOf ps), row 5 1 a1 (getL l z).fst.length c1 (u8s (getL l z).fst)] [] (by kernel_rfl) (by kernel_rfl) trivial ?_
  refine wpr_nil ?_
  refine nx_then ?_
  refine wpc_if (((↑i : Int) < (↑ps.length : Int))) (by kernel_rfl) (fun hlt => ?_) (fun hlt => ?_)
  · have hil : i < ps.length := by omega
    refine wpc_fact (fun w h => ro_addr h 0 rfl (by rw [List.length_map]; omega)) ?_
    rintro ⟨g0, o0, rfl⟩
    refine wpc_fact (fun w h => ro_addr h 1 rfl (by rw [List.length_map]; omega)) ?_
    rintro ⟨g1, o1, rfl⟩
    refine wpc_ent (ent_copy 2 (ro (ps[i]).1 (u8s (ps[i]).2.2)) rfl (fun h => h) (view_in (List.mem_map.2 ⟨ps[i], List.getElem_mem hil, rfl⟩) view_row)) ?_
    refine wpc_skip ?_
    refine nx_then ?_
    refine wpc_seq ?_
    refine wpc_block ?_
    refine wpc_seq ?_
    refine wpc_draw (by kernel_rfl) [ro ps[i].fst (u8s ps[i].snd.snd), ro (some { block := g0, off := o0 }) (List.map (strV ∘ fun (x : Part) => x.snd.snd) ps), ro (some { block := g1, off := o1 }) (List.map valOf' ps)] (sub_of [0, 1, 2] (by kernel_rfl)) 10 (by kernel_rfl) ?_
    refine wpa_take true [(0, []), (1, []), (2, []), (5, []), (6, []), (7, [])] ([(62, Value.pointer (some { block := g0, off := o0 + i * 1 })), (57, Value.pointer (some { block := g1, off := o1 + i * 1 })), (15, Value.int IntKind.i64 (↑i : Int)), (14, Value.int IntKind.i64 (↑(allL l).snd : Int)), (13, Value.slice (some { block := g0, off := o0 }) ps.length s2c), (12, Value.int IntKind.i64 (↑(allL l).snd : Int)), (11, Value.slice (some { block := g1, off := o1 }) ps.length sc), (10, Value.int IntKind.i64 (getL l z).snd.snd), (9, Value.int IntKind.i64 (getL l z).snd.fst), (8, Value.string (mkS (getL l z).fst)), (7, Value.int IntKind.i64 (getL l z).snd.snd), (6, Value.int IntKind.i64 (getL l z).snd.fst), (5, Value.slice a1 (getL l z).fst.length c1), (4, Value.bool false)]) (#[true, true, true, false, false, true, true, true, false, false]) [(0 : Int) ≤ (↑i : Int) ∧ (↑i : Int) < (↑ps.length : Int), (0 : Int) ≤ (↑i : Int) ∧ (↑i : Int) < (↑ps.length : Int)] (n := 4) (by kernel_rfl) (by kernel_rfl) (by kernel_rfl) ⟨by omega, by omega, trivial⟩ ?_
    refine wpa_qld (i := 3) (n := 3) (by kernel_rfl) (by kernel_rfl) (by kernel_rfl) (t := 22) (a := ({ block := g1, off := o1 + i * 1 })) (dst := some 58) (by kernel_rfl) false 1 (by kernel_rfl) (by simp) [Value.slice (ps[i]).1 (ps[i]).2.2.length (ps[i]).2.1] rfl (fun w h => ld_roL h 2 rfl (i * 1) (map_at valOf' hil)) ?_
    refine wpa_qb2s (i := 4) (n := 2) (by kernel_rfl) (by kernel_rfl) (by kernel_rfl) (a := 22) (b := 9) (ad := (ps[i].1)) (m := (ps[i].snd.snd.length)) (c := (ps[i].snd.fst)) (dst := some 59) (by kernel_rfl) (by kernel_rfl) ((ps[i]).2.2) (by first | rfl | simp) (fun w h => b2s_roL h 0 rfl) ?_
    refine wpa_qld (i := 8) (n := 1) (by kernel_rfl) (by kernel_rfl) (by kernel_rfl) (t := 9) (a := ({ block := g0, off := o0 + i * 1 })) (dst := some 63) (by kernel_rfl) false 1 (by kernel_rfl) (by simp) [Value.string (mkS (ps[i]).2.2)] rfl (fun w h => ld_roL h 1 rfl (i * 1) (map_at (strV ∘ fun x => x.2.2) hil)) ?_
    refine wpa_take true [(9, [])] [(64, Value.bool !decide (ps[i].snd.snd = ps[i].snd.snd)), (15, Value.int IntKind.i64 (↑i : Int)), (14, Value.int IntKind.i64 (↑(allL l).snd : Int)), (13, Value.slice (some { block := g0, off := o0 }) ps.length s2c), (12, Value.int IntKind.i64 (↑(allL l).snd : Int)), (11, Value.slice (some { block := g1, off := o1 }) ps.length sc), (10, Value.int IntKind.i64 (getL l z).snd.snd), (9, Value.int IntKind.i64 (getL l z).snd.fst), (8, Value.string (mkS (getL l z).fst)), (7, Value.int IntKind.i64 (getL l z).snd.snd), (6, Value.int IntKind.i64 (getL l z).snd.fst), (5, Value.slice a1 (getL l z).fst.length c1), (4, Value.bool false)] (#[true, true, true, true, true, true, true, true, true, true]) [] (n := 0) (by kernel_rfl) (by kernel_rfl) (by kernel_rfl) trivial ?_
    refine wpa_done 0 (by kernel_rfl) ?_
    refine nx_then ?_
    refine wpc_ent (ent_set 64 (Value.bool (!decide (ps[i].snd.snd = ps[i].snd.snd))) (Value.bool false) (by kernel_rfl) (congrArg _ (by simp))) ?_
    refine wpc_false (by kernel_rfl) ?_
    refine wpc_skip ?_
    refine nx_block ?_
    refine nx_then ?_
    refine wpc_region [0, 1, 2] (by kernel_rfl) ?_
    refine wpr_run (l₂ := []) true [0, 1, 2] [] ([(15, Value.int IntKind.i64 ((↑i : Int) + 1)), (14, Value.int IntKind.i64 (↑(allL l).snd : Int)), (13, Value.slice (some { block := g0, off := o0 }) ps.length s2c), (12, Value.int IntKind.i64 (↑(allL l).snd : Int)), (11, Value.slice (some { block := g1, off := o1 }) ps.length sc), (10, Value.int IntKind.i64 (getL l z).snd.snd), (9, Value.int IntKind.i64 (getL l z).snd.fst), (8, Value.string (mkS (getL l z).fst)), (7, Value.int IntKind.i64 (getL l z).snd.snd), (6, Value.int IntKind.i64 (getL l z).snd.fst), (5, Value.slice a1 (getL l z).fst.length c1), (4, Value.bool false)]) [ro ps[i].fst (u8s ps[i].snd.snd), ro (some { block := g0, off := o0 }) (List.map (strV ∘ fun (x : Part) => x.snd.snd) ps), ro (some { block := g1, off := o1 }) (List.map valOf' ps), bag (List.map rowOf ps), row 5 1 a1 (getL l z).fst.length c1 (u8s (getL l z).fst)] ([inI64 ((↑i : Int) + (1 : Int))]) (by kernel_rfl) (by kernel_rfl) ⟨by unfold inI64; omega, trivial⟩ ?_
    refine wpr_nil ?_
    exact fun a' w' hS' => ⟨⟨i + 1, by omega⟩, by dsimp only; omega, ent_fr (by kernel_rfl) _ _ (ent_hp [1, 1, 1, 1] rfl _ _ hS')⟩
  · refine wpc_exit ?_
    refine nx_then_exit ?_
    refine nx_then_exit ?_
    refine nx_block_here ?_
    refine nx_then ?_
    refine wpc_seq ?_
    refine wpc_region [0, 1, 2, 3, 4, 5, 6, 7, 8, 9, 10, 11, 12, 13, 14, 15, 16, 17, 18, 19, 20, 21, 22] (by kernel_rfl) ?_
    refine wpr_run (l₂ := [1, 2, 3, 4, 5, 6, 7, 8, 9, 10, 11, 12, 13, 14, 15, 16, 17, 18, 19, 20, 21, 22]) true [0] [] [(65, Value.slice a1 (getL l z).fst.length c1), (14, Value.int IntKind.i64 (↑(allL l).snd : Int)), (12, Value.int IntKind.i64 (↑(allL l).snd : Int)), (10, Value.int IntKind.i64 (getL l z).snd.snd), (9, Value.int IntKind.i64 (getL l z).snd.fst), (8, Value.string (mkS (getL l z).fst)), (7, Value.int IntKind.i64 (getL l z).snd.snd), (6, Value.int IntKind.i64 (getL l z).snd.fst), (4, Value.bool false)] [ro s2a (List.map (strV ∘ fun (x : Part) => x.snd.snd) ps), ro sa (List.map valOf' ps), bag (List.map rowOf ps), row 5 1 a1 (getL l z).fst.length c1 (u8s (getL l z).fst)] [] (by kernel_rfl) (by kernel_rfl) trivial ?_
    refine wpr_eq (b2s (a := 22) (b := 9) (ad := a1) (n := ((getL l z).fst.length)) (c := c1) (dst := some 66) (by kernel_rfl) (by kernel_rfl) ((getL l z).1) (by first | rfl | simp) (fun w h => b2s_row h 3 rfl)) ?_
    refine wpr_run (l₂ := [5, 6, 7, 8, 9, 10, 11, 12, 13, 14, 15, 16, 17, 18, 19, 20, 21, 22]) true [2, 3, 4] [] [(69, Value.bool (decide ((getL l z).fst = (getL l z).fst))), (14, Value.int IntKind.i64 (↑(allL l).snd : Int)), (12, Value.int IntKind.i64 (↑(allL l).snd : Int)), (10, Value.int IntKind.i64 (getL l z).snd.snd), (9, Value.int IntKind.i64 (getL l z).snd.fst), (7, Value.int IntKind.i64 (getL l z).snd.snd), (6, Value.int IntKind.i64 (getL l z).snd.fst), (4, Value.bool false)] [ro s2a (List.map (strV ∘ fun (x : Part) => x.snd.snd) ps), ro sa (List.map valOf' ps), bag (List.map rowOf ps), row 5 1 a1 (getL l z).fst.length c1 (u8s (getL l z).fst)] [] (by kernel_rfl) (by kernel_rfl) trivial ?_
    refine wpr_ent (ent_set 69 (Value.bool (decide ((getL l z).fst = (getL l z).fst))) (Value.bool true) (by kernel_rfl) (congrArg _ (by simp))) ?_
    refine wpr_run (l₂ := [10, 11, 12, 13, 14, 15, 16, 17, 18, 19, 20, 21, 22]) true [5, 6, 7, 8, 9] [] [(74, Value.bool ((getL l z).snd.fst == (getL l z).snd.fst)), (14, Value.int IntKind.i64 (↑(allL l).snd : Int)), (12, Value.int IntKind.i64 (↑(allL l).snd : Int)), (10, Value.int IntKind.i64 (getL l z).snd.snd), (7, Value.int IntKind.i64 (getL l z).snd.snd), (4, Value.bool false)] [ro s2a (List.map (strV ∘ fun (x : Part) => x.snd.snd) ps), ro sa (List.map valOf' ps), bag (List.map rowOf ps), row 5 1 a1 (getL l z).fst.length c1 (u8s (getL l z).fst)] [] (by kernel_rfl) (by kernel_rfl) trivial ?_
    refine wpr_ent (ent_set 74 (Value.bool ((getL l z).snd.fst == (getL l z).snd.fst)) (Value.bool true) (by kernel_rfl) (congrArg _ (by simp))) ?_
    refine wpr_run (l₂ := [15, 16, 17, 18, 19, 20, 21, 22]) true [10, 11, 12, 13, 14] [] [(79, Value.bool ((getL l z).snd.snd == (getL l z).snd.snd)), (14, Value.int IntKind.i64 (↑(allL l).snd : Int)), (12, Value.int IntKind.i64 (↑(allL l).snd : Int)), (4, Value.bool false)] [ro s2a (List.map (strV ∘ fun (x : Part) => x.snd.snd) ps), ro sa (List.map valOf' ps), bag (List.map rowOf ps), row 5 1 a1 (getL l z).fst.length c1 (u8s (getL l z).fst)] [] (by kernel_rfl) (by kernel_rfl) trivial ?_
    refine wpr_ent (ent_set 79 (Value.bool ((getL l z).snd.snd == (getL l z).snd.snd)) (Value.bool true) (by kernel_rfl) (congrArg _ (by simp))) ?_
    refine wpr_run (l₂ := [20, 21, 22]) true [15, 16, 17, 18, 19] [] [(84, Value.bool ((↑(allL l).snd : Int) == (↑(allL l).snd : Int))), (4, Value.bool false)] [ro s2a (List.map (strV ∘ fun (x : Part) => x.snd.snd) ps), ro sa (List.map valOf' ps), bag (List.map rowOf ps), row 5 1 a1 (getL l z).fst.length c1 (u8s (getL l z).fst)] [] (by kernel_rfl) (by kernel_rfl) trivial ?_
    refine wpr_ent (ent_set 84 (Value.bool ((↑(allL l).snd : Int) == (↑(allL l).snd : Int))) (Value.bool true) (by kernel_rfl) (congrArg _ (by simp))) ?_
    refine wpr_call (dst := some 85) (rest := [ro s2a (List.map (strV ∘ fun (x : Part) => x.snd.snd) ps), ro sa (List.map valOf' ps), bag (List.map rowOf ps), row 5 1 a1 (getL l z).fst.length c1 (u8s (getL l z).fst)]) (by kernel_rfl) (lives_spec) (give [] (by kernel_rfl)) ?_
    rintro v _ ⟨rfl, rfl⟩
    refine wpr_run (l₂ := []) true [21, 22] [] [(4, Value.bool true)] [ro s2a (List.map (strV ∘ fun (x : Part) => x.snd.snd) ps), ro sa (List.map valOf' ps), bag (List.map rowOf ps), row 5 1 a1 (getL l z).fst.length c1 (u8s (getL l z).fst)] [] (by kernel_rfl) (by kernel_rfl) trivial ?_
    refine wpr_nil ?_
    refine nx_then ?_
    refine wpc_ret ?_
    refine nx_end (hp' := []) (rest := [ro s2a (List.map (strV ∘ fun (x : Part) => x.snd.snd) ps), ro sa (List.map valOf' ps), bag (List.map rowOf ps), row 5 1 a1 (getL l z).fst.length c1 (u8s (getL l z).fst)]) [] ((Value.bool true)) (by kernel_rfl) (by kernel_rfl) (give [] (by kernel_rfl)) (by first | ((repeat (first | exact trivial | refine ⟨trivial, ?_⟩)); done) | assumption) ?_ (.inr rfl)
    exact ⟨rfl, rfl⟩
end Go.Proofs.Ytmjhcadciblcdaa
