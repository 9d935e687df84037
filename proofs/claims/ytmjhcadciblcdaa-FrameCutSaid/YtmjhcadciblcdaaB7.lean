import Derived.Test.YtmjhcadciblcdaaB6
import Derived.Test.YtmjhcadciblcdaaX16
namespace Go.Proofs.Ytmjhcadciblcdaa
open Go Go.Sx
set_option linter.unusedVariables false
set_option linter.unusedSimpArgs false

theorem fA_eq : frameL [97] = [2, 97, 179, 33, 90, 73] := by
  first
  | (have e : encI ((([97] : List UInt8).length : Nat) : Int) = [2] := by first | decide | kernel_rfl | simp [encI, foldN, vb]
     unfold frameL; rw [e]; kernel_rfl)
  | kernel_rfl
theorem gA_eq : getL (frameL [97]) 0 = ([97], 6, 0) := by rw [fA_eq]; kernel_rfl
theorem aA_eq : allL (frameL [97] ++ [255]) = ([[97]], 6) := by rw [fA_eq]; kernel_rfl
theorem sA_eq : (more 0 [49, 50, 51, 52, 53, 54, 55, 56, 57]).toNat = 0xcbf43926 := by kernel_rfl
theorem lives_spec : Does Try.prog 15 [] [] (fun v hp' => v = .bool true ∧ hp' = []) := by
  refine fn_enter Try.func15 rfl 76 rfl fun w0 h0 => ?_
  refine wpc_seq ?_
  refine wpc_region [0] (by kernel_rfl) ?_
  refine wpr_run (l₂ := []) true [0] [] [(0, Value.bool false)] [] [] (by kernel_rfl) (by kernel_rfl) trivial ?_
  refine wpr_nil ?_
  refine nx_then ?_
  refine wpc_seq ?_
  refine wpc_region [0, 1, 2, 3, 4, 5, 6, 7] (by kernel_rfl) ?_
  refine wpr_new (l₂ := [1, 2, 3, 4, 5, 6, 7]) true [0] [] (fun g1 => [(9, Value.slice (some { block := g1, off := 0 }) 1 1), (0, Value.bool false)]) (fun g1 => [Ch.blk g1 5 [Value.int IntKind.u8 97]]) (fun g1 => []) (fun g1 => by kernel_rfl) (fun g1 => by kernel_rfl) (fun g1 => trivial) fun g1 => ?_
  refine wpr_run (l₂ := [2, 3, 4, 5, 6, 7]) true [1] [0, 0] [(10, Value.slice (some { block := g1, off := 0 }) 1 1), (0, Value.bool false)] [Ch.blk g1 5 [Value.int IntKind.u8 97]] [] (by kernel_rfl) (by kernel_rfl) trivial ?_
  refine wpr_ent (ent_turn 0 (ro (some ⟨g1, 0, none⟩) (u8s [97])) rfl (turn_ro [97] rfl) rfl) ?_
  refine wpr_ent (ent_nil 5 1) ?_
  refine wpr_ent (ent_turn 0 (ro none (u8s [])) rfl (turn_view view_row) rfl) ?_
  refine wpr_call (dst := some 11) (rest := [ro none (u8s []), ro (some { block := g1, off := 0 }) (u8s [97])]) (by kernel_rfl) (Put_spec none (some ⟨g1, 0, none⟩) 0 1 [] [97] (fun _ => rfl) (by intro e; cases e) (by decide) (by decide)) (Give.view (c := (ro none (u8s []))) (Give.view (c := (ro (some { block := g1, off := 0 }) (u8s [97]))) (give (pre := []) (rest := [ro none (u8s []), ro (some { block := g1, off := 0 }) (u8s [97])]) [] (by kernel_rfl)) 1 (by kernel_rfl) view_ro) 0 (by kernel_rfl) view_ro) ?_
  rintro v _ hv
  rw [if_neg (by decide), List.nil_append, fA_eq] at hv
  obtain ⟨a, c, rfl, rfl⟩ := hv
  refine wpr_run (l₂ := []) true [3, 4, 5, 6, 7] [] [(2, Value.int IntKind.i64 0), (1, Value.slice a 6 c), (0, Value.bool false)] [row 5 1 a 6 c (u8s [2, 97, 179, 33, 90, 73]), ro none (u8s []), ro (some { block := g1, off := 0 }) (u8s [97])] [] (by kernel_rfl) (by kernel_rfl) trivial ?_
  refine wpr_nil ?_
  refine nx_then ?_
  refine wpc_seq ?_
  refine wpc_seq ?_
  refine wpc_region [0, 1, 2] (by kernel_rfl) ?_
  refine wpr_run (l₂ := []) true [0, 1, 2] [] [(16, Value.bool false), (2, Value.int IntKind.i64 0), (1, Value.slice a 6 c), (0, Value.bool false)] [row 5 1 a 6 c (u8s [2, 97, 179, 33, 90, 73]), ro none (u8s []), ro (some { block := g1, off := 0 }) (u8s [97])] [] (by kernel_rfl) (by kernel_rfl) trivial ?_
  refine wpr_nil ?_
  refine nx_then ?_
  refine wpc_false (by kernel_rfl) ?_
  refine wpc_skip ?_
  refine nx_then ?_
  refine wpc_seq ?_
  refine wpc_region [0, 1, 2, 3, 4, 5, 6, 7, 8] (by kernel_rfl) ?_
  refine wpr_run (l₂ := [1, 2, 3, 4, 5, 6, 7, 8]) true [0] [] [(18, Value.slice a 6 c), (2, Value.int IntKind.i64 0), (1, Value.slice a 6 c), (0, Value.bool false)] [row 5 1 a 6 c (u8s [2, 97, 179, 33, 90, 73]), ro none (u8s []), ro (some { block := g1, off := 0 }) (u8s [97])] [] (by kernel_rfl) (by kernel_rfl) trivial ?_
  refine wpr_fact (fun w h => row_addr h 0 rfl (by decide)) ?_
  rintro ⟨gb, ob_, rfl⟩
  refine wpr_fact (fun w h => row_cap h 0 rfl) fun hcap => ?_
  refine wpr_ent (ent_turn 0 (ro (some ⟨gb, ob_, none⟩) (u8s [2, 97, 179, 33, 90, 73])) rfl (turn_view view_row) rfl) ?_
  have hG := Get_spec (some ⟨gb, ob_, none⟩) c [2, 97, 179, 33, 90, 73] 0 (by decide) (by decide) (by intro e; cases e) (by intro ad h; cases h; rfl) hcap.2.1 (by decide)
  rw [← fA_eq, gA_eq, fA_eq] at hG
  refine wpr_call (dst := some 19) (rest := [ro (some { block := gb, off := ob_ }) (u8s [2, 97, 179, 33, 90, 73]), ro none (u8s []), ro (some { block := g1, off := 0 }) (u8s [97])]) (by kernel_rfl) (hG) (Give.view (c := (ro (some { block := gb, off := ob_ }) (u8s [2, 97, 179, 33, 90, 73]))) (give (pre := []) (rest := [ro (some { block := gb, off := ob_ }) (u8s [2, 97, 179, 33, 90, 73]), ro none (u8s []), ro (some { block := g1, off := 0 }) (u8s [97])]) [] (by kernel_rfl)) 0 (by kernel_rfl) view_ro) ?_
  rintro v _ ⟨a2, c2, h2, rfl, rfl⟩
  refine wpr_run (l₂ := []) true [2, 3, 4, 5, 6, 7, 8] [] [(5, Value.int IntKind.i64 0), (4, Value.int IntKind.i64 6), (3, Value.slice a2 1 c2), (2, Value.int IntKind.i64 0), (1, Value.slice (some { block := gb, off := ob_ }) 6 c), (0, Value.bool false)] [row 5 1 a2 1 c2 (u8s ([97], 6, 0).fst), ro (some { block := gb, off := ob_ }) (u8s [2, 97, 179, 33, 90, 73]), ro none (u8s []), ro (some { block := g1, off := 0 }) (u8s [97])] [] (by kernel_rfl) (by kernel_rfl) trivial ?_
  refine wpr_nil ?_
  refine nx_then ?_
  refine wpc_seq ?_
  refine wpc_region [0, 1, 2, 3, 4, 5, 6, 7, 8, 9, 10] (by kernel_rfl) ?_
  refine wpr_new (l₂ := [1, 2, 3, 4, 5, 6, 7, 8, 9, 10]) true [0] [] (fun g2 => [(24, Value.slice (some { block := g2, off := 0 }) 0 0), (5, Value.int IntKind.i64 0), (4, Value.int IntKind.i64 6), (3, Value.slice a2 1 c2), (2, Value.int IntKind.i64 0), (1, Value.slice (some { block := gb, off := ob_ }) 6 c), (0, Value.bool false)]) (fun g2 => [row 5 1 a2 1 c2 (u8s ([97], 6, 0).fst), ro (some { block := gb, off := ob_ }) (u8s [2, 97, 179, 33, 90, 73]), ro none (u8s []), ro (some { block := g1, off := 0 }) (u8s [97]), Ch.blk g2 5 []]) (fun g2 => []) (fun g2 => by kernel_rfl) (fun g2 => by kernel_rfl) (fun g2 => trivial) fun g2 => ?_
  refine wpr_run (l₂ := [2, 3, 4, 5, 6, 7, 8, 9, 10]) true [1] [] [(25, Value.slice (some { block := gb, off := ob_ }) 6 c), (24, Value.slice (some { block := g2, off := 0 }) 0 0), (5, Value.int IntKind.i64 0), (4, Value.int IntKind.i64 6), (3, Value.slice a2 1 c2), (2, Value.int IntKind.i64 0), (1, Value.slice (some { block := gb, off := ob_ }) 6 c), (0, Value.bool false)] [row 5 1 a2 1 c2 (u8s ([97], 6, 0).fst), ro (some { block := gb, off := ob_ }) (u8s [2, 97, 179, 33, 90, 73]), ro none (u8s []), ro (some { block := g1, off := 0 }) (u8s [97]), Ch.blk g2 5 []] [] (by kernel_rfl) (by kernel_rfl) trivial ?_
  refine wpr_ent (ent_turn 4 (row 5 1 (some ⟨g2, 0, none⟩) 0 0 []) rfl (turn_blk rfl (by intro u hu; cases hu) (by simp)) rfl) ?_
  refine wpr_app (a := (some { block := g2, off := 0 })) (n := 0) (cap := 0) (x := (Value.slice (some { block := gb, off := ob_ }) 6 c)) (t := 22) (xt := 22) (dst := some 26) (by kernel_rfl) (e := 5) (sz := 1) (bytes := 1) (by kernel_rfl) 4 (xs := []) (by kernel_rfl) (m := 6) (news := (u8s [2, 97, 179, 33, 90, 73])) (fun w h => src_ro h 1 rfl rfl (fun e => by cases e)) (by unfold maxLen; omega) (by omega) ?_
  intro a3 c3 hn3
  simp only [List.nil_append, Nat.zero_add]
  refine wpr_new (l₂ := [4, 5, 6, 7, 8, 9, 10]) true [3] [] (fun g3 => [(27, Value.slice (some { block := g3, off := 0 }) 1 1), (26, Value.slice a3 6 c3), (5, Value.int IntKind.i64 0), (4, Value.int IntKind.i64 6), (3, Value.slice a2 1 c2), (2, Value.int IntKind.i64 0), (1, Value.slice (some { block := gb, off := ob_ }) 6 c), (0, Value.bool false)]) (fun g3 => [row 5 1 a2 1 c2 (u8s [97]), ro (some { block := gb, off := ob_ }) (u8s [2, 97, 179, 33, 90, 73]), ro none (u8s []), ro (some { block := g1, off := 0 }) (u8s [97]), row 5 1 a3 6 c3 (u8s [2, 97, 179, 33, 90, 73]), Ch.blk g3 5 [Value.int IntKind.u8 255]]) (fun g3 => []) (fun g3 => by kernel_rfl) (fun g3 => by kernel_rfl) (fun g3 => trivial) fun g3 => ?_
  refine wpr_ent (ent_turn 5 (ro (some ⟨g3, 0, none⟩) (u8s [255])) rfl (turn_ro [255] rfl) rfl) ?_
  refine wpr_app (a := a3) (n := 6) (cap := c3) (x := (Value.slice (some { block := g3, off := 0 }) 1 1)) (t := 22) (xt := 22) (dst := some 28) (by kernel_rfl) (e := 5) (sz := 1) (bytes := 1) (by kernel_rfl) 4 (xs := (u8s [2, 97, 179, 33, 90, 73])) (by kernel_rfl) (m := 1) (news := (u8s [255])) (fun w h => src_ro h 5 rfl rfl (fun e => by cases e)) (by unfold maxLen; omega) (by omega) ?_
  intro a4 c4 hn4
  refine wpr_fact (fun w h => row_cap h 4 rfl) fun hcap4 => ?_
  refine wpr_fact (fun w h => row_none h 4 rfl) fun hno4 => ?_
  refine wpr_ent (ent_turn 4 (ro a4 (u8s [2, 97, 179, 33, 90, 73, 255])) rfl (turn_view view_row) rfl) ?_
  have aA : allL [2, 97, 179, 33, 90, 73, 255] = ([[97]], 6) := by have h := aA_eq; rw [fA_eq] at h; exact h
  have hA := All_spec a4 c4 [2, 97, 179, 33, 90, 73, 255] (fun e => by have h := hno4 e; simp [u8s] at h) hcap4.2.1 (by decide)
  rw [aA] at hA
  refine wpr_call (dst := some 29) (rest := [row 5 1 a2 1 c2 (u8s [97]), ro (some { block := gb, off := ob_ }) (u8s [2, 97, 179, 33, 90, 73]), ro none (u8s []), ro (some { block := g1, off := 0 }) (u8s [97]), ro a4 (u8s [2, 97, 179, 33, 90, 73, 255]), ro (some { block := g3, off := 0 }) (u8s [255])]) (by kernel_rfl) (hA) (Give.view (c := (ro a4 (u8s [2, 97, 179, 33, 90, 73, 255]))) (give (pre := []) (rest := [row 5 1 a2 1 c2 (u8s [97]), ro (some { block := gb, off := ob_ }) (u8s [2, 97, 179, 33, 90, 73]), ro none (u8s []), ro (some { block := g1, off := 0 }) (u8s [97]), ro a4 (u8s [2, 97, 179, 33, 90, 73, 255]), ro (some { block := g3, off := 0 }) (u8s [255])]) [] (by kernel_rfl)) 4 (by kernel_rfl) view_ro) ?_
  rintro v _ ⟨s, ps, hps, rfl, rfl⟩
  obtain ⟨y, rfl⟩ : ∃ y, ps = [y] := by
    cases ps with
    | nil => simp at hps
    | cons y t => cases t with
      | nil => exact ⟨y, rfl⟩
      | cons z u => simp at hps
  refine wpr_run (l₂ := []) true [6, 7, 8, 9, 10] [] [(7, Value.int IntKind.i64 6), (6, Value.slice s.1 1 s.snd), (5, Value.int IntKind.i64 0), (4, Value.int IntKind.i64 6), (3, Value.slice a2 1 c2), (2, Value.int IntKind.i64 0), (1, Value.slice (some { block := gb, off := ob_ }) 6 c), (0, Value.bool false)] [row 22 1 s.fst 1 s.snd (List.map valOf' [y]), star (List.map rowOf [y]), row 5 1 a2 1 c2 (u8s [97]), ro (some { block := gb, off := ob_ }) (u8s [2, 97, 179, 33, 90, 73]), ro none (u8s []), ro (some { block := g1, off := 0 }) (u8s [97]), ro a4 (u8s [2, 97, 179, 33, 90, 73, 255]), ro (some { block := g3, off := 0 }) (u8s [255])] [] (by kernel_rfl) (by kernel_rfl) trivial ?_
  refine wpr_nil ?_
  refine nx_then ?_
  refine wpc_seq ?_
  refine wpc_region [0, 1, 2, 3, 4, 5, 6, 7, 8, 9, 10, 11, 12, 13, 14, 15, 16, 17, 18, 19, 20, 21, 22, 23, 24, 25, 26, 27, 28, 29, 30, 31, 32, 33, 34, 35, 36, 37, 38, 39, 40, 41, 42, 43, 44] (by kernel_rfl) ?_
  refine wpr_run (l₂ := [5, 6, 7, 8, 9, 10, 11, 12, 13, 14, 15, 16, 17, 18, 19, 20, 21, 22, 23, 24, 25, 26, 27, 28, 29, 30, 31, 32, 33, 34, 35, 36, 37, 38, 39, 40, 41, 42, 43, 44]) true [0, 1, 2, 3, 4] [] [(36, Value.pointer (some { block := gb, off := ob_ })), (34, Value.bool true), (7, Value.int IntKind.i64 6), (6, Value.slice s.1 1 s.snd), (5, Value.int IntKind.i64 0), (4, Value.int IntKind.i64 6), (3, Value.slice a2 1 c2), (1, Value.slice (some { block := gb, off := ob_ }) 6 c), (0, Value.bool false)] [row 22 1 s.fst 1 s.snd (List.map valOf' [y]), star (List.map rowOf [y]), row 5 1 a2 1 c2 (u8s [97]), ro (some { block := gb, off := ob_ }) (u8s [2, 97, 179, 33, 90, 73]), ro none (u8s []), ro (some { block := g1, off := 0 }) (u8s [97]), ro a4 (u8s [2, 97, 179, 33, 90, 73, 255]), ro (some { block := g3, off := 0 }) (u8s [255])] [(0 : Int) ≤ (0 : Int) ∧ (0 : Int) < (↑(6 : Nat) : Int)] (by kernel_rfl) (by kernel_rfl) ⟨by omega, trivial⟩ ?_
  refine wpr_eq (ld (t := 5) (a := ({ block := gb, off := ob_ })) (dst := some 37) (by kernel_rfl) false 1 (by kernel_rfl) (by simp) [.int .u8 2] rfl (fun w h => ld_ro h 3 rfl 0 (by rfl))) ?_
  refine wpr_run (l₂ := [11, 12, 13, 14, 15, 16, 17, 18, 19, 20, 21, 22, 23, 24, 25, 26, 27, 28, 29, 30, 31, 32, 33, 34, 35, 36, 37, 38, 39, 40, 41, 42, 43, 44]) true [6, 7, 8, 9, 10] [] ([(42, Value.pointer (some { block := gb, off := ob_ + 1 })), (40, Value.bool true), (7, Value.int IntKind.i64 6), (6, Value.slice s.1 1 s.snd), (5, Value.int IntKind.i64 0), (4, Value.int IntKind.i64 6), (3, Value.slice a2 1 c2), (0, Value.bool false)]) [row 22 1 s.fst 1 s.snd (List.map valOf' [y]), star (List.map rowOf [y]), row 5 1 a2 1 c2 (u8s [97]), ro (some { block := gb, off := ob_ }) (u8s [2, 97, 179, 33, 90, 73]), ro none (u8s []), ro (some { block := g1, off := 0 }) (u8s [97]), ro a4 (u8s [2, 97, 179, 33, 90, 73, 255]), ro (some { block := g3, off := 0 }) (u8s [255])] [(0 : Int) ≤ (1 : Int) ∧ (1 : Int) < (↑(6 : Nat) : Int)] (by kernel_rfl) (by kernel_rfl) ⟨by omega, trivial⟩ ?_
  refine wpr_eq (ld (t := 5) (a := ({ block := gb, off := ob_ + 1 })) (dst := some 43) (by kernel_rfl) false 1 (by kernel_rfl) (by simp) [.int .u8 97] rfl (fun w h => ld_ro h 3 rfl 1 (by rfl))) ?_
  refine wpr_run (l₂ := [16, 17, 18, 19, 20, 21, 22, 23, 24, 25, 26, 27, 28, 29, 30, 31, 32, 33, 34, 35, 36, 37, 38, 39, 40, 41, 42, 43, 44]) true [12, 13, 14, 15] [] [(47, Value.slice a2 1 c2), (46, Value.bool true), (7, Value.int IntKind.i64 6), (6, Value.slice s.1 1 s.snd), (5, Value.int IntKind.i64 0), (4, Value.int IntKind.i64 6), (0, Value.bool false)] [row 22 1 s.fst 1 s.snd (List.map valOf' [y]), star (List.map rowOf [y]), row 5 1 a2 1 c2 (u8s [97]), ro (some { block := gb, off := ob_ }) (u8s [2, 97, 179, 33, 90, 73]), ro none (u8s []), ro (some { block := g1, off := 0 }) (u8s [97]), ro a4 (u8s [2, 97, 179, 33, 90, 73, 255]), ro (some { block := g3, off := 0 }) (u8s [255])] [] (by kernel_rfl) (by kernel_rfl) trivial ?_
  refine wpr_eq (b2s (a := 22) (b := 9) (ad := a2) (n := 1) (c := c2) (dst := some 48) (by kernel_rfl) (by kernel_rfl) [97] (by first | rfl | simp) (fun w h => b2s_row h 2 rfl)) ?_
  refine wpr_new (l₂ := [38, 39, 40, 41, 42, 43, 44]) true [17, 18, 19, 20, 21, 22, 23, 24, 25, 26, 27, 28, 29, 30, 31, 32, 33, 34, 35, 36, 37] [] (fun g4 => [(69, Value.slice (some { block := g4, off := 0 }) 9 9), (68, Value.bool true), (0, Value.bool false)]) (fun g4 => [row 22 1 s.fst 1 s.snd (List.map valOf' [y]), star (List.map rowOf [y]), row 5 1 a2 1 c2 (u8s [97]), ro (some { block := gb, off := ob_ }) (u8s [2, 97, 179, 33, 90, 73]), ro none (u8s []), ro (some { block := g1, off := 0 }) (u8s [97]), ro a4 (u8s [2, 97, 179, 33, 90, 73, 255]), ro (some { block := g3, off := 0 }) (u8s [255]), Ch.blk g4 5 [Value.int IntKind.u8 49, Value.int IntKind.u8 50, Value.int IntKind.u8 51, Value.int IntKind.u8 52, Value.int IntKind.u8 53, Value.int IntKind.u8 54, Value.int IntKind.u8 55, Value.int IntKind.u8 56, Value.int IntKind.u8 57]]) (fun g4 => []) (fun g4 => by kernel_rfl) (fun g4 => by kernel_rfl) (fun g4 => trivial) fun g4 => ?_
  refine wpr_run (l₂ := [39, 40, 41, 42, 43, 44]) true [38] [8, 8] [(70, Value.slice (some { block := g4, off := 0 }) 9 9), (68, Value.bool true), (0, Value.bool false)] [row 22 1 s.fst 1 s.snd (List.map valOf' [y]), star (List.map rowOf [y]), row 5 1 a2 1 c2 (u8s [97]), ro (some { block := gb, off := ob_ }) (u8s [2, 97, 179, 33, 90, 73]), ro none (u8s []), ro (some { block := g1, off := 0 }) (u8s [97]), ro a4 (u8s [2, 97, 179, 33, 90, 73, 255]), ro (some { block := g3, off := 0 }) (u8s [255]), Ch.blk g4 5 [Value.int IntKind.u8 49, Value.int IntKind.u8 50, Value.int IntKind.u8 51, Value.int IntKind.u8 52, Value.int IntKind.u8 53, Value.int IntKind.u8 54, Value.int IntKind.u8 55, Value.int IntKind.u8 56, Value.int IntKind.u8 57]] [] (by kernel_rfl) (by kernel_rfl) trivial ?_
  refine wpr_ent (ent_turn 8 (ro (some ⟨g4, 0, none⟩) (u8s [49, 50, 51, 52, 53, 54, 55, 56, 57])) rfl (turn_ro [49, 50, 51, 52, 53, 54, 55, 56, 57] rfl) rfl) ?_
  refine wpr_call (dst := some 71) (rest := [row 22 1 s.fst 1 s.snd (List.map valOf' [y]), star (List.map rowOf [y]), row 5 1 a2 1 c2 (u8s [97]), ro (some { block := gb, off := ob_ }) (u8s [2, 97, 179, 33, 90, 73]), ro none (u8s []), ro (some { block := g1, off := 0 }) (u8s [97]), ro a4 (u8s [2, 97, 179, 33, 90, 73, 255]), ro (some { block := g3, off := 0 }) (u8s [255]), ro (some { block := g4, off := 0 }) (u8s [49, 50, 51, 52, 53, 54, 55, 56, 57])]) (by kernel_rfl) (Sum_spec (some ⟨g4, 0, none⟩) 9 [49, 50, 51, 52, 53, 54, 55, 56, 57] (by intro e; cases e) (by decide)) (Give.view (c := (ro (some { block := g4, off := 0 }) (u8s [49, 50, 51, 52, 53, 54, 55, 56, 57]))) (give (pre := []) (rest := [row 22 1 s.fst 1 s.snd (List.map valOf' [y]), star (List.map rowOf [y]), row 5 1 a2 1 c2 (u8s [97]), ro (some { block := gb, off := ob_ }) (u8s [2, 97, 179, 33, 90, 73]), ro none (u8s []), ro (some { block := g1, off := 0 }) (u8s [97]), ro a4 (u8s [2, 97, 179, 33, 90, 73, 255]), ro (some { block := g3, off := 0 }) (u8s [255]), ro (some { block := g4, off := 0 }) (u8s [49, 50, 51, 52, 53, 54, 55, 56, 57])]) [] (by kernel_rfl)) 8 (by kernel_rfl) view_ro) ?_
  rintro v _ ⟨rfl, rfl⟩
  rw [sA_eq]
  refine wpr_run (l₂ := []) true [40, 41, 42, 43, 44] [] [(0, Value.bool true)] [row 22 1 s.fst 1 s.snd (List.map valOf' [y]), star (List.map rowOf [y]), row 5 1 a2 1 c2 (u8s [97]), ro (some { block := gb, off := ob_ }) (u8s [2, 97, 179, 33, 90, 73]), ro none (u8s []), ro (some { block := g1, off := 0 }) (u8s [97]), ro a4 (u8s [2, 97, 179, 33, 90, 73, 255]), ro (some { block := g3, off := 0 }) (u8s [255]), ro (some { block := g4, off := 0 }) (u8s [49, 50, 51, 52, 53, 54, 55, 56, 57])] [] (by kernel_rfl) (by kernel_rfl) trivial ?_
  refine wpr_nil ?_
  refine nx_then ?_
  refine wpc_ret ?_
  refine nx_end (hp' := []) (rest := [row 22 1 s.fst 1 s.snd (List.map valOf' [y]), star (List.map rowOf [y]), row 5 1 a2 1 c2 (u8s [97]), ro (some { block := gb, off := ob_ }) (u8s [2, 97, 179, 33, 90, 73]), ro none (u8s []), ro (some { block := g1, off := 0 }) (u8s [97]), ro a4 (u8s [2, 97, 179, 33, 90, 73, 255]), ro (some { block := g3, off := 0 }) (u8s [255]), ro (some { block := g4, off := 0 }) (u8s [49, 50, 51, 52, 53, 54, 55, 56, 57])]) [] ((Value.bool true)) (by kernel_rfl) (by kernel_rfl) (give [] (by kernel_rfl)) (by first | ((repeat (first | exact trivial | refine ⟨trivial, ?_⟩)); done) | assumption) ?_ (.inr rfl)
  exact ⟨rfl, rfl⟩
end Go.Proofs.Ytmjhcadciblcdaa
