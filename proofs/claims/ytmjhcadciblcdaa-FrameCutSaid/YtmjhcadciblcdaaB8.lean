import Derived.Test.YtmjhcadciblcdaaB7
import Derived.Test.YtmjhcadciblcdaaX16
namespace Go.Proofs.Ytmjhcadciblcdaa
open Go Go.Sx
set_option linter.unusedVariables false
set_option linter.unusedSimpArgs false

theorem FrameSums_spec (a : Option Addr) (k : Nat) (l : List UInt8) (c : BitVec 32) (ha : a = none → l = []) (hl : l.length ≤ 1099511627776) :
    Does Try.prog 3 [.slice a l.length k, .int .u32 (c.toNat : Int)] [ro a (u8s l)] (fun v hp' => v = .bool true ∧ hp' = []) := by
  refine fn_enter Try.func3 rfl 26 rfl fun w0 h0 => ?_
  refine wpc_seq ?_
  refine wpc_region [0] (by kernel_rfl) ?_
  refine wpr_run (l₂ := []) true [0] [] [(4, Value.bool false), (0, Value.slice a l.length k), (1, Value.int IntKind.u32 (↑c.toNat : Int))] [ro a (u8s l)] [] (by kernel_rfl) (by kernel_rfl) trivial ?_
  refine wpr_nil ?_
  refine nx_then ?_
  refine wpc_seq ?_
  refine wpc_draw (by kernel_rfl) [ro a (u8s l)] (sub_of [0] (by kernel_rfl)) 22 (by kernel_rfl) ?_
  refine wpa_take true [(0, []), (3, [])] [(8, Value.slice a l.length k), (5, Value.slice a l.length k), (4, Value.bool false), (0, Value.slice a l.length k), (1, Value.int IntKind.u32 (↑c.toNat : Int))] (#[true, false, false, true, false, false, false, false, false, false, false, false, false, false, false, false, false, false, false, false, false, false]) [] (n := 20) (by kernel_rfl) (by kernel_rfl) (by kernel_rfl) trivial ?_
  refine wpa_qb2s (i := 4) (n := 19) (by kernel_rfl) (by kernel_rfl) (by kernel_rfl) (a := 22) (b := 9) (ad := a) (m := l.length) (c := k) (dst := some 9) (by kernel_rfl) (by kernel_rfl) l (by first | rfl | simp) (fun w h => b2s_roL h 0 rfl) ?_
  refine wpa_call (i := 1) (n := 18) (dst := some 6) (rest := [ro a (u8s l)]) (by kernel_rfl) (by kernel_rfl) (own_spec a k l ha hl) (Give.view (c := (ro a (u8s l))) (give (pre := []) (rest := [ro a (u8s l)]) [] (by kernel_rfl)) 0 (by kernel_rfl) view_ro) (sub_of [0] (by kernel_rfl)) ?_
  rintro v _ ⟨a1, c1, h1, rfl, rfl⟩
  refine wpa_ent (ent_turn 0 (ro a1 (u8s l)) rfl (turn_view view_row) rfl) ?_
  refine wpa_call (i := 2) (n := 17) (dst := some 7) (rest := [ro a1 (u8s l), ro a (u8s l)]) (by kernel_rfl) (by kernel_rfl) (Sum_spec a1 c1 l h1 hl) (Give.view (c := (ro a1 (u8s l))) (give (pre := []) (rest := [ro a1 (u8s l), ro a (u8s l)]) [] (by kernel_rfl)) 0 (by kernel_rfl) view_ro) (sub_of [1] (by kernel_rfl)) ?_
  rintro v _ ⟨rfl, rfl⟩
  refine wpa_call (i := 5) (n := 16) (dst := some 10) (rest := [ro a1 (u8s l), ro a (u8s l)]) (by kernel_rfl) (by kernel_rfl) (rSum_spec l hl) (give [] (by kernel_rfl)) (sub_of [1] (by kernel_rfl)) ?_
  rintro v _ ⟨rfl, rfl⟩
  refine wpa_take true [(6, []), (7, [])] [(12, Value.bool ((↑(more 0 l).toNat : Int) == (↑(more 0 l).toNat : Int))), (4, Value.bool false), (0, Value.slice a l.length k), (1, Value.int IntKind.u32 (↑c.toNat : Int))] (#[true, true, true, true, true, true, true, true, false, false, false, false, false, false, false, false, false, false, false, false, false, false]) [] (n := 14) (by kernel_rfl) (by kernel_rfl) (by kernel_rfl) trivial ?_
  refine wpa_ent (ent_set 12 (Value.bool ((↑(more 0 l).toNat : Int) == (↑(more 0 l).toNat : Int))) (Value.bool true) (by kernel_rfl) (congrArg _ (by simp))) ?_
  refine wpa_take true [(8, []), (9, []), (12, []), (13, [])] [(18, Value.slice a l.length k), (17, Value.int IntKind.u32 (↑c.toNat : Int)), (14, Value.slice a l.length k), (13, Value.int IntKind.u32 (↑c.toNat : Int)), (12, Value.bool true), (4, Value.bool false)] (#[true, true, true, true, true, true, true, true, true, true, false, false, true, true, false, false, false, false, false, false, false, false]) [] (n := 10) (by kernel_rfl) (by kernel_rfl) (by kernel_rfl) trivial ?_
  refine wpa_qb2s (i := 14) (n := 9) (by kernel_rfl) (by kernel_rfl) (by kernel_rfl) (a := 22) (b := 9) (ad := a) (m := l.length) (c := k) (dst := some 19) (by kernel_rfl) (by kernel_rfl) l (by first | rfl | simp) (fun w h => b2s_roL h 0 rfl) ?_
  refine wpa_call (i := 10) (n := 8) (dst := some 15) (rest := [ro a1 (u8s l), ro a (u8s l)]) (by kernel_rfl) (by kernel_rfl) (own_spec a k l ha hl) (Give.view (c := (ro a (u8s l))) (give (pre := []) (rest := [ro a1 (u8s l), ro a (u8s l)]) [] (by kernel_rfl)) 1 (by kernel_rfl) view_ro) (sub_of [1] (by kernel_rfl)) ?_
  rintro v _ ⟨a2, c2, h2, rfl, rfl⟩
  refine wpa_ent (ent_turn 0 (ro a2 (u8s l)) rfl (turn_view view_row) rfl) ?_
  refine wpa_call (i := 11) (n := 7) (dst := some 16) (rest := [ro a2 (u8s l), ro a1 (u8s l), ro a (u8s l)]) (by kernel_rfl) (by kernel_rfl) (More_spec a2 c2 l c h2 hl) (Give.view (c := (ro a2 (u8s l))) (give (pre := []) (rest := [ro a2 (u8s l), ro a1 (u8s l), ro a (u8s l)]) [] (by kernel_rfl)) 0 (by kernel_rfl) view_ro) (sub_of [2] (by kernel_rfl)) ?_
  rintro v _ ⟨rfl, rfl⟩
  refine wpa_call (i := 15) (n := 6) (dst := some 20) (rest := [ro a2 (u8s l), ro a1 (u8s l), ro a (u8s l)]) (by kernel_rfl) (by kernel_rfl) (rMore_spec l c hl) (give [] (by kernel_rfl)) (sub_of [2] (by kernel_rfl)) ?_
  rintro v _ ⟨rfl, rfl⟩
  refine wpa_take true [(16, []), (17, []), (18, [])] [(23, Value.bool ((↑(more c l).toNat : Int) == (↑(more c l).toNat : Int))), (4, Value.bool false)] (#[true, true, true, true, true, true, true, true, true, true, true, true, true, true, true, true, true, true, true, false, false, false]) [] (n := 3) (by kernel_rfl) (by kernel_rfl) (by kernel_rfl) trivial ?_
  refine wpa_ent (ent_set 23 (Value.bool ((↑(more c l).toNat : Int) == (↑(more c l).toNat : Int))) (Value.bool true) (by kernel_rfl) (congrArg _ (by simp))) ?_
  refine wpa_call (i := 19) (n := 2) (dst := some 24) (rest := [ro a2 (u8s l), ro a1 (u8s l), ro a (u8s l)]) (by kernel_rfl) (by kernel_rfl) (lives_spec) (give [] (by kernel_rfl)) (sub_of [2] (by kernel_rfl)) ?_
  rintro v _ ⟨rfl, rfl⟩
  refine wpa_take true [(20, []), (21, [])] [(4, Value.bool true)] (#[true, true, true, true, true, true, true, true, true, true, true, true, true, true, true, true, true, true, true, true, true, true]) [] (n := 0) (by kernel_rfl) (by kernel_rfl) (by kernel_rfl) trivial ?_
  refine wpa_done 0 (by kernel_rfl) ?_
  refine nx_then ?_
  refine wpc_ret ?_
  refine nx_end (hp' := []) (rest := [ro a2 (u8s l), ro a1 (u8s l), ro a (u8s l)]) [] ((Value.bool true)) (by kernel_rfl) (by kernel_rfl) (give [] (by kernel_rfl)) (by first | ((repeat (first | exact trivial | refine ⟨trivial, ?_⟩)); done) | assumption) ?_ (.inr rfl)
  exact ⟨rfl, rfl⟩
theorem FrameSums_int (a : Option Addr) (k : Nat) (l : List UInt8) (x : Int) (ha : a = none → l = []) (hl : l.length ≤ 1099511627776) (h0 : 0 ≤ x) (h1 : x ≤ 4294967295) :
    Does Try.prog 3 [.slice a l.length k, .int .u32 x] [ro a (u8s l)] (fun v hp' => v = .bool true ∧ hp' = []) := by
  have e : x = ((BitVec.ofNat 32 x.toNat).toNat : Int) := by
    rw [BitVec.toNat_ofNat]; omega
  rw [e]
  exact FrameSums_spec a k l _ ha hl
end Go.Proofs.Ytmjhcadciblcdaa
