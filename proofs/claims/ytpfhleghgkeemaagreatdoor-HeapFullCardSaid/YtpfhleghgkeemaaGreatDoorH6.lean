import Derived.Test.YtpfhleghgkeemaaGreatDoorH5
import Derived.Test.YtpfhleghgkeemaaGreatDoorX20
import Derived.Test.YtpfhleghgkeemaaGreatDoorX16
namespace Go.Proofs.YtpfhleghgkeemaaGreatDoor
open Go Go.Sx
set_option linter.unusedSimpArgs false

/-- The replacer's table, and what it leans on. -/
def repH (g2 : Nat) (p : Nat → Nat × Nat) (ta : Option Addr) (tc : Nat) : Hp := [row 9 1 ta 3 tc (toRep 0), row 248 1 (some ⟨g2, 0, none⟩) 257 257 (repC (repR 0 p) (.slice ta 3 tc)), star (repRows 0 p)]
theorem buildOnce_spec (g : Nat) (a : Option Addr) (c : Nat) : Does Tryz.prog 156 [.pointer (some ⟨g, 0, none⟩)] [.blk g 220 [.int .u32 0, .int .i32 1, .int .u32 0, .nilIface, .slice a 6 c], row 9 1 a 6 c (pairsL.map strV)]
    (fun x hp' => ∃ g2 p ta tc, x = .tuple #[] ∧ hp' = .blk g 220 [.int .u32 0, .int .i32 1, .int .u32 0, .iface 249 (.pointer (some ⟨g2, 0, none⟩)), .slice none 0 0] :: repH g2 p ta tc) := by
  refine fn_enter Tryz.func156 rfl 10 rfl fun w0 h0 => ?_
  refine wpc_seq ?_
  refine wpc_region [0, 1, 2, 3, 4, 5] (by kernel_rfl) ?_
  refine wpr_run (l₂ := [2, 3, 4, 5]) true [0, 1] [] [(3, .pointer (some ⟨g, 0, none⟩)), (2, .pointer (some ⟨g, 0, none⟩)), (0, .pointer (some ⟨g, 0, none⟩))] [.blk g 220 [.int .u32 0, .int .i32 1, .int .u32 0, Value.nilIface, .slice a 6 c], row 9 1 a 6 c (List.map strV pairsL)] [] (by kernel_rfl) (by kernel_rfl) trivial ?_
  refine wpr_call_all (dst := some 4) (by kernel_rfl) (build_spec g .nilIface a c) give_all ?_
  rintro v _ ⟨g2, p, ta, tc, rfl, rfl⟩
  refine wpr_run (l₂ := []) true [3, 4, 5] [0] [(0, .pointer (some ⟨g, 0, none⟩))] [.blk g 220 [.int .u32 0, .int .i32 1, .int .u32 0, Value.iface 249 (.pointer (some ⟨g2, 0, none⟩)), .slice a 6 c], row 9 1 a 6 c (List.map strV pairsL), row 9 1 ta 3 tc (toRep 0), row 248 1 (some ⟨g2, 0, none⟩) 257 257 (repC (repR 0 p) (.slice ta 3 tc)), star (repRows 0 p)] [] (by kernel_rfl) (by kernel_rfl) trivial ?_
  refine wpr_nil (nx_then ?_)
  refine wpc_region [0, 1, 2, 3] (by kernel_rfl) ?_
  refine wpr_run (l₂ := []) true [0, 1, 2, 3] [0] [] [.blk g 220 [.int .u32 0, .int .i32 1, .int .u32 0, Value.iface 249 (.pointer (some ⟨g2, 0, none⟩)), .slice none 0 0], row 9 1 a 6 c (List.map strV pairsL), row 9 1 ta 3 tc (toRep 0), row 248 1 (some ⟨g2, 0, none⟩) 257 257 (repC (repR 0 p) (.slice ta 3 tc)), star (repRows 0 p)] [] (by kernel_rfl) (by kernel_rfl) trivial ?_
  refine wpr_nil ?_
  refine nx_end (hp' := [.blk g 220 [.int .u32 0, .int .i32 1, .int .u32 0, Value.iface 249 (.pointer (some ⟨g2, 0, none⟩)), .slice none 0 0], row 9 1 ta 3 tc (toRep 0), row 248 1 (some ⟨g2, 0, none⟩) 257 257 (repC (repR 0 p) (.slice ta 3 tc)), star (repRows 0 p)]) (rest := [row 9 1 a 6 c (List.map strV pairsL)]) [] ((Value.tuple #[])) (by kernel_rfl) (by kernel_rfl) (give [0, 1, 1, 1] (by kernel_rfl)) (by first | ((repeat (first | exact trivial | refine ⟨trivial, ?_⟩)); done) | assumption) ?_ (.inl rfl)
  exact ⟨g2, p, ta, tc, rfl, rfl⟩
theorem bStoreD (g : Nat) (v o1 o2 : Int) (r o : Value) : DoesD Tryz.prog 174 [.pointer (some ⟨g, 0, none⟩), .bool true] [.blk g 220 [.int .u32 v, .int .i32 o1, .int .u32 o2, r, o]] (fun x hp' => x = .tuple #[] ∧ hp' = [.blk g 220 [.int .u32 1, .int .i32 o1, .int .u32 o2, r, o]]) := by
  refine fn_enter_d Tryz.func174 rfl 10 rfl fun w0 h0 => ?_
  refine wpc_draw (by kernel_rfl) [] (sub_of [] (by kernel_rfl)) 6 (by kernel_rfl) ?_
  refine wpa_take true [(0, []), (1, []), (2, []), (3, [])] [(7, .bool true), (6, .pointer (some ⟨g, 0, none⟩))] (#[true, true, true, true, false, false]) [] (n := 2) (by kernel_rfl) (by kernel_rfl) (by kernel_rfl) trivial ?_
  refine wpa_call (i := 4) (n := 1) (dst := some 8) (rest := [.blk g 220 [.int .u32 v, .int .i32 o1, .int .u32 o2, r, o]]) (by kernel_rfl) (by kernel_rfl) (b32_spec) (give [] (by kernel_rfl)) (sub_of [] (by kernel_rfl)) ?_
  rintro v _ ⟨rfl, rfl⟩
  refine wpa_one (n := 0) true 5 [0] [] [.blk g 220 [.int .u32 1, .int .i32 o1, .int .u32 o2, r, o]] [] (by kernel_rfl) (by kernel_rfl) (by kernel_rfl) trivial (sub_of [] (by kernel_rfl)) ?_
  refine wpa_done 0 (by kernel_rfl) ?_
  refine nx_end (hp' := [.blk g 220 [.int .u32 1, .int .i32 o1, .int .u32 o2, r, o]]) (rest := []) [] ((Value.tuple #[])) (by kernel_rfl) (by kernel_rfl) give_all (by first | ((repeat (first | exact trivial | refine ⟨trivial, ?_⟩)); done) | assumption) ?_ (.inl rfl)
  exact ⟨rfl, rfl⟩
theorem UnlockD (g : Nat) (v o2 : Int) (r o : Value) : DoesD Tryz.prog 173 [.pointer (some ⟨g, 1, none⟩)] [.blk g 220 [.int .u32 v, .int .i32 1, .int .u32 o2, r, o]] (fun x hp' => x = .tuple #[] ∧ hp' = [.blk g 220 [.int .u32 v, .int .i32 0, .int .u32 o2, r, o]]) := by
  refine fn_enter_d Tryz.func173 rfl 6 rfl fun w0 h0 => ?_
  refine wpc_region [0, 1, 2, 3] (by kernel_rfl) ?_
  refine wpr_run (l₂ := [3]) true [0, 1, 2] [] [(4, .pointer (some ⟨g, 1, none⟩))] [.blk g 220 [.int .u32 v, .int .i32 1, .int .u32 o2, r, o]] [] (by kernel_rfl) (by kernel_rfl) trivial ?_
  refine wpr_call_all (dst := some 5) (by kernel_rfl) (iUnlock_spec g v o2 r o) give_all ?_
  rintro v _ ⟨rfl, rfl⟩
  refine wpr_nil ?_
  refine nx_end (hp' := [.blk g 220 [.int .u32 v, .int .i32 0, .int .u32 o2, r, o]]) (rest := []) [] ((Value.tuple #[])) (by kernel_rfl) (by kernel_rfl) give_all (by first | ((repeat (first | exact trivial | refine ⟨trivial, ?_⟩)); done) | assumption) ?_ (.inl rfl)
  exact ⟨rfl, rfl⟩
theorem doSlow_spec (g : Nat) (a : Option Addr) (c : Nat) : Does Tryz.prog 164 [.pointer (some ⟨g, 0, none⟩), .func (.func 156) #[.pointer (some ⟨g, 0, none⟩)] #[]] [.blk g 220 [.int .u32 0, .int .i32 0, .int .u32 0, .nilIface, .slice a 6 c], row 9 1 a 6 c (pairsL.map strV)]
    (fun x hp' => ∃ g2 p ta tc, x = .tuple #[] ∧ hp' = .blk g 220 [.int .u32 1, .int .i32 0, .int .u32 0, .iface 249 (.pointer (some ⟨g2, 0, none⟩)), .slice none 0 0] :: repH g2 p ta tc) := by
  refine fn_enter_def Tryz.func164 rfl 21 rfl fun w0 h0 => ?_
  refine wpc_seq ?_
  refine wpc_region [0, 1, 2, 3] (by kernel_rfl) ?_
  refine wpr_run (l₂ := [3]) true [0, 1, 2] [] [(6, .pointer (some ⟨g, 1, none⟩)), (0, .pointer (some ⟨g, 0, none⟩)), (1, Value.func (Fn.func 156) #[.pointer (some ⟨g, 0, none⟩)] #[])] [.blk g 220 [.int .u32 0, .int .i32 0, .int .u32 0, Value.nilIface, .slice a 6 c], row 9 1 a 6 c (List.map strV pairsL)] [] (by kernel_rfl) (by kernel_rfl) trivial ?_
  refine wpr_call (dst := some 7) (rest := [row 9 1 a 6 c (List.map strV pairsL)]) (by kernel_rfl) (Lock_spec g 0 0 .nilIface (.slice a 6 c)) (give [0] (by kernel_rfl)) ?_
  rintro v _ ⟨rfl, rfl⟩
  refine wpr_nil (nx_then (wpc_seq ?_))
  refine wpc_region [0, 1, 2, 3] (by kernel_rfl) ?_
  refine wpr_run (l₂ := [3]) true [0, 1, 2] [] [(10, .pointer (some ⟨g, 1, none⟩)), (0, .pointer (some ⟨g, 0, none⟩)), (1, Value.func (Fn.func 156) #[.pointer (some ⟨g, 0, none⟩)] #[])] [.blk g 220 [.int .u32 0, .int .i32 1, .int .u32 0, Value.nilIface, .slice a 6 c], row 9 1 a 6 c (List.map strV pairsL)] [] (by kernel_rfl) (by kernel_rfl) trivial ?_
  refine wpr_defer (f := 173) (caps := #[]) (args := #[.pointer (some ⟨g, 1, none⟩)]) (by kernel_rfl) ?_
  refine wpr_nil (nx_then (wpc_seq ?_))
  refine wpc_region [0, 1, 2, 3, 4] (by kernel_rfl) ?_
  refine wpr_run (l₂ := [3, 4]) true [0, 1, 2] [] [(13, .pointer (some ⟨g, 0, none⟩)), (0, .pointer (some ⟨g, 0, none⟩)), (1, Value.func (Fn.func 156) #[.pointer (some ⟨g, 0, none⟩)] #[])] [.blk g 220 [.int .u32 0, .int .i32 1, .int .u32 0, Value.nilIface, .slice a 6 c], row 9 1 a 6 c (List.map strV pairsL)] [] (by kernel_rfl) (by kernel_rfl) trivial ?_
  refine wpr_call (dst := some 14) (rest := [row 9 1 a 6 c (List.map strV pairsL)]) (by kernel_rfl) (bLoad_spec g 0 1 0 .nilIface (.slice a 6 c)) (give [0] (by kernel_rfl)) ?_
  rintro v _ ⟨rfl, rfl⟩
  refine wpr_run (l₂ := []) true [4] [] [(15, .bool true), (0, .pointer (some ⟨g, 0, none⟩)), (1, Value.func (Fn.func 156) #[.pointer (some ⟨g, 0, none⟩)] #[])] [.blk g 220 [.int .u32 0, .int .i32 1, .int .u32 0, Value.nilIface, .slice a 6 c], row 9 1 a 6 c (List.map strV pairsL)] [] (by kernel_rfl) (by kernel_rfl) trivial ?_
  refine wpr_nil (nx_then ?_)
  refine wpc_true (by kernel_rfl) ?_
  refine wpc_seq ?_
  refine wpc_region [0, 1, 2, 3] (by kernel_rfl) ?_
  refine wpr_run (l₂ := [3]) true [0, 1, 2] [] [(18, .pointer (some ⟨g, 0, none⟩)), (1, Value.func (Fn.func 156) #[.pointer (some ⟨g, 0, none⟩)] #[])] [.blk g 220 [.int .u32 0, .int .i32 1, .int .u32 0, Value.nilIface, .slice a 6 c], row 9 1 a 6 c (List.map strV pairsL)] [] (by kernel_rfl) (by kernel_rfl) trivial ?_
  refine wpr_defer (f := 174) (caps := #[]) (args := #[.pointer (some ⟨g, 0, none⟩), .bool true]) (by kernel_rfl) ?_
  refine wpr_nil (nx_then ?_)
  refine wpc_region [0, 1] (by kernel_rfl) ?_
  refine wpr_run (l₂ := [1]) true [0] [] [(19, Value.func (Fn.func 156) #[.pointer (some ⟨g, 0, none⟩)] #[])] [.blk g 220 [.int .u32 0, .int .i32 1, .int .u32 0, Value.nilIface, .slice a 6 c], row 9 1 a 6 c (List.map strV pairsL)] [] (by kernel_rfl) (by kernel_rfl) trivial ?_
  refine wpr_callv_all (dst := some 20) (first := (#[.pointer (some ⟨g, 0, none⟩)])) (caps := (#[])) (args := []) (f := 156) (by kernel_rfl) (by kernel_rfl) (buildOnce_spec g a c) give_all ?_
  rintro v _ ⟨g2, p, ta, tc, rfl, rfl⟩
  refine wpr_nil ?_
  refine nx_lv (.inl rfl) ?_
  refine lv_cons (by kernel_rfl) (bStoreD g 0 1 0 _ _) (rest := repH g2 p ta tc) (give [0] rfl) ?_
  rintro v _ ⟨rfl, rfl⟩
  refine lv_cons (by kernel_rfl) (UnlockD g 1 0 _ _) (rest := repH g2 p ta tc) (give [0] rfl) ?_
  rintro v _ ⟨rfl, rfl⟩
  refine lv_nil (.tuple #[]) rfl give_all ⟨trivial, trivial, trivial, trivial, trivial⟩ ⟨g2, p, ta, tc, rfl, rfl⟩
theorem Do_spec (g : Nat) (a : Option Addr) (c : Nat) : Does Tryz.prog 155 [.pointer (some ⟨g, 0, none⟩), .func (.func 156) #[.pointer (some ⟨g, 0, none⟩)] #[]] [.blk g 220 [.int .u32 0, .int .i32 0, .int .u32 0, .nilIface, .slice a 6 c], row 9 1 a 6 c (pairsL.map strV)]
    (fun x hp' => ∃ g2 p ta tc, x = .tuple #[] ∧ hp' = .blk g 220 [.int .u32 1, .int .i32 0, .int .u32 0, .iface 249 (.pointer (some ⟨g2, 0, none⟩)), .slice none 0 0] :: repH g2 p ta tc) := by
  refine fn_enter Tryz.func155 rfl 12 rfl fun w0 h0 => ?_
  refine wpc_seq ?_
  refine wpc_region [0, 1, 2, 3, 4] (by kernel_rfl) ?_
  refine wpr_run (l₂ := [3, 4]) true [0, 1, 2] [] [(6, .pointer (some ⟨g, 0, none⟩)), (0, .pointer (some ⟨g, 0, none⟩)), (1, Value.func (Fn.func 156) #[.pointer (some ⟨g, 0, none⟩)] #[])] [.blk g 220 [.int .u32 0, .int .i32 0, .int .u32 0, Value.nilIface, .slice a 6 c], row 9 1 a 6 c (List.map strV pairsL)] [] (by kernel_rfl) (by kernel_rfl) trivial ?_
  refine wpr_call (dst := some 7) (rest := [row 9 1 a 6 c (List.map strV pairsL)]) (by kernel_rfl) (bLoad_spec g 0 0 0 .nilIface (.slice a 6 c)) (give [0] (by kernel_rfl)) ?_
  rintro v _ ⟨rfl, rfl⟩
  refine wpr_run (l₂ := []) true [4] [] [(8, .bool true), (0, .pointer (some ⟨g, 0, none⟩)), (1, Value.func (Fn.func 156) #[.pointer (some ⟨g, 0, none⟩)] #[])] [.blk g 220 [.int .u32 0, .int .i32 0, .int .u32 0, Value.nilIface, .slice a 6 c], row 9 1 a 6 c (List.map strV pairsL)] [] (by kernel_rfl) (by kernel_rfl) trivial ?_
  refine wpr_nil (nx_then ?_)
  refine wpc_true (by kernel_rfl) ?_
  refine wpc_region [0, 1, 2] (by kernel_rfl) ?_
  refine wpr_run (l₂ := [2]) true [0, 1] [] [(10, Value.func (Fn.func 156) #[.pointer (some ⟨g, 0, none⟩)] #[]), (9, .pointer (some ⟨g, 0, none⟩))] [.blk g 220 [.int .u32 0, .int .i32 0, .int .u32 0, Value.nilIface, .slice a 6 c], row 9 1 a 6 c (List.map strV pairsL)] [] (by kernel_rfl) (by kernel_rfl) trivial ?_
  refine wpr_call_all (dst := some 11) (by kernel_rfl) (doSlow_spec g a c) give_all ?_
  rintro v _ ⟨g2, p, ta, tc, rfl, rfl⟩
  refine wpr_nil ?_
  refine nx_end (hp' := [.blk g 220 [.int .u32 1, .int .i32 0, .int .u32 0, Value.iface 249 (.pointer (some ⟨g2, 0, none⟩)), .slice none 0 0], row 9 1 ta 3 tc (toRep 0), row 248 1 (some ⟨g2, 0, none⟩) 257 257 (repC (repR 0 p) (.slice ta 3 tc)), star (repRows 0 p)]) (rest := []) [] ((Value.tuple #[])) (by kernel_rfl) (by kernel_rfl) give_all (by first | ((repeat (first | exact trivial | refine ⟨trivial, ?_⟩)); done) | assumption) ?_ (.inl rfl)
  exact ⟨g2, p, ta, tc, rfl, rfl⟩
end Go.Proofs.YtpfhleghgkeemaaGreatDoor
