import Derived.Test.YtpfhleghgkeemaaGreatDoorH5
import Derived.Test.YtpfhleghgkeemaaGreatDoorY3
import Derived.Test.YtpfhleghgkeemaaGreatDoorY2
namespace Go.Proofs.YtpfhleghgkeemaaGreatDoor
open Go Go.Sx
set_option linter.unusedVariables false
set_option linter.unusedSimpArgs false

/-- The replacer's table, and what it leans on. -/
def repH (g2 : Nat) (p : Nat → Nat × Nat) (ta : Option Addr) (tc : Nat) : Hp := [row 9 1 ta 3 tc (toRep 0), row 248 1 (some ⟨g2, 0, none⟩) 257 257 (repC (repR 0 p) (.slice ta 3 tc)), star (repRows 0 p)]
theorem buildOnce_spec (g : Nat) (a : Option Addr) (c : Nat) : Does Tryz.prog 156 [.pointer (some ⟨g, 0, none⟩)] [.blk g 220 [.int .u32 0, .int .i32 1, .int .u32 0, .nilIface, .slice a 6 c], row 9 1 a 6 c (pairsL.map strV)]
    (fun x hp' => ∃ g2 p ta tc, x = .tuple #[] ∧ hp' = .blk g 220 [.int .u32 0, .int .i32 1, .int .u32 0, .iface 249 (.pointer (some ⟨g2, 0, none⟩)), .slice none 0 0] :: repH g2 p ta tc) := by
  refine fn_enter Tryz.func156 rfl 10 rfl fun w0 h0 => ?_
  refine SQ (RG ?_)
  refine RR [] (.d (.d .a)) (.i 3 (.pointer (some ⟨g, 0, none⟩)) (.i 2 (.pointer (some ⟨g, 0, none⟩)) .a)) (.i (.blk g 220 [.int .u32 0, .int .i32 1, .int .u32 0, Value.nilIface, .slice a 6 c]) (.d (.k .a))) ?_
  refine RCA (dst := some 4) (build_spec g .nilIface a c) ?_
  rintro v _ ⟨g2, p, ta, tc, rfl, rfl⟩
  refine RR [0] .z (.d (.d (.d (.k .a)))) (.i (.blk g 220 [.int .u32 0, .int .i32 1, .int .u32 0, Value.iface 249 (.pointer (some ⟨g2, 0, none⟩)), .slice a 6 c]) (.d (.k .a))) ?_
  refine RZ (NT (RG ?_))
  refine RR [0] .z .z (.i (.blk g 220 [.int .u32 0, .int .i32 1, .int .u32 0, Value.iface 249 (.pointer (some ⟨g2, 0, none⟩)), .slice none 0 0]) (.d (.k .a))) ?_
  refine RZ ?_
  refine NE [0, 1, 1, 1] (.i (.blk g 220 [.int .u32 0, .int .i32 1, .int .u32 0, Value.iface 249 (.pointer (some ⟨g2, 0, none⟩)), .slice none 0 0]) (.d (.d (.k .a)))) (.d (.k .z)) [] (.tuple #[]) ?_
  exact ⟨g2, p, ta, tc, rfl, rfl⟩
theorem bStoreD (g : Nat) (v o1 o2 : Int) (r o : Value) : DoesD Tryz.prog 174 [.pointer (some ⟨g, 0, none⟩), .bool true] [.blk g 220 [.int .u32 v, .int .i32 o1, .int .u32 o2, r, o]] (fun x hp' => x = .tuple #[] ∧ hp' = [.blk g 220 [.int .u32 1, .int .i32 o1, .int .u32 o2, r, o]]) := by
  refine fn_enter_d Tryz.func174 rfl 10 rfl fun w0 h0 => ?_
  refine wpc_draw (by kernel_rfl) [] (sub_of [] (by kernel_rfl)) 6 (by kernel_rfl) ?_
  refine TK 2 [(0, []), (1, []), (2, []), (3, [])] (.i 7 (.bool true) (.i 6 (.pointer (some ⟨g, 0, none⟩)) .z)) (#[true, true, true, true, false, false]) ?_
  refine AC (dst := some 8) 1 4 (.i (.blk g 220 [.int .u32 v, .int .i32 o1, .int .u32 o2, r, o]) .z) (b32_spec) (GI []) [] ?_
  rintro v _ ⟨rfl, rfl⟩
  refine AO 0 5 [0] .z (.i (.blk g 220 [.int .u32 1, .int .i32 o1, .int .u32 o2, r, o]) .z) [] ?_
  refine wpa_done 0 (by kernel_rfl) ?_
  refine NE [0] (.i (.blk g 220 [.int .u32 1, .int .i32 o1, .int .u32 o2, r, o]) .z) .z [] (.tuple #[]) ?_
  exact ⟨rfl, rfl⟩
theorem UnlockD (g : Nat) (v o2 : Int) (r o : Value) : DoesD Tryz.prog 173 [.pointer (some ⟨g, 1, none⟩)] [.blk g 220 [.int .u32 v, .int .i32 1, .int .u32 o2, r, o]] (fun x hp' => x = .tuple #[] ∧ hp' = [.blk g 220 [.int .u32 v, .int .i32 0, .int .u32 o2, r, o]]) := by
  refine fn_enter_d Tryz.func173 rfl 6 rfl fun w0 h0 => ?_
  refine RG ?_
  refine RR [] (.d (.d (.d .a))) (.i 4 (.pointer (some ⟨g, 1, none⟩)) .z) (.i (.blk g 220 [.int .u32 v, .int .i32 1, .int .u32 o2, r, o]) .z) ?_
  refine RCA (dst := some 5) (iUnlock_spec g v o2 r o) ?_
  rintro v _ ⟨rfl, rfl⟩
  refine RZ ?_
  refine NE [0] (.i (.blk g 220 [.int .u32 v, .int .i32 0, .int .u32 o2, r, o]) .z) .z [] (.tuple #[]) ?_
  exact ⟨rfl, rfl⟩
theorem doSlow_spec (g : Nat) (a : Option Addr) (c : Nat) : Does Tryz.prog 164 [.pointer (some ⟨g, 0, none⟩), .func (.func 156) #[.pointer (some ⟨g, 0, none⟩)] #[]] [.blk g 220 [.int .u32 0, .int .i32 0, .int .u32 0, .nilIface, .slice a 6 c], row 9 1 a 6 c (pairsL.map strV)]
    (fun x hp' => ∃ g2 p ta tc, x = .tuple #[] ∧ hp' = .blk g 220 [.int .u32 1, .int .i32 0, .int .u32 0, .iface 249 (.pointer (some ⟨g2, 0, none⟩)), .slice none 0 0] :: repH g2 p ta tc) := by
  refine fn_enter_def Tryz.func164 rfl 21 rfl fun w0 h0 => ?_
  refine SQ (RG ?_)
  refine RR [] (.d (.d (.d .a))) (.i 6 (.pointer (some ⟨g, 1, none⟩)) .a) (.i (.blk g 220 [.int .u32 0, .int .i32 0, .int .u32 0, Value.nilIface, .slice a 6 c]) (.d (.k .a))) ?_
  refine RC (dst := some 7) [0] (.d (.k .a)) (Lock_spec g 0 0 .nilIface (.slice a 6 c)) ?_
  rintro v _ ⟨rfl, rfl⟩
  refine RZ (NT (SQ (RG ?_)))
  refine RR [] (.d (.d (.d .a))) (.i 10 (.pointer (some ⟨g, 1, none⟩)) (.d (.d (.k .a)))) (.i (.blk g 220 [.int .u32 0, .int .i32 1, .int .u32 0, Value.nilIface, .slice a 6 c]) (.d (.k .a))) ?_
  refine wpr_defer (f := 173) (caps := #[]) (args := #[.pointer (some ⟨g, 1, none⟩)]) (by kernel_rfl) ?_
  refine RZ (NT (SQ (RG ?_)))
  refine RR [] (.d (.d (.d .a))) (.i 13 (.pointer (some ⟨g, 0, none⟩)) (.d (.k .a))) (.i (.blk g 220 [.int .u32 0, .int .i32 1, .int .u32 0, Value.nilIface, .slice a 6 c]) (.d (.k .a))) ?_
  refine RC (dst := some 14) [0] (.d (.k .a)) (bLoad_spec g 0 1 0 .nilIface (.slice a 6 c)) ?_
  rintro v _ ⟨rfl, rfl⟩
  refine RR [] .z (.i 15 (.bool true) (.d (.d (.k .a)))) (.i (.blk g 220 [.int .u32 0, .int .i32 1, .int .u32 0, Value.nilIface, .slice a 6 c]) (.d (.k .a))) ?_
  refine RZ (NT (CT (SQ (RG ?_))))
  refine RR [] (.d (.d (.d .a))) (.i 18 (.pointer (some ⟨g, 0, none⟩)) (.d (.d (.k .a)))) (.i (.blk g 220 [.int .u32 0, .int .i32 1, .int .u32 0, Value.nilIface, .slice a 6 c]) (.d (.k .a))) ?_
  refine wpr_defer (f := 174) (caps := #[]) (args := #[.pointer (some ⟨g, 0, none⟩), .bool true]) (by kernel_rfl) ?_
  refine RZ (NT (RG ?_))
  refine RR [] (.d .a) (.i 19 (Value.func (Fn.func 156) #[.pointer (some ⟨g, 0, none⟩)] #[]) .z) (.i (.blk g 220 [.int .u32 0, .int .i32 1, .int .u32 0, Value.nilIface, .slice a 6 c]) (.d (.k .a))) ?_
  refine wpr_callv_all (dst := some 20) (first := (#[.pointer (some ⟨g, 0, none⟩)])) (caps := (#[])) (args := []) (f := 156) (by kernel_rfl) (by kernel_rfl) (buildOnce_spec g a c) give_all ?_
  rintro v _ ⟨g2, p, ta, tc, rfl, rfl⟩
  refine RZ ?_
  refine nx_lv (.inl rfl) ?_
  refine lv_cons (by kernel_rfl) (bStoreD g 0 1 0 _ _) (rest := repH g2 p ta tc) (give [0] rfl) ?_
  rintro v _ ⟨rfl, rfl⟩
  refine lv_cons (by kernel_rfl) (UnlockD g 1 0 _ _) (rest := repH g2 p ta tc) (give [0] rfl) ?_
  rintro v _ ⟨rfl, rfl⟩
  refine lv_nil (.tuple #[]) rfl give_all ⟨trivial, trivial, trivial, trivial, trivial⟩ ⟨g2, p, ta, tc, rfl, rfl⟩
theorem Do_spec (g : Nat) (a : Option Addr) (c : Nat) : Does Tryz.prog 155 [.pointer (some ⟨g, 0, none⟩), .func (.func 156) #[.pointer (some ⟨g, 0, none⟩)] #[]] [.blk g 220 [.int .u32 0, .int .i32 0, .int .u32 0, .nilIface, .slice a 6 c], row 9 1 a 6 c (pairsL.map strV)]
    (fun x hp' => ∃ g2 p ta tc, x = .tuple #[] ∧ hp' = .blk g 220 [.int .u32 1, .int .i32 0, .int .u32 0, .iface 249 (.pointer (some ⟨g2, 0, none⟩)), .slice none 0 0] :: repH g2 p ta tc) := by
  refine fn_enter Tryz.func155 rfl 12 rfl fun w0 h0 => ?_
  refine SQ (RG ?_)
  refine RR [] (.d (.d (.d .a))) (.i 6 (.pointer (some ⟨g, 0, none⟩)) .a) (.i (.blk g 220 [.int .u32 0, .int .i32 0, .int .u32 0, Value.nilIface, .slice a 6 c]) (.d (.k .a))) ?_
  refine RC (dst := some 7) [0] (.d (.k .a)) (bLoad_spec g 0 0 0 .nilIface (.slice a 6 c)) ?_
  rintro v _ ⟨rfl, rfl⟩
  refine RR [] .z (.i 8 (.bool true) (.d (.d (.k .a)))) (.i (.blk g 220 [.int .u32 0, .int .i32 0, .int .u32 0, Value.nilIface, .slice a 6 c]) (.d (.k .a))) ?_
  refine RZ (NT (CT (RG ?_)))
  refine RR [] (.d (.d .a)) (.i 10 (Value.func (Fn.func 156) #[.pointer (some ⟨g, 0, none⟩)] #[]) (.i 9 (.pointer (some ⟨g, 0, none⟩)) .z)) (.i (.blk g 220 [.int .u32 0, .int .i32 0, .int .u32 0, Value.nilIface, .slice a 6 c]) (.d (.k .a))) ?_
  refine RCA (dst := some 11) (doSlow_spec g a c) ?_
  rintro v _ ⟨g2, p, ta, tc, rfl, rfl⟩
  refine RZ ?_
  refine NE [0, 0, 0, 0] (.i (.blk g 220 [.int .u32 1, .int .i32 0, .int .u32 0, Value.iface 249 (.pointer (some ⟨g2, 0, none⟩)), .slice none 0 0]) (.d (.k .a))) .z [] (.tuple #[]) ?_
  exact ⟨g2, p, ta, tc, rfl, rfl⟩
end Go.Proofs.YtpfhleghgkeemaaGreatDoor
