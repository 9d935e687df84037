import Derived.Test.YtpfhleghgkeemaaGreatDoorH3
import Derived.Test.YtpfhleghgkeemaaGreatDoorY2
namespace Go.Proofs.YtpfhleghgkeemaaGreatDoor
open Go Go.Sx
set_option linter.unusedVariables false
set_option linter.unusedSimpArgs false

/-- May a byte stand in a text? -/
def plB (c : Int) : Bool := c == 10 || (decide (32 ≤ c) && decide (c ≤ 126))
theorem bad_spec (c : Int) : Does Tryz.prog 137 [.int .i32 c] [] (fun v hp' => v = .bool (!plB c) ∧ hp' = []) := by
  unfold plB
  rcases (by omega : (c = 10) ∨ (¬ c = 10 ∧ c < 32) ∨ (¬ c = 10 ∧ 32 ≤ c ∧ c ≤ 126) ∨ (¬ c = 10 ∧ 32 ≤ c ∧ ¬ c ≤ 126)) with h1 | ⟨h1, h2⟩ | ⟨h1, h2, h3⟩ | ⟨h1, h2, h3⟩
  · refine fn_enter Tryz.func137 rfl 13 rfl fun w0 h0 => ?_
    refine SQ (RG ?_)
    refine RR [] .z (.i 2 (.bool false) .a) .a ?_
    refine RZ (NT (SQ (RG ?_)))
    refine RR [] (.d (.d (.d .a))) (.i 5 (.bool (c != 10)) .a) .a ?_
    refine SR 5 (c != 10) false (by simp only [bne_eq_false_iff_eq, beq_eq_false_iff_ne, ne_eq]; omega) ?_
    refine RR [] .z (.d (.d (.k .z))) .a ?_
    refine RZ (NT (RE ?_))
    refine NE [] .a .a [] (.bool false) ?_
    exact ⟨by simp [h1], rfl⟩
  · refine fn_enter Tryz.func137 rfl 13 rfl fun w0 h0 => ?_
    refine SQ (RG ?_)
    refine RR [] .z (.i 2 (.bool false) .a) .a ?_
    refine RZ (NT (SQ (RG ?_)))
    refine RR [] (.d (.d (.d .a))) (.i 5 (.bool (c != 10)) .a) .a ?_
    refine SR 5 (c != 10) true (by simp only [bne_iff_ne, beq_iff_eq, ne_eq]; omega) ?_
    refine RR [] (.d (.d (.d .a))) (.i 8 (.bool (decide (c < 32))) (.k (.d (.k .a)))) .a ?_
    refine SR 8 (decide (c < 32)) true (decide_eq_true (by omega)) ?_
    refine RR [] .z (.i 2 (.bool true) .z) .a ?_
    refine RZ (NT (RE ?_))
    refine NE [] .a .a [] (.bool true) ?_
    exact ⟨by rw [Value.bool.injEq, Bool.eq_iff_iff]; simp; omega, rfl⟩
  · refine fn_enter Tryz.func137 rfl 13 rfl fun w0 h0 => ?_
    refine SQ (RG ?_)
    refine RR [] .z (.i 2 (.bool false) .a) .a ?_
    refine RZ (NT (SQ (RG ?_)))
    refine RR [] (.d (.d (.d .a))) (.i 5 (.bool (c != 10)) .a) .a ?_
    refine SR 5 (c != 10) true (by simp only [bne_iff_ne, beq_iff_eq, ne_eq]; omega) ?_
    refine RR [] (.d (.d (.d .a))) (.i 8 (.bool (decide (c < 32))) (.k (.d (.k .a)))) .a ?_
    refine SR 8 (decide (c < 32)) false (decide_eq_false (by omega)) ?_
    refine RR [] .z (.i 2 (.bool (decide (c > 126))) .z) .a ?_
    refine RZ (NT (RE ?_))
    refine NE [] .a .a [] (.bool (decide (c > 126))) ?_
    exact ⟨by rw [Value.bool.injEq, Bool.eq_iff_iff]; simp; omega, rfl⟩
  · refine fn_enter Tryz.func137 rfl 13 rfl fun w0 h0 => ?_
    refine SQ (RG ?_)
    refine RR [] .z (.i 2 (.bool false) .a) .a ?_
    refine RZ (NT (SQ (RG ?_)))
    refine RR [] (.d (.d (.d .a))) (.i 5 (.bool (c != 10)) .a) .a ?_
    refine SR 5 (c != 10) true (by simp only [bne_iff_ne, beq_iff_eq, ne_eq]; omega) ?_
    refine RR [] (.d (.d (.d .a))) (.i 8 (.bool (decide (c < 32))) (.k (.d (.k .a)))) .a ?_
    refine SR 8 (decide (c < 32)) false (decide_eq_false (by omega)) ?_
    refine RR [] .z (.i 2 (.bool (decide (c > 126))) .z) .a ?_
    refine RZ (NT (RE ?_))
    refine NE [] .a .a [] (.bool (decide (c > 126))) ?_
    exact ⟨by rw [Value.bool.injEq, Bool.eq_iff_iff]; simp; omega, rfl⟩
def pairsL : List (List UInt8) := [[92], [92, 92], [34], [92, 34], [10], [92, 110]]
theorem NewReplacer_spec (g0 : Nat) : Does Tryz.prog 139 [.slice (some ⟨g0, 0, none⟩) 6 6] [ro (some ⟨g0, 0, none⟩) (pairsL.map strV)] (fun v hp' => ∃ g a c, v = .pointer (some ⟨g, 0, none⟩) ∧ hp' = [.blk g 220 [.int .u32 0, .int .i32 0, .int .u32 0, .nilIface, .slice a 6 c], row 9 1 a 6 c (pairsL.map strV)]) := by
  refine fn_enter Tryz.func139 rfl 12 rfl fun w0 h0 => ?_
  refine SQ (RG ?_)
  refine RR [] .z (.i 2 (.pointer none) .a) .a ?_
  refine RZ (NT (SQ (SQ (RG ?_))))
  refine RV true [] .z (.i 6 (.bool false) .a) .a [(2 : Int) ≠ (0 : Int)] ⟨by first | omega | decide | (simp; done), trivial⟩ ?_
  refine RZ (NT (CF (SK (NT (SQ (RG ?_))))))
  refine RR [] (.d .a) (.i 8 (.slice (some ⟨g0, 0, none⟩) 6 6) (.d (.k .z))) .a ?_
  refine wpr_ent (ent_nil 9 1) ?_
  refine wpr_app (a := none) (n := 0) (cap := 0) (x := (.slice (some ⟨g0, 0, none⟩) 6 6)) (t := 183) (xt := 183) (dst := some 9) (by kernel_rfl) (e := 9) (sz := 1) (bytes := 16) (by kernel_rfl) 0 (xs := []) (by kernel_rfl) (m := 6) (news := (pairsL.map strV)) (fun w h => src_ro h 1 rfl rfl (fun e => by cases e)) (by unfold maxLen; omega) (by omega) ?_
  intro a c hac
  refine RP [] (.d (.d .a)) 11 (.d (.d (.k .a))) (.i (row 9 1 a 6 c ([] ++ List.map strV pairsL)) (.d (.k .a))) 220 [.int .u32 0, .int .i32 0, .int .u32 0, Value.nilIface, .slice a 6 c] fun g1 => ?_
  refine RR [] .z (.i 2 (.pointer (some ⟨g1, 0, none⟩)) .z) (.k (.k (.i (.blk g1 220 [.int .u32 0, .int .i32 0, .int .u32 0, Value.nilIface, .slice a 6 c]) .z))) ?_
  refine RZ (NT (RE ?_))
  refine NE [2, 0] (.i (.blk g1 220 [.int .u32 0, .int .i32 0, .int .u32 0, Value.nilIface, .slice a 6 c]) (.k .z)) (.d (.k .z)) [] (.pointer (some ⟨g1, 0, none⟩)) ?_
  exact ⟨g1, a, c, rfl, rfl⟩
theorem bLoad_spec (g : Nat) (v o1 o2 : Int) (r o : Value) : Does Tryz.prog 163 [.pointer (some ⟨g, 0, none⟩)] [.blk g 220 [.int .u32 v, .int .i32 o1, .int .u32 o2, r, o]] (fun x hp' => x = .bool (v != 0) ∧ hp' = [.blk g 220 [.int .u32 v, .int .i32 o1, .int .u32 o2, r, o]]) := by
  refine fn_enter Tryz.func163 rfl 8 rfl fun w0 h0 => ?_
  refine SQ (RG ?_)
  refine RR [] .z (.i 2 (.bool false) .a) (.i (.blk g 220 [.int .u32 v, .int .i32 o1, .int .u32 o2, r, o]) .z) ?_
  refine RZ (NT (SQ (RG ?_)))
  refine RR [0] .z (.i 2 (.bool (v != 0)) .z) (.i (.blk g 220 [.int .u32 v, .int .i32 o1, .int .u32 o2, r, o]) .z) ?_
  refine RZ (NT (RE ?_))
  refine NE [0] (.i (.blk g 220 [.int .u32 v, .int .i32 o1, .int .u32 o2, r, o]) .z) .z [] (.bool (v != 0)) ?_
  exact ⟨rfl, rfl⟩
theorem b32_spec : Does Tryz.prog 182 [.bool true] [] (fun x hp' => x = .int .u32 1 ∧ hp' = []) := by
  refine fn_enter Tryz.func182 rfl 4 rfl fun w0 h0 => ?_
  refine SQ (RG ?_)
  refine RR [] .z (.i 2 (.int .u32 0) .a) .a ?_
  refine RZ (NT (SQ (SQ (RG ?_))))
  refine RR [] .z (.i 3 (.bool true) (.k .z)) .a ?_
  refine RZ (NT (CT (SQ (RG ?_))))
  refine RR [] .z (.i 2 (.int .u32 1) .z) .a ?_
  refine RZ (NT (RE (TR ?_)))
  refine NE [] .a .a [] (.int .u32 1) ?_
  exact ⟨rfl, rfl⟩
theorem bStore_spec (g : Nat) (v o1 o2 : Int) (r o : Value) : Does Tryz.prog 174 [.pointer (some ⟨g, 0, none⟩), .bool true] [.blk g 220 [.int .u32 v, .int .i32 o1, .int .u32 o2, r, o]] (fun x hp' => x = .tuple #[] ∧ hp' = [.blk g 220 [.int .u32 1, .int .i32 o1, .int .u32 o2, r, o]]) := by
  refine fn_enter Tryz.func174 rfl 10 rfl fun w0 h0 => ?_
  refine wpc_draw (by kernel_rfl) [] (sub_of [] (by kernel_rfl)) 6 (by kernel_rfl) ?_
  refine TK 2 [(0, []), (1, []), (2, []), (3, [])] (.i 7 (.bool true) (.i 6 (.pointer (some ⟨g, 0, none⟩)) .z)) (#[true, true, true, true, false, false]) ?_
  refine AC (dst := some 8) 1 4 (.i (.blk g 220 [.int .u32 v, .int .i32 o1, .int .u32 o2, r, o]) .z) (b32_spec) (GI []) [] ?_
  rintro v _ ⟨rfl, rfl⟩
  refine AO 0 5 [0] .z (.i (.blk g 220 [.int .u32 1, .int .i32 o1, .int .u32 o2, r, o]) .z) [] ?_
  refine wpa_done 0 (by kernel_rfl) ?_
  refine NE [0] (.i (.blk g 220 [.int .u32 1, .int .i32 o1, .int .u32 o2, r, o]) .z) .z [] (.tuple #[]) ?_
  exact ⟨rfl, rfl⟩
theorem iLock_spec (g : Nat) (v o2 : Int) (r o : Value) : Does Tryz.prog 179 [.pointer (some ⟨g, 1, none⟩)] [.blk g 220 [.int .u32 v, .int .i32 0, .int .u32 o2, r, o]] (fun x hp' => x = .tuple #[] ∧ hp' = [.blk g 220 [.int .u32 v, .int .i32 1, .int .u32 o2, r, o]]) := by
  refine fn_enter Tryz.func179 rfl 13 rfl fun w0 h0 => ?_
  refine SQ (RG ?_)
  refine RR [] .z .a (.i (.blk g 220 [.int .u32 v, .int .i32 0, .int .u32 o2, r, o]) .z) ?_
  refine RZ (NT (SQ (SQ (RG ?_))))
  refine RR [0, 0, 0, 0] .z (.i 6 (.bool true) .a) (.i (.blk g 220 [.int .u32 v, .int .i32 1, .int .u32 o2, r, o]) .z) ?_
  refine RZ (NT (CT (SQ (CT (SQ (RG ?_))))))
  refine RR [] .z (.d (.k .a)) (.i (.blk g 220 [.int .u32 v, .int .i32 1, .int .u32 o2, r, o]) .z) ?_
  refine RZ (NT (RG ?_))
  refine RR [0, 0] .z .a (.i (.blk g 220 [.int .u32 v, .int .i32 1, .int .u32 o2, r, o]) .z) ?_
  refine RZ (NT (RE (TR ?_)))
  refine NE [0] (.i (.blk g 220 [.int .u32 v, .int .i32 1, .int .u32 o2, r, o]) .z) .z [] (.tuple #[]) ?_
  exact ⟨rfl, rfl⟩
theorem Lock_spec (g : Nat) (v o2 : Int) (r o : Value) : Does Tryz.prog 172 [.pointer (some ⟨g, 1, none⟩)] [.blk g 220 [.int .u32 v, .int .i32 0, .int .u32 o2, r, o]] (fun x hp' => x = .tuple #[] ∧ hp' = [.blk g 220 [.int .u32 v, .int .i32 1, .int .u32 o2, r, o]]) := by
  refine fn_enter Tryz.func172 rfl 6 rfl fun w0 h0 => ?_
  refine RG ?_
  refine RR [] (.d (.d (.d .a))) (.i 4 (.pointer (some ⟨g, 1, none⟩)) .z) (.i (.blk g 220 [.int .u32 v, .int .i32 0, .int .u32 o2, r, o]) .z) ?_
  refine RCA (dst := some 5) (iLock_spec g v o2 r o) ?_
  rintro v _ ⟨rfl, rfl⟩
  refine RZ ?_
  refine NE [0] (.i (.blk g 220 [.int .u32 v, .int .i32 1, .int .u32 o2, r, o]) .z) .z [] (.tuple #[]) ?_
  exact ⟨rfl, rfl⟩
theorem iUnlock_spec (g : Nat) (v o2 : Int) (r o : Value) : Does Tryz.prog 180 [.pointer (some ⟨g, 1, none⟩)] [.blk g 220 [.int .u32 v, .int .i32 1, .int .u32 o2, r, o]] (fun x hp' => x = .tuple #[] ∧ hp' = [.blk g 220 [.int .u32 v, .int .i32 0, .int .u32 o2, r, o]]) := by
  refine fn_enter Tryz.func180 rfl 21 rfl fun w0 h0 => ?_
  refine SQ (CT (SQ (RG ?_)))
  refine RR [0] .z .a (.i (.blk g 220 [.int .u32 v, .int .i32 1, .int .u32 o2, r, o]) .z) ?_
  refine RZ (NT (SQ (RG ?_)))
  refine RR [0, 0] .z .a (.i (.blk g 220 [.int .u32 v, .int .i32 1, .int .u32 o2, r, o]) .z) ?_
  refine RZ (NT (RG ?_))
  refine RR [] .z .a (.i (.blk g 220 [.int .u32 v, .int .i32 1, .int .u32 o2, r, o]) .z) ?_
  refine RZ (NT (SQ (RG ?_)))
  refine RR [0, 0] .z (.i 2 (.int .i32 0) .a) (.i (.blk g 220 [.int .u32 v, .int .i32 0, .int .u32 o2, r, o]) .z) ?_
  refine RZ (NT (SQ (SQ (RG ?_))))
  refine RR [] .z (.i 16 (.bool false) .a) (.i (.blk g 220 [.int .u32 v, .int .i32 0, .int .u32 o2, r, o]) .z) ?_
  refine RZ (NT (CF (SK (NT (RG ?_)))))
  refine RR [] .z .z (.i (.blk g 220 [.int .u32 v, .int .i32 0, .int .u32 o2, r, o]) .z) ?_
  refine RZ ?_
  refine NE [0] (.i (.blk g 220 [.int .u32 v, .int .i32 0, .int .u32 o2, r, o]) .z) .z [] (.tuple #[]) ?_
  exact ⟨rfl, rfl⟩
theorem Unlock_spec (g : Nat) (v o2 : Int) (r o : Value) : Does Tryz.prog 173 [.pointer (some ⟨g, 1, none⟩)] [.blk g 220 [.int .u32 v, .int .i32 1, .int .u32 o2, r, o]] (fun x hp' => x = .tuple #[] ∧ hp' = [.blk g 220 [.int .u32 v, .int .i32 0, .int .u32 o2, r, o]]) := by
  refine fn_enter Tryz.func173 rfl 6 rfl fun w0 h0 => ?_
  refine RG ?_
  refine RR [] (.d (.d (.d .a))) (.i 4 (.pointer (some ⟨g, 1, none⟩)) .z) (.i (.blk g 220 [.int .u32 v, .int .i32 1, .int .u32 o2, r, o]) .z) ?_
  refine RCA (dst := some 5) (iUnlock_spec g v o2 r o) ?_
  rintro v _ ⟨rfl, rfl⟩
  refine RZ ?_
  refine NE [0] (.i (.blk g 220 [.int .u32 v, .int .i32 0, .int .u32 o2, r, o]) .z) .z [] (.tuple #[]) ?_
  exact ⟨rfl, rfl⟩
end Go.Proofs.YtpfhleghgkeemaaGreatDoor
