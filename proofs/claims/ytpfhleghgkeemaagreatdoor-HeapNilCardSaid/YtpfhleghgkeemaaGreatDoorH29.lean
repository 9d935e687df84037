import Derived.Test.YtpfhleghgkeemaaGreatDoorH26
import Derived.Test.YtpfhleghgkeemaaGreatDoorY2
namespace Go.Proofs.YtpfhleghgkeemaaGreatDoor
open Go Go.Sx
set_option linter.unusedVariables false
set_option linter.unusedSimpArgs false

theorem objectN (k n : Int) (s : List UInt8) : Does Tryz.prog 52 [.pointer none, .agg #[.int .i64 k, .int .i64 n, .string (mkS s)]] [] (fun u hp' => u = .tuple #[.pointer none, .int .i64 1] ∧ hp' = []) := by
  refine fn_enter Tryz.func52 rfl 31 rfl fun w0 h0 => ?_
  refine SQ (RG ?_)
  refine RP [] (.d .a) 3 (.k .z) .a 28 [.int .i64 k, .int .i64 n, .string (mkS s)] fun g1 => ?_
  refine RR [] .z (.i 5 (.int .i64 0) (.i 4 (.pointer none) .a)) (.i (.blk g1 28 [.int .i64 k, .int .i64 n, .string (mkS s)]) .z) ?_
  refine RZ (NT (SQ (BK (SQ (RG ?_)))))
  refine RR [] (.d .a) (.i 7 (.pointer none) .a) (.i (.blk g1 28 [.int .i64 k, .int .i64 n, .string (mkS s)]) .z) ?_
  refine RC (dst := some 8) [] (.i (.blk g1 28 [.int .i64 k, .int .i64 n, .string (mkS s)]) .z) (isNil_spec) ?_
  rintro u _ ⟨rfl, rfl⟩
  refine RR [] .z (.i 6 (.bool true) (.d (.d (.k .a)))) (.i (.blk g1 28 [.int .i64 k, .int .i64 n, .string (mkS s)]) .z) ?_
  refine RZ (NT (CT (SQ (RG ?_))))
  refine RR [] .z (.i 5 (.int .i64 1) (.d (.d (.k .a)))) (.i (.blk g1 28 [.int .i64 k, .int .i64 n, .string (mkS s)]) .z) ?_
  refine RZ (NT (RE (BR (TR ?_))))
  refine NE [] .z (.i (.blk g1 28 [.int .i64 k, .int .i64 n, .string (mkS s)]) .z) [] (.tuple #[.pointer none, .int .i64 1]) ?_
  exact ⟨rfl, rfl⟩
theorem AllocN : Does Tryz.prog 18 [.pointer none, .string (mkS []), .slice none 0 0] [] (fun u hp' => u = .tuple #[.agg #[.int .i64 0, .int .i64 0, .string (mkS [])], .int .i64 1] ∧ hp' = []) := by
  refine fn_enter Tryz.func18 rfl 40 rfl fun w0 h0 => ?_
  refine SQ (RG ?_)
  refine RP [] (.d .a) 6 .a .a 28 [.int .i64 0, .int .i64 0, .string ⟨#[]⟩] fun g1 => ?_
  refine RR [] .z (.i 7 (.int .i64 0) .a) (.i (.blk g1 28 [.int .i64 0, .int .i64 0, .string ⟨#[]⟩]) .z) ?_
  refine RZ (NT (SQ (RG ?_)))
  refine RP [] (.d (.d (.d (.d .a)))) 8 (.i 11 (.agg #[.string (mkS []), .slice none 0 0]) (.k (.k (.k .z)))) (.i (.blk g1 28 [.int .i64 0, .int .i64 0, .string ⟨#[]⟩]) .z) 43 [.string ⟨#[]⟩, .slice none 0 0] fun g2 => ?_
  refine RR [1, 1] .z (.k (.d (.k .a))) (.i (.blk g1 28 [.int .i64 0, .int .i64 0, .string ⟨#[]⟩]) (.i (.blk g2 43 [.string (mkS []), .slice none 0 0]) .z)) ?_
  refine RZ (NT (SQ (BK (SQ (RG ?_)))))
  refine RR [] (.d .a) (.i 13 (.pointer none) .a) (.i (.blk g1 28 [.int .i64 0, .int .i64 0, .string ⟨#[]⟩]) (.i (.blk g2 43 [.string (mkS []), .slice none 0 0]) .z)) ?_
  refine RC (dst := some 14) [] (.i (.blk g1 28 [.int .i64 0, .int .i64 0, .string ⟨#[]⟩]) (.i (.blk g2 43 [.string (mkS []), .slice none 0 0]) .z)) (isNil_spec) ?_
  rintro u _ ⟨rfl, rfl⟩
  refine RR [] .z (.i 12 (.bool true) (.d (.d (.k .a)))) (.i (.blk g1 28 [.int .i64 0, .int .i64 0, .string ⟨#[]⟩]) (.i (.blk g2 43 [.string (mkS []), .slice none 0 0]) .z)) ?_
  refine RZ (NT (CT (SQ (RG ?_))))
  refine RR [0, 0, 0] .z (.i 7 (.int .i64 1) (.d (.d (.d (.k .a))))) (.i (.blk g1 28 [.int .i64 0, .int .i64 0, .string ⟨#[]⟩]) (.i (.blk g2 43 [.string (mkS []), .slice none 0 0]) .z)) ?_
  refine RZ (NT (RE (BR (TR ?_))))
  refine NE [] .z (.i (.blk g1 28 [.int .i64 0, .int .i64 0, .string ⟨#[]⟩]) (.i (.blk g2 43 [.string (mkS []), .slice none 0 0]) .z)) [0, 0, 0] (.tuple #[.agg #[.int .i64 0, .int .i64 0, .string ⟨#[]⟩], .int .i64 1]) ?_
  exact ⟨rfl, rfl⟩
theorem GetN (k n : Int) (s : List UInt8) (i : Int) : Does Tryz.prog 25 [.pointer none, .agg #[.int .i64 k, .int .i64 n, .string (mkS s)], .int .i64 i] [] (fun u hp' => u = .tuple #[.agg #[.int .i64 0, .int .i64 0, .string (mkS [])], .int .i64 1] ∧ hp' = []) := by
  refine fn_enter Tryz.func25 rfl 41 rfl fun w0 h0 => ?_
  refine SQ (RG ?_)
  refine RP [] (.d .a) 4 (.k (.d (.k .a))) .a 28 [.int .i64 k, .int .i64 n, .string (mkS s)] fun g1 => ?_
  refine RP [] (.d .a) 6 .a (.i (.blk g1 28 [.int .i64 k, .int .i64 n, .string (mkS s)]) .z) 28 [.int .i64 0, .int .i64 0, .string ⟨#[]⟩] fun g2 => ?_
  refine RR [] .z (.i 7 (.int .i64 0) .a) (.i (.blk g1 28 [.int .i64 k, .int .i64 n, .string (mkS s)]) (.i (.blk g2 28 [.int .i64 0, .int .i64 0, .string ⟨#[]⟩]) .z)) ?_
  refine RZ (NT (SQ (RG ?_)))
  refine RR [0, 0, 0] (.d (.d .a)) (.i 12 (.agg #[.int .i64 k, .int .i64 n, .string (mkS s)]) (.i 11 (.pointer none) (.k (.k (.d (.d (.k .a))))))) (.i (.blk g1 28 [.int .i64 k, .int .i64 n, .string (mkS s)]) (.i (.blk g2 28 [.int .i64 0, .int .i64 0, .string ⟨#[]⟩]) .z)) ?_
  refine RC (dst := some 13) [] (.i (.blk g1 28 [.int .i64 k, .int .i64 n, .string (mkS s)]) (.i (.blk g2 28 [.int .i64 0, .int .i64 0, .string ⟨#[]⟩]) .z)) (objectN k n s) ?_
  rintro u _ ⟨rfl, rfl⟩
  refine RR [] .z (.i 9 (.int .i64 1) (.i 8 (.pointer none) (.d (.d (.d (.k .a)))))) (.i (.blk g1 28 [.int .i64 k, .int .i64 n, .string (mkS s)]) (.i (.blk g2 28 [.int .i64 0, .int .i64 0, .string ⟨#[]⟩]) .z)) ?_
  refine RZ (NT (SQ (BK (SQ (RG ?_)))))
  refine RR [] .z (.i 16 (.bool true) .a) (.i (.blk g1 28 [.int .i64 k, .int .i64 n, .string (mkS s)]) (.i (.blk g2 28 [.int .i64 0, .int .i64 0, .string ⟨#[]⟩]) .z)) ?_
  refine RZ (NT (CT (SQ (RG ?_))))
  refine RR [1, 1, 1] .z (.i 7 (.int .i64 1) (.d (.d (.k (.d (.k .a)))))) (.i (.blk g1 28 [.int .i64 k, .int .i64 n, .string (mkS s)]) (.i (.blk g2 28 [.int .i64 0, .int .i64 0, .string ⟨#[]⟩]) .z)) ?_
  refine RZ (NT (RE (BR (TR ?_))))
  refine NE [] .z (.i (.blk g1 28 [.int .i64 k, .int .i64 n, .string (mkS s)]) (.i (.blk g2 28 [.int .i64 0, .int .i64 0, .string ⟨#[]⟩]) .z)) [1, 1, 1] (.tuple #[.agg #[.int .i64 0, .int .i64 0, .string ⟨#[]⟩], .int .i64 1]) ?_
  exact ⟨rfl, rfl⟩
theorem LenN (k n : Int) (s : List UInt8) : Does Tryz.prog 34 [.pointer none, .agg #[.int .i64 k, .int .i64 n, .string (mkS s)]] [] (fun u hp' => u = .tuple #[.int .i64 0, .int .i64 1] ∧ hp' = []) := by
  refine fn_enter Tryz.func34 rfl 22 rfl fun w0 h0 => ?_
  refine SQ (RG ?_)
  refine RP [] (.d .a) 3 (.k .z) .a 28 [.int .i64 k, .int .i64 n, .string (mkS s)] fun g1 => ?_
  refine RR [] .z (.i 5 (.int .i64 0) (.i 4 (.int .i64 0) .a)) (.i (.blk g1 28 [.int .i64 k, .int .i64 n, .string (mkS s)]) .z) ?_
  refine RZ (NT (SQ (RG ?_)))
  refine RR [0, 0, 0] (.d (.d .a)) (.i 10 (.agg #[.int .i64 k, .int .i64 n, .string (mkS s)]) (.i 9 (.pointer none) (.k (.k .z)))) (.i (.blk g1 28 [.int .i64 k, .int .i64 n, .string (mkS s)]) .z) ?_
  refine RC (dst := some 11) [] (.i (.blk g1 28 [.int .i64 k, .int .i64 n, .string (mkS s)]) .z) (objectN k n s) ?_
  rintro u _ ⟨rfl, rfl⟩
  refine RR [] .z (.i 7 (.int .i64 1) (.i 6 (.pointer none) (.d (.d (.d (.k .a)))))) (.i (.blk g1 28 [.int .i64 k, .int .i64 n, .string (mkS s)]) .z) ?_
  refine RZ (NT (SQ (SQ (RG ?_))))
  refine RR [] .z (.i 15 (.bool true) .a) (.i (.blk g1 28 [.int .i64 k, .int .i64 n, .string (mkS s)]) .z) ?_
  refine RZ (NT (CT (SQ (RG ?_))))
  refine RR [] .z (.i 5 (.int .i64 1) (.i 4 (.int .i64 0) (.d (.d (.k .z))))) (.i (.blk g1 28 [.int .i64 k, .int .i64 n, .string (mkS s)]) .z) ?_
  refine RZ (NT (RE (TR ?_)))
  refine NE [] .z (.i (.blk g1 28 [.int .i64 k, .int .i64 n, .string (mkS s)]) .z) [] (.tuple #[.int .i64 0, .int .i64 1]) ?_
  exact ⟨rfl, rfl⟩
theorem TagN (k n : Int) (s : List UInt8) : Does Tryz.prog 35 [.pointer none, .agg #[.int .i64 k, .int .i64 n, .string (mkS s)]] [] (fun u hp' => u = .tuple #[.string (mkS []), .int .i64 1] ∧ hp' = []) := by
  refine fn_enter Tryz.func35 rfl 21 rfl fun w0 h0 => ?_
  refine SQ (RG ?_)
  refine RP [] (.d .a) 3 (.k .z) .a 28 [.int .i64 k, .int .i64 n, .string (mkS s)] fun g1 => ?_
  refine RR [] .z (.i 5 (.int .i64 0) (.i 4 (.string ⟨#[]⟩) .a)) (.i (.blk g1 28 [.int .i64 k, .int .i64 n, .string (mkS s)]) .z) ?_
  refine RZ (NT (SQ (RG ?_)))
  refine RR [0, 0, 0] (.d (.d .a)) (.i 10 (.agg #[.int .i64 k, .int .i64 n, .string (mkS s)]) (.i 9 (.pointer none) (.k (.k .z)))) (.i (.blk g1 28 [.int .i64 k, .int .i64 n, .string (mkS s)]) .z) ?_
  refine RC (dst := some 11) [] (.i (.blk g1 28 [.int .i64 k, .int .i64 n, .string (mkS s)]) .z) (objectN k n s) ?_
  rintro u _ ⟨rfl, rfl⟩
  refine RR [] .z (.i 7 (.int .i64 1) (.i 6 (.pointer none) (.d (.d (.d (.k .a)))))) (.i (.blk g1 28 [.int .i64 k, .int .i64 n, .string (mkS s)]) .z) ?_
  refine RZ (NT (SQ (SQ (RG ?_))))
  refine RR [] .z (.i 15 (.bool true) .a) (.i (.blk g1 28 [.int .i64 k, .int .i64 n, .string (mkS s)]) .z) ?_
  refine RZ (NT (CT (SQ (RG ?_))))
  refine RR [] .z (.i 5 (.int .i64 1) (.i 4 (.string ⟨#[]⟩) (.d (.d (.k .z))))) (.i (.blk g1 28 [.int .i64 k, .int .i64 n, .string (mkS s)]) .z) ?_
  refine RZ (NT (RE (TR ?_)))
  refine NE [] .z (.i (.blk g1 28 [.int .i64 k, .int .i64 n, .string (mkS s)]) .z) [] (.tuple #[.string ⟨#[]⟩, .int .i64 1]) ?_
  exact ⟨rfl, rfl⟩
theorem SetN (k n : Int) (s : List UInt8) (i : Int) (k2 n2 : Int) (s2 : List UInt8) : Does Tryz.prog 23 [.pointer none, .agg #[.int .i64 k, .int .i64 n, .string (mkS s)], .int .i64 i, .agg #[.int .i64 k2, .int .i64 n2, .string (mkS s2)]] [] (fun u hp' => u = .int .i64 1 ∧ hp' = []) := by
  refine fn_enter Tryz.func23 rfl 54 rfl fun w0 h0 => ?_
  refine SQ (RG ?_)
  refine RP [] (.d .a) 5 (.k (.d (.k .a))) .a 28 [.int .i64 k, .int .i64 n, .string (mkS s)] fun g1 => ?_
  refine RP [] (.d .a) 7 (.k (.k (.k .z))) (.i (.blk g1 28 [.int .i64 k, .int .i64 n, .string (mkS s)]) .z) 28 [.int .i64 k2, .int .i64 n2, .string (mkS s2)] fun g2 => ?_
  refine RR [] .z (.i 8 (.int .i64 0) .a) (.i (.blk g1 28 [.int .i64 k, .int .i64 n, .string (mkS s)]) (.i (.blk g2 28 [.int .i64 k2, .int .i64 n2, .string (mkS s2)]) .z)) ?_
  refine RZ (NT (SQ (RG ?_)))
  refine RR [0, 0, 0] (.d (.d .a)) (.i 13 (.agg #[.int .i64 k, .int .i64 n, .string (mkS s)]) (.i 12 (.pointer none) (.k (.k (.d (.k .a)))))) (.i (.blk g1 28 [.int .i64 k, .int .i64 n, .string (mkS s)]) (.i (.blk g2 28 [.int .i64 k2, .int .i64 n2, .string (mkS s2)]) .z)) ?_
  refine RC (dst := some 14) [] (.i (.blk g1 28 [.int .i64 k, .int .i64 n, .string (mkS s)]) (.i (.blk g2 28 [.int .i64 k2, .int .i64 n2, .string (mkS s2)]) .z)) (objectN k n s) ?_
  rintro u _ ⟨rfl, rfl⟩
  refine RR [] .z (.i 10 (.int .i64 1) (.i 9 (.pointer none) (.d (.d (.d (.k .a)))))) (.i (.blk g1 28 [.int .i64 k, .int .i64 n, .string (mkS s)]) (.i (.blk g2 28 [.int .i64 k2, .int .i64 n2, .string (mkS s2)]) .z)) ?_
  refine RZ (NT (SQ (BK (SQ (RG ?_)))))
  refine RR [] .z (.i 17 (.bool true) .a) (.i (.blk g1 28 [.int .i64 k, .int .i64 n, .string (mkS s)]) (.i (.blk g2 28 [.int .i64 k2, .int .i64 n2, .string (mkS s2)]) .z)) ?_
  refine RZ (NT (CT (SQ (RG ?_))))
  refine RR [] .z (.i 8 (.int .i64 1) (.d (.d (.k (.d (.k (.d (.k .a)))))))) (.i (.blk g1 28 [.int .i64 k, .int .i64 n, .string (mkS s)]) (.i (.blk g2 28 [.int .i64 k2, .int .i64 n2, .string (mkS s2)]) .z)) ?_
  refine RZ (NT (RE (BR (TR ?_))))
  refine NE [] .z (.i (.blk g1 28 [.int .i64 k, .int .i64 n, .string (mkS s)]) (.i (.blk g2 28 [.int .i64 k2, .int .i64 n2, .string (mkS s2)]) .z)) [] (.int .i64 1) ?_
  exact ⟨rfl, rfl⟩
theorem UsedN : Does Tryz.prog 20 [.pointer none] [] (fun u hp' => u = .int .i64 0 ∧ hp' = []) := by
  refine fn_enter Tryz.func20 rfl 10 rfl fun w0 h0 => ?_
  refine SQ (RG ?_)
  refine RR [] .z (.i 2 (.int .i64 0) .a) .a ?_
  refine RZ (NT (SQ (SQ (RG ?_))))
  refine RR [] (.d .a) (.i 3 (.pointer none) .a) .a ?_
  refine RCA (dst := some 4) (isNil_spec) ?_
  rintro u _ ⟨rfl, rfl⟩
  refine RR [] .z (.i 5 (.bool true) (.d (.d (.k .a)))) .a ?_
  refine RZ (NT (CT (SQ (RG ?_))))
  refine RR [] .z (.d (.k .a)) .a ?_
  refine RZ (NT (RE (TR ?_)))
  refine NE [] .a .a [] (.int .i64 0) ?_
  exact ⟨rfl, rfl⟩
theorem AllN : Does Tryz.prog 22 [.pointer none] [] (fun u hp' => u = .slice none 0 0 ∧ hp' = []) := by
  refine fn_enter Tryz.func22 rfl 29 rfl fun w0 h0 => ?_
  refine SQ (RG ?_)
  refine RR [] .z (.i 2 (.slice none 0 0) .a) .a ?_
  refine RZ (NT (SQ (SQ (RG ?_))))
  refine RR [] (.d .a) (.i 6 (.pointer none) .a) .a ?_
  refine RCA (dst := some 7) (isNil_spec) ?_
  rintro u _ ⟨rfl, rfl⟩
  refine RR [] .z (.i 8 (.bool true) (.d (.d (.k .a)))) .a ?_
  refine RZ (NT (CT (SQ (RG ?_))))
  refine RR [] .z (.d (.k .a)) .a ?_
  refine RZ (NT (RE (TR ?_)))
  refine NE [] .a .a [] (.slice none 0 0) ?_
  exact ⟨rfl, rfl⟩
theorem CopyN : Does Tryz.prog 33 [.pointer none] [] (fun u hp' => u = .pointer none ∧ hp' = []) := by
  refine fn_enter Tryz.func33 rfl 18 rfl fun w0 h0 => ?_
  refine SQ (RG ?_)
  refine RR [] .z (.i 2 (.pointer none) .a) .a ?_
  refine RZ (NT (SQ (SQ (RG ?_))))
  refine RR [] (.d .a) (.i 3 (.pointer none) .a) .a ?_
  refine RCA (dst := some 4) (isNil_spec) ?_
  rintro u _ ⟨rfl, rfl⟩
  refine RR [] .z (.i 5 (.bool true) (.d (.d (.k .a)))) .a ?_
  refine RZ (NT (CT (SQ (RG ?_))))
  refine RR [] .z (.d (.k .a)) .a ?_
  refine RZ (NT (RE (TR ?_)))
  refine NE [] .a .a [] (.pointer none) ?_
  exact ⟨rfl, rfl⟩
theorem ShowN (k n : Int) (s : List UInt8) : Does Tryz.prog 26 [.pointer none, .agg #[.int .i64 k, .int .i64 n, .string (mkS s)]] [] (fun u hp' => u = .string (mkS []) ∧ hp' = []) := by
  refine fn_enter Tryz.func26 rfl 37 rfl fun w0 h0 => ?_
  refine SQ (RG ?_)
  refine RP [] (.d .a) 3 (.k .z) .a 28 [.int .i64 k, .int .i64 n, .string (mkS s)] fun g1 => ?_
  refine RR [] .z (.i 4 (.string ⟨#[]⟩) .a) (.i (.blk g1 28 [.int .i64 k, .int .i64 n, .string (mkS s)]) .z) ?_
  refine RZ (NT (SQ (SQ ?_)))
  refine wpc_draw (by kernel_rfl) [.blk g1 28 [.int .i64 k, .int .i64 n, .string (mkS s)]] (sub_of [0] (by kernel_rfl)) 13 (by kernel_rfl) ?_
  refine TK 12 [(0, [])] (.i 7 (.pointer none) .a) (#[true, false, false, false, false, false, false, false, false, false, false, false, false]) ?_
  refine AC (dst := some 8) 11 1 (.i (.blk g1 28 [.int .i64 k, .int .i64 n, .string (mkS s)]) .z) (isNil_spec) (GI []) [0] ?_
  rintro u _ ⟨rfl, rfl⟩
  refine TK 0 [(2, []), (3, []), (4, []), (5, []), (6, []), (7, []), (8, []), (9, []), (10, []), (11, []), (12, [])] (.i 19 (.bool true) (.d (.d (.k .a)))) (#[true, true, true, true, true, true, true, true, true, true, true, true, true]) ?_
  refine wpa_done 0 (by kernel_rfl) ?_
  refine NT (CT (SQ (RG ?_)))
  refine RR [] .z (.d (.k .a)) (.i (.blk g1 28 [.int .i64 k, .int .i64 n, .string (mkS s)]) .z) ?_
  refine RZ (NT (RE (TR ?_)))
  refine NE [] .z (.i (.blk g1 28 [.int .i64 k, .int .i64 n, .string (mkS s)]) .z) [] (.string ⟨#[]⟩) ?_
  exact ⟨rfl, rfl⟩
theorem objectU (g : Nat) (k n : Int) (s : List UInt8) : Does Tryz.prog 52 [.pointer (some ⟨g, 0, none⟩), .agg #[.int .i64 k, .int .i64 n, .string (mkS s)]] [.blk g 59 [.bool false, .int .i64 0, .int .i64 0, .slice none 0 0]] (fun u hp' => u = .tuple #[.pointer none, .int .i64 1] ∧ hp' = [.blk g 59 [.bool false, .int .i64 0, .int .i64 0, .slice none 0 0]]) := by
  refine fn_enter Tryz.func52 rfl 31 rfl fun w0 h0 => ?_
  refine SQ (RG ?_)
  refine RP [] (.d .a) 3 (.k .z) (.i (.blk g 59 [.bool false, .int .i64 0, .int .i64 0, .slice none 0 0]) .z) 28 [.int .i64 k, .int .i64 n, .string (mkS s)] fun g1 => ?_
  refine RR [] .z (.i 5 (.int .i64 0) (.i 4 (.pointer none) .a)) (.i (.blk g 59 [.bool false, .int .i64 0, .int .i64 0, .slice none 0 0]) (.i (.blk g1 28 [.int .i64 k, .int .i64 n, .string (mkS s)]) .z)) ?_
  refine RZ (NT (SQ (BK (SQ (RG ?_)))))
  refine RR [] (.d .a) (.i 7 (.pointer (some ⟨g, 0, none⟩)) .a) (.i (.blk g 59 [.bool false, .int .i64 0, .int .i64 0, .slice none 0 0]) (.i (.blk g1 28 [.int .i64 k, .int .i64 n, .string (mkS s)]) .z)) ?_
  refine RC (dst := some 8) [0] (.i (.blk g1 28 [.int .i64 k, .int .i64 n, .string (mkS s)]) .z) (isNot_spec g (.int .i64 0) (.int .i64 0) (.slice none 0 0)) ?_
  rintro u _ ⟨rfl, rfl⟩
  refine RR [] .z (.i 6 (.bool true) (.d (.d (.k .a)))) (.i (.blk g 59 [.bool false, .int .i64 0, .int .i64 0, .slice none 0 0]) (.i (.blk g1 28 [.int .i64 k, .int .i64 n, .string (mkS s)]) .z)) ?_
  refine RZ (NT (CT (SQ (RG ?_))))
  refine RR [] .z (.i 5 (.int .i64 1) (.d (.d (.k .a)))) (.i (.blk g 59 [.bool false, .int .i64 0, .int .i64 0, .slice none 0 0]) (.i (.blk g1 28 [.int .i64 k, .int .i64 n, .string (mkS s)]) .z)) ?_
  refine RZ (NT (RE (BR (TR ?_))))
  refine NE [0] (.i (.blk g 59 [.bool false, .int .i64 0, .int .i64 0, .slice none 0 0]) .z) (.i (.blk g1 28 [.int .i64 k, .int .i64 n, .string (mkS s)]) .z) [] (.tuple #[.pointer none, .int .i64 1]) ?_
  exact ⟨rfl, rfl⟩
theorem AllocU (g : Nat) : Does Tryz.prog 18 [.pointer (some ⟨g, 0, none⟩), .string (mkS []), .slice none 0 0] [.blk g 59 [.bool false, .int .i64 0, .int .i64 0, .slice none 0 0]] (fun u hp' => u = .tuple #[.agg #[.int .i64 0, .int .i64 0, .string (mkS [])], .int .i64 1] ∧ hp' = [.blk g 59 [.bool false, .int .i64 0, .int .i64 0, .slice none 0 0]]) := by
  refine fn_enter Tryz.func18 rfl 40 rfl fun w0 h0 => ?_
  refine SQ (RG ?_)
  refine RP [] (.d .a) 6 .a (.i (.blk g 59 [.bool false, .int .i64 0, .int .i64 0, .slice none 0 0]) .z) 28 [.int .i64 0, .int .i64 0, .string ⟨#[]⟩] fun g1 => ?_
  refine RR [] .z (.i 7 (.int .i64 0) .a) (.i (.blk g 59 [.bool false, .int .i64 0, .int .i64 0, .slice none 0 0]) (.i (.blk g1 28 [.int .i64 0, .int .i64 0, .string ⟨#[]⟩]) .z)) ?_
  refine RZ (NT (SQ (RG ?_)))
  refine RP [] (.d (.d (.d (.d .a)))) 8 (.i 11 (.agg #[.string (mkS []), .slice none 0 0]) (.k (.k (.k .z)))) (.i (.blk g 59 [.bool false, .int .i64 0, .int .i64 0, .slice none 0 0]) (.i (.blk g1 28 [.int .i64 0, .int .i64 0, .string ⟨#[]⟩]) .z)) 43 [.string ⟨#[]⟩, .slice none 0 0] fun g2 => ?_
  refine RR [2, 2] .z (.k (.d (.k .a))) (.i (.blk g 59 [.bool false, .int .i64 0, .int .i64 0, .slice none 0 0]) (.i (.blk g1 28 [.int .i64 0, .int .i64 0, .string ⟨#[]⟩]) (.i (.blk g2 43 [.string (mkS []), .slice none 0 0]) .z))) ?_
  refine RZ (NT (SQ (BK (SQ (RG ?_)))))
  refine RR [] (.d .a) (.i 13 (.pointer (some ⟨g, 0, none⟩)) .a) (.i (.blk g 59 [.bool false, .int .i64 0, .int .i64 0, .slice none 0 0]) (.i (.blk g1 28 [.int .i64 0, .int .i64 0, .string ⟨#[]⟩]) (.i (.blk g2 43 [.string (mkS []), .slice none 0 0]) .z))) ?_
  refine RC (dst := some 14) [0] (.i (.blk g1 28 [.int .i64 0, .int .i64 0, .string ⟨#[]⟩]) (.i (.blk g2 43 [.string (mkS []), .slice none 0 0]) .z)) (isNot_spec g (.int .i64 0) (.int .i64 0) (.slice none 0 0)) ?_
  rintro u _ ⟨rfl, rfl⟩
  refine RR [] .z (.i 12 (.bool true) (.d (.d (.k .a)))) (.i (.blk g 59 [.bool false, .int .i64 0, .int .i64 0, .slice none 0 0]) (.i (.blk g1 28 [.int .i64 0, .int .i64 0, .string ⟨#[]⟩]) (.i (.blk g2 43 [.string (mkS []), .slice none 0 0]) .z))) ?_
  refine RZ (NT (CT (SQ (RG ?_))))
  refine RR [1, 1, 1] .z (.i 7 (.int .i64 1) (.d (.d (.d (.k .a))))) (.i (.blk g 59 [.bool false, .int .i64 0, .int .i64 0, .slice none 0 0]) (.i (.blk g1 28 [.int .i64 0, .int .i64 0, .string ⟨#[]⟩]) (.i (.blk g2 43 [.string (mkS []), .slice none 0 0]) .z))) ?_
  refine RZ (NT (RE (BR (TR ?_))))
  refine NE [0] (.i (.blk g 59 [.bool false, .int .i64 0, .int .i64 0, .slice none 0 0]) .z) (.i (.blk g1 28 [.int .i64 0, .int .i64 0, .string ⟨#[]⟩]) (.i (.blk g2 43 [.string (mkS []), .slice none 0 0]) .z)) [1, 1, 1] (.tuple #[.agg #[.int .i64 0, .int .i64 0, .string ⟨#[]⟩], .int .i64 1]) ?_
  exact ⟨rfl, rfl⟩
theorem GetU (g : Nat) (k n : Int) (s : List UInt8) (i : Int) : Does Tryz.prog 25 [.pointer (some ⟨g, 0, none⟩), .agg #[.int .i64 k, .int .i64 n, .string (mkS s)], .int .i64 i] [.blk g 59 [.bool false, .int .i64 0, .int .i64 0, .slice none 0 0]] (fun u hp' => u = .tuple #[.agg #[.int .i64 0, .int .i64 0, .string (mkS [])], .int .i64 1] ∧ hp' = [.blk g 59 [.bool false, .int .i64 0, .int .i64 0, .slice none 0 0]]) := by
  refine fn_enter Tryz.func25 rfl 41 rfl fun w0 h0 => ?_
  refine SQ (RG ?_)
  refine RP [] (.d .a) 4 (.k (.d (.k .a))) (.i (.blk g 59 [.bool false, .int .i64 0, .int .i64 0, .slice none 0 0]) .z) 28 [.int .i64 k, .int .i64 n, .string (mkS s)] fun g1 => ?_
  refine RP [] (.d .a) 6 .a (.i (.blk g 59 [.bool false, .int .i64 0, .int .i64 0, .slice none 0 0]) (.i (.blk g1 28 [.int .i64 k, .int .i64 n, .string (mkS s)]) .z)) 28 [.int .i64 0, .int .i64 0, .string ⟨#[]⟩] fun g2 => ?_
  refine RR [] .z (.i 7 (.int .i64 0) .a) (.i (.blk g 59 [.bool false, .int .i64 0, .int .i64 0, .slice none 0 0]) (.i (.blk g1 28 [.int .i64 k, .int .i64 n, .string (mkS s)]) (.i (.blk g2 28 [.int .i64 0, .int .i64 0, .string ⟨#[]⟩]) .z))) ?_
  refine RZ (NT (SQ (RG ?_)))
  refine RR [1, 1, 1] (.d (.d .a)) (.i 12 (.agg #[.int .i64 k, .int .i64 n, .string (mkS s)]) (.i 11 (.pointer (some ⟨g, 0, none⟩)) (.k (.k (.d (.d (.k .a))))))) (.i (.blk g 59 [.bool false, .int .i64 0, .int .i64 0, .slice none 0 0]) (.i (.blk g1 28 [.int .i64 k, .int .i64 n, .string (mkS s)]) (.i (.blk g2 28 [.int .i64 0, .int .i64 0, .string ⟨#[]⟩]) .z))) ?_
  refine RC (dst := some 13) [0] (.i (.blk g1 28 [.int .i64 k, .int .i64 n, .string (mkS s)]) (.i (.blk g2 28 [.int .i64 0, .int .i64 0, .string ⟨#[]⟩]) .z)) (objectU g k n s) ?_
  rintro u _ ⟨rfl, rfl⟩
  refine RR [] .z (.i 9 (.int .i64 1) (.i 8 (.pointer none) (.d (.d (.d (.k .a)))))) (.i (.blk g 59 [.bool false, .int .i64 0, .int .i64 0, .slice none 0 0]) (.i (.blk g1 28 [.int .i64 k, .int .i64 n, .string (mkS s)]) (.i (.blk g2 28 [.int .i64 0, .int .i64 0, .string ⟨#[]⟩]) .z))) ?_
  refine RZ (NT (SQ (BK (SQ (RG ?_)))))
  refine RR [] .z (.i 16 (.bool true) .a) (.i (.blk g 59 [.bool false, .int .i64 0, .int .i64 0, .slice none 0 0]) (.i (.blk g1 28 [.int .i64 k, .int .i64 n, .string (mkS s)]) (.i (.blk g2 28 [.int .i64 0, .int .i64 0, .string ⟨#[]⟩]) .z))) ?_
  refine RZ (NT (CT (SQ (RG ?_))))
  refine RR [2, 2, 2] .z (.i 7 (.int .i64 1) (.d (.d (.k (.d (.k .a)))))) (.i (.blk g 59 [.bool false, .int .i64 0, .int .i64 0, .slice none 0 0]) (.i (.blk g1 28 [.int .i64 k, .int .i64 n, .string (mkS s)]) (.i (.blk g2 28 [.int .i64 0, .int .i64 0, .string ⟨#[]⟩]) .z))) ?_
  refine RZ (NT (RE (BR (TR ?_))))
  refine NE [0] (.i (.blk g 59 [.bool false, .int .i64 0, .int .i64 0, .slice none 0 0]) .z) (.i (.blk g1 28 [.int .i64 k, .int .i64 n, .string (mkS s)]) (.i (.blk g2 28 [.int .i64 0, .int .i64 0, .string ⟨#[]⟩]) .z)) [2, 2, 2] (.tuple #[.agg #[.int .i64 0, .int .i64 0, .string ⟨#[]⟩], .int .i64 1]) ?_
  exact ⟨rfl, rfl⟩
theorem LenU (g : Nat) (k n : Int) (s : List UInt8) : Does Tryz.prog 34 [.pointer (some ⟨g, 0, none⟩), .agg #[.int .i64 k, .int .i64 n, .string (mkS s)]] [.blk g 59 [.bool false, .int .i64 0, .int .i64 0, .slice none 0 0]] (fun u hp' => u = .tuple #[.int .i64 0, .int .i64 1] ∧ hp' = [.blk g 59 [.bool false, .int .i64 0, .int .i64 0, .slice none 0 0]]) := by
  refine fn_enter Tryz.func34 rfl 22 rfl fun w0 h0 => ?_
  refine SQ (RG ?_)
  refine RP [] (.d .a) 3 (.k .z) (.i (.blk g 59 [.bool false, .int .i64 0, .int .i64 0, .slice none 0 0]) .z) 28 [.int .i64 k, .int .i64 n, .string (mkS s)] fun g1 => ?_
  refine RR [] .z (.i 5 (.int .i64 0) (.i 4 (.int .i64 0) .a)) (.i (.blk g 59 [.bool false, .int .i64 0, .int .i64 0, .slice none 0 0]) (.i (.blk g1 28 [.int .i64 k, .int .i64 n, .string (mkS s)]) .z)) ?_
  refine RZ (NT (SQ (RG ?_)))
  refine RR [1, 1, 1] (.d (.d .a)) (.i 10 (.agg #[.int .i64 k, .int .i64 n, .string (mkS s)]) (.i 9 (.pointer (some ⟨g, 0, none⟩)) (.k (.k .z)))) (.i (.blk g 59 [.bool false, .int .i64 0, .int .i64 0, .slice none 0 0]) (.i (.blk g1 28 [.int .i64 k, .int .i64 n, .string (mkS s)]) .z)) ?_
  refine RC (dst := some 11) [0] (.i (.blk g1 28 [.int .i64 k, .int .i64 n, .string (mkS s)]) .z) (objectU g k n s) ?_
  rintro u _ ⟨rfl, rfl⟩
  refine RR [] .z (.i 7 (.int .i64 1) (.i 6 (.pointer none) (.d (.d (.d (.k .a)))))) (.i (.blk g 59 [.bool false, .int .i64 0, .int .i64 0, .slice none 0 0]) (.i (.blk g1 28 [.int .i64 k, .int .i64 n, .string (mkS s)]) .z)) ?_
  refine RZ (NT (SQ (SQ (RG ?_))))
  refine RR [] .z (.i 15 (.bool true) .a) (.i (.blk g 59 [.bool false, .int .i64 0, .int .i64 0, .slice none 0 0]) (.i (.blk g1 28 [.int .i64 k, .int .i64 n, .string (mkS s)]) .z)) ?_
  refine RZ (NT (CT (SQ (RG ?_))))
  refine RR [] .z (.i 5 (.int .i64 1) (.i 4 (.int .i64 0) (.d (.d (.k .z))))) (.i (.blk g 59 [.bool false, .int .i64 0, .int .i64 0, .slice none 0 0]) (.i (.blk g1 28 [.int .i64 k, .int .i64 n, .string (mkS s)]) .z)) ?_
  refine RZ (NT (RE (TR ?_)))
  refine NE [0] (.i (.blk g 59 [.bool false, .int .i64 0, .int .i64 0, .slice none 0 0]) .z) (.i (.blk g1 28 [.int .i64 k, .int .i64 n, .string (mkS s)]) .z) [] (.tuple #[.int .i64 0, .int .i64 1]) ?_
  exact ⟨rfl, rfl⟩
theorem TagU (g : Nat) (k n : Int) (s : List UInt8) : Does Tryz.prog 35 [.pointer (some ⟨g, 0, none⟩), .agg #[.int .i64 k, .int .i64 n, .string (mkS s)]] [.blk g 59 [.bool false, .int .i64 0, .int .i64 0, .slice none 0 0]] (fun u hp' => u = .tuple #[.string (mkS []), .int .i64 1] ∧ hp' = [.blk g 59 [.bool false, .int .i64 0, .int .i64 0, .slice none 0 0]]) := by
  refine fn_enter Tryz.func35 rfl 21 rfl fun w0 h0 => ?_
  refine SQ (RG ?_)
  refine RP [] (.d .a) 3 (.k .z) (.i (.blk g 59 [.bool false, .int .i64 0, .int .i64 0, .slice none 0 0]) .z) 28 [.int .i64 k, .int .i64 n, .string (mkS s)] fun g1 => ?_
  refine RR [] .z (.i 5 (.int .i64 0) (.i 4 (.string ⟨#[]⟩) .a)) (.i (.blk g 59 [.bool false, .int .i64 0, .int .i64 0, .slice none 0 0]) (.i (.blk g1 28 [.int .i64 k, .int .i64 n, .string (mkS s)]) .z)) ?_
  refine RZ (NT (SQ (RG ?_)))
  refine RR [1, 1, 1] (.d (.d .a)) (.i 10 (.agg #[.int .i64 k, .int .i64 n, .string (mkS s)]) (.i 9 (.pointer (some ⟨g, 0, none⟩)) (.k (.k .z)))) (.i (.blk g 59 [.bool false, .int .i64 0, .int .i64 0, .slice none 0 0]) (.i (.blk g1 28 [.int .i64 k, .int .i64 n, .string (mkS s)]) .z)) ?_
  refine RC (dst := some 11) [0] (.i (.blk g1 28 [.int .i64 k, .int .i64 n, .string (mkS s)]) .z) (objectU g k n s) ?_
  rintro u _ ⟨rfl, rfl⟩
  refine RR [] .z (.i 7 (.int .i64 1) (.i 6 (.pointer none) (.d (.d (.d (.k .a)))))) (.i (.blk g 59 [.bool false, .int .i64 0, .int .i64 0, .slice none 0 0]) (.i (.blk g1 28 [.int .i64 k, .int .i64 n, .string (mkS s)]) .z)) ?_
  refine RZ (NT (SQ (SQ (RG ?_))))
  refine RR [] .z (.i 15 (.bool true) .a) (.i (.blk g 59 [.bool false, .int .i64 0, .int .i64 0, .slice none 0 0]) (.i (.blk g1 28 [.int .i64 k, .int .i64 n, .string (mkS s)]) .z)) ?_
  refine RZ (NT (CT (SQ (RG ?_))))
  refine RR [] .z (.i 5 (.int .i64 1) (.i 4 (.string ⟨#[]⟩) (.d (.d (.k .z))))) (.i (.blk g 59 [.bool false, .int .i64 0, .int .i64 0, .slice none 0 0]) (.i (.blk g1 28 [.int .i64 k, .int .i64 n, .string (mkS s)]) .z)) ?_
  refine RZ (NT (RE (TR ?_)))
  refine NE [0] (.i (.blk g 59 [.bool false, .int .i64 0, .int .i64 0, .slice none 0 0]) .z) (.i (.blk g1 28 [.int .i64 k, .int .i64 n, .string (mkS s)]) .z) [] (.tuple #[.string ⟨#[]⟩, .int .i64 1]) ?_
  exact ⟨rfl, rfl⟩
theorem SetU (g : Nat) (k n : Int) (s : List UInt8) (i : Int) (k2 n2 : Int) (s2 : List UInt8) : Does Tryz.prog 23 [.pointer (some ⟨g, 0, none⟩), .agg #[.int .i64 k, .int .i64 n, .string (mkS s)], .int .i64 i, .agg #[.int .i64 k2, .int .i64 n2, .string (mkS s2)]] [.blk g 59 [.bool false, .int .i64 0, .int .i64 0, .slice none 0 0]] (fun u hp' => u = .int .i64 1 ∧ hp' = [.blk g 59 [.bool false, .int .i64 0, .int .i64 0, .slice none 0 0]]) := by
  refine fn_enter Tryz.func23 rfl 54 rfl fun w0 h0 => ?_
  refine SQ (RG ?_)
  refine RP [] (.d .a) 5 (.k (.d (.k .a))) (.i (.blk g 59 [.bool false, .int .i64 0, .int .i64 0, .slice none 0 0]) .z) 28 [.int .i64 k, .int .i64 n, .string (mkS s)] fun g1 => ?_
  refine RP [] (.d .a) 7 (.k (.k (.k .z))) (.i (.blk g 59 [.bool false, .int .i64 0, .int .i64 0, .slice none 0 0]) (.i (.blk g1 28 [.int .i64 k, .int .i64 n, .string (mkS s)]) .z)) 28 [.int .i64 k2, .int .i64 n2, .string (mkS s2)] fun g2 => ?_
  refine RR [] .z (.i 8 (.int .i64 0) .a) (.i (.blk g 59 [.bool false, .int .i64 0, .int .i64 0, .slice none 0 0]) (.i (.blk g1 28 [.int .i64 k, .int .i64 n, .string (mkS s)]) (.i (.blk g2 28 [.int .i64 k2, .int .i64 n2, .string (mkS s2)]) .z))) ?_
  refine RZ (NT (SQ (RG ?_)))
  refine RR [1, 1, 1] (.d (.d .a)) (.i 13 (.agg #[.int .i64 k, .int .i64 n, .string (mkS s)]) (.i 12 (.pointer (some ⟨g, 0, none⟩)) (.k (.k (.d (.k .a)))))) (.i (.blk g 59 [.bool false, .int .i64 0, .int .i64 0, .slice none 0 0]) (.i (.blk g1 28 [.int .i64 k, .int .i64 n, .string (mkS s)]) (.i (.blk g2 28 [.int .i64 k2, .int .i64 n2, .string (mkS s2)]) .z))) ?_
  refine RC (dst := some 14) [0] (.i (.blk g1 28 [.int .i64 k, .int .i64 n, .string (mkS s)]) (.i (.blk g2 28 [.int .i64 k2, .int .i64 n2, .string (mkS s2)]) .z)) (objectU g k n s) ?_
  rintro u _ ⟨rfl, rfl⟩
  refine RR [] .z (.i 10 (.int .i64 1) (.i 9 (.pointer none) (.d (.d (.d (.k .a)))))) (.i (.blk g 59 [.bool false, .int .i64 0, .int .i64 0, .slice none 0 0]) (.i (.blk g1 28 [.int .i64 k, .int .i64 n, .string (mkS s)]) (.i (.blk g2 28 [.int .i64 k2, .int .i64 n2, .string (mkS s2)]) .z))) ?_
  refine RZ (NT (SQ (BK (SQ (RG ?_)))))
  refine RR [] .z (.i 17 (.bool true) .a) (.i (.blk g 59 [.bool false, .int .i64 0, .int .i64 0, .slice none 0 0]) (.i (.blk g1 28 [.int .i64 k, .int .i64 n, .string (mkS s)]) (.i (.blk g2 28 [.int .i64 k2, .int .i64 n2, .string (mkS s2)]) .z))) ?_
  refine RZ (NT (CT (SQ (RG ?_))))
  refine RR [] .z (.i 8 (.int .i64 1) (.d (.d (.k (.d (.k (.d (.k .a)))))))) (.i (.blk g 59 [.bool false, .int .i64 0, .int .i64 0, .slice none 0 0]) (.i (.blk g1 28 [.int .i64 k, .int .i64 n, .string (mkS s)]) (.i (.blk g2 28 [.int .i64 k2, .int .i64 n2, .string (mkS s2)]) .z))) ?_
  refine RZ (NT (RE (BR (TR ?_))))
  refine NE [0] (.i (.blk g 59 [.bool false, .int .i64 0, .int .i64 0, .slice none 0 0]) .z) (.i (.blk g1 28 [.int .i64 k, .int .i64 n, .string (mkS s)]) (.i (.blk g2 28 [.int .i64 k2, .int .i64 n2, .string (mkS s2)]) .z)) [] (.int .i64 1) ?_
  exact ⟨rfl, rfl⟩
theorem UsedU (g : Nat) : Does Tryz.prog 20 [.pointer (some ⟨g, 0, none⟩)] [.blk g 59 [.bool false, .int .i64 0, .int .i64 0, .slice none 0 0]] (fun u hp' => u = .int .i64 0 ∧ hp' = [.blk g 59 [.bool false, .int .i64 0, .int .i64 0, .slice none 0 0]]) := by
  refine fn_enter Tryz.func20 rfl 10 rfl fun w0 h0 => ?_
  refine SQ (RG ?_)
  refine RR [] .z (.i 2 (.int .i64 0) .a) (.i (.blk g 59 [.bool false, .int .i64 0, .int .i64 0, .slice none 0 0]) .z) ?_
  refine RZ (NT (SQ (SQ (RG ?_))))
  refine RR [] (.d .a) (.i 3 (.pointer (some ⟨g, 0, none⟩)) .a) (.i (.blk g 59 [.bool false, .int .i64 0, .int .i64 0, .slice none 0 0]) .z) ?_
  refine RCA (dst := some 4) (isNot_spec g (.int .i64 0) (.int .i64 0) (.slice none 0 0)) ?_
  rintro u _ ⟨rfl, rfl⟩
  refine RR [] .z (.i 5 (.bool true) (.d (.d (.k .a)))) (.i (.blk g 59 [.bool false, .int .i64 0, .int .i64 0, .slice none 0 0]) .z) ?_
  refine RZ (NT (CT (SQ (RG ?_))))
  refine RR [] .z (.d (.k .a)) (.i (.blk g 59 [.bool false, .int .i64 0, .int .i64 0, .slice none 0 0]) .z) ?_
  refine RZ (NT (RE (TR ?_)))
  refine NE [0] (.i (.blk g 59 [.bool false, .int .i64 0, .int .i64 0, .slice none 0 0]) .z) .z [] (.int .i64 0) ?_
  exact ⟨rfl, rfl⟩
theorem AllU (g : Nat) : Does Tryz.prog 22 [.pointer (some ⟨g, 0, none⟩)] [.blk g 59 [.bool false, .int .i64 0, .int .i64 0, .slice none 0 0]] (fun u hp' => u = .slice none 0 0 ∧ hp' = [.blk g 59 [.bool false, .int .i64 0, .int .i64 0, .slice none 0 0]]) := by
  refine fn_enter Tryz.func22 rfl 29 rfl fun w0 h0 => ?_
  refine SQ (RG ?_)
  refine RR [] .z (.i 2 (.slice none 0 0) .a) (.i (.blk g 59 [.bool false, .int .i64 0, .int .i64 0, .slice none 0 0]) .z) ?_
  refine RZ (NT (SQ (SQ (RG ?_))))
  refine RR [] (.d .a) (.i 6 (.pointer (some ⟨g, 0, none⟩)) .a) (.i (.blk g 59 [.bool false, .int .i64 0, .int .i64 0, .slice none 0 0]) .z) ?_
  refine RCA (dst := some 7) (isNot_spec g (.int .i64 0) (.int .i64 0) (.slice none 0 0)) ?_
  rintro u _ ⟨rfl, rfl⟩
  refine RR [] .z (.i 8 (.bool true) (.d (.d (.k .a)))) (.i (.blk g 59 [.bool false, .int .i64 0, .int .i64 0, .slice none 0 0]) .z) ?_
  refine RZ (NT (CT (SQ (RG ?_))))
  refine RR [] .z (.d (.k .a)) (.i (.blk g 59 [.bool false, .int .i64 0, .int .i64 0, .slice none 0 0]) .z) ?_
  refine RZ (NT (RE (TR ?_)))
  refine NE [0] (.i (.blk g 59 [.bool false, .int .i64 0, .int .i64 0, .slice none 0 0]) .z) .z [] (.slice none 0 0) ?_
  exact ⟨rfl, rfl⟩
theorem CopyU (g : Nat) : Does Tryz.prog 33 [.pointer (some ⟨g, 0, none⟩)] [.blk g 59 [.bool false, .int .i64 0, .int .i64 0, .slice none 0 0]] (fun u hp' => u = .pointer none ∧ hp' = [.blk g 59 [.bool false, .int .i64 0, .int .i64 0, .slice none 0 0]]) := by
  refine fn_enter Tryz.func33 rfl 18 rfl fun w0 h0 => ?_
  refine SQ (RG ?_)
  refine RR [] .z (.i 2 (.pointer none) .a) (.i (.blk g 59 [.bool false, .int .i64 0, .int .i64 0, .slice none 0 0]) .z) ?_
  refine RZ (NT (SQ (SQ (RG ?_))))
  refine RR [] (.d .a) (.i 3 (.pointer (some ⟨g, 0, none⟩)) .a) (.i (.blk g 59 [.bool false, .int .i64 0, .int .i64 0, .slice none 0 0]) .z) ?_
  refine RCA (dst := some 4) (isNot_spec g (.int .i64 0) (.int .i64 0) (.slice none 0 0)) ?_
  rintro u _ ⟨rfl, rfl⟩
  refine RR [] .z (.i 5 (.bool true) (.d (.d (.k .a)))) (.i (.blk g 59 [.bool false, .int .i64 0, .int .i64 0, .slice none 0 0]) .z) ?_
  refine RZ (NT (CT (SQ (RG ?_))))
  refine RR [] .z (.d (.k .a)) (.i (.blk g 59 [.bool false, .int .i64 0, .int .i64 0, .slice none 0 0]) .z) ?_
  refine RZ (NT (RE (TR ?_)))
  refine NE [0] (.i (.blk g 59 [.bool false, .int .i64 0, .int .i64 0, .slice none 0 0]) .z) .z [] (.pointer none) ?_
  exact ⟨rfl, rfl⟩
theorem ShowU (g : Nat) (k n : Int) (s : List UInt8) : Does Tryz.prog 26 [.pointer (some ⟨g, 0, none⟩), .agg #[.int .i64 k, .int .i64 n, .string (mkS s)]] [.blk g 59 [.bool false, .int .i64 0, .int .i64 0, .slice none 0 0]] (fun u hp' => u = .string (mkS []) ∧ hp' = [.blk g 59 [.bool false, .int .i64 0, .int .i64 0, .slice none 0 0]]) := by
  refine fn_enter Tryz.func26 rfl 37 rfl fun w0 h0 => ?_
  refine SQ (RG ?_)
  refine RP [] (.d .a) 3 (.k .z) (.i (.blk g 59 [.bool false, .int .i64 0, .int .i64 0, .slice none 0 0]) .z) 28 [.int .i64 k, .int .i64 n, .string (mkS s)] fun g1 => ?_
  refine RR [] .z (.i 4 (.string ⟨#[]⟩) .a) (.i (.blk g 59 [.bool false, .int .i64 0, .int .i64 0, .slice none 0 0]) (.i (.blk g1 28 [.int .i64 k, .int .i64 n, .string (mkS s)]) .z)) ?_
  refine RZ (NT (SQ (SQ ?_)))
  refine wpc_draw (by kernel_rfl) [.blk g1 28 [.int .i64 k, .int .i64 n, .string (mkS s)]] (sub_of [1] (by kernel_rfl)) 13 (by kernel_rfl) ?_
  refine TK 12 [(0, [])] (.i 7 (.pointer (some ⟨g, 0, none⟩)) .a) (#[true, false, false, false, false, false, false, false, false, false, false, false, false]) ?_
  refine AC (dst := some 8) 11 1 (.i (.blk g1 28 [.int .i64 k, .int .i64 n, .string (mkS s)]) .z) (isNot_spec g (.int .i64 0) (.int .i64 0) (.slice none 0 0)) (GI [0]) [0] ?_
  rintro u _ ⟨rfl, rfl⟩
  refine TK 0 [(2, []), (3, []), (4, []), (5, []), (6, []), (7, []), (8, []), (9, []), (10, []), (11, []), (12, [])] (.i 19 (.bool true) (.d (.d (.k .a)))) (#[true, true, true, true, true, true, true, true, true, true, true, true, true]) ?_
  refine wpa_done 0 (by kernel_rfl) ?_
  refine NT (CT (SQ (RG ?_)))
  refine RR [] .z (.d (.k .a)) (.i (.blk g 59 [.bool false, .int .i64 0, .int .i64 0, .slice none 0 0]) (.i (.blk g1 28 [.int .i64 k, .int .i64 n, .string (mkS s)]) .z)) ?_
  refine RZ (NT (RE (TR ?_)))
  refine NE [0] (.i (.blk g 59 [.bool false, .int .i64 0, .int .i64 0, .slice none 0 0]) .z) (.i (.blk g1 28 [.int .i64 k, .int .i64 n, .string (mkS s)]) .z) [] (.string ⟨#[]⟩) ?_
  exact ⟨rfl, rfl⟩
end Go.Proofs.YtpfhleghgkeemaaGreatDoor
