import Derived.Test.YtpfhleghgkeemaaGreatDoorH29
import Derived.Test.YtpfhleghgkeemaaGreatDoorY3
import Derived.Test.YtpfhleghgkeemaaGreatDoorY2
namespace Go.Proofs.YtpfhleghgkeemaaGreatDoor
open Go Go.Sx
set_option linter.unusedVariables false
set_option linter.unusedSimpArgs false

set_option maxHeartbeats 4000000 in
theorem HeapNilN (k n : Int) (s : List UInt8) (i : Int) : Does Tryz.prog 8 [.agg #[.int .i64 k, .int .i64 n, .string (mkS s)], .int .i64 i, .bool false] [gWords, gPow] (fun u hp' => u = .bool true ∧ hp' = []) := by
  refine fn_enter Tryz.func8 rfl 108 rfl fun w0 h0 => ?_
  refine SQ (RG ?_)
  refine RP [] (.d .a) 3 (.d (.k .a)) .a 28 [.int .i64 k, .int .i64 n, .string (mkS s)] fun g1 => ?_
  refine RR [] .z (.i 6 (.bool false) .a) (.k (.k (.i (.blk g1 28 [.int .i64 k, .int .i64 n, .string (mkS s)]) .z))) ?_
  refine RZ (NT (SQ (RG ?_)))
  refine RR [] .z (.i 7 (.pointer none) .a) (.k (.k (.i (.blk g1 28 [.int .i64 k, .int .i64 n, .string (mkS s)]) .z))) ?_
  refine RZ (NT (SQ (SQ (RG ?_))))
  refine RR [] .z (.i 16 (.bool false) (.k (.k (.k (.k .z))))) (.k (.k (.i (.blk g1 28 [.int .i64 k, .int .i64 n, .string (mkS s)]) .z))) ?_
  refine RZ (NT (CF (SK (NT (SQ (RG ?_))))))
  refine RR [] (.d .a) (.i 20 (.pointer none) (.d (.k .a))) (.k (.k (.i (.blk g1 28 [.int .i64 k, .int .i64 n, .string (mkS s)]) .z))) ?_
  refine RC (dst := some 21) [] (.k (.k (.i (.blk g1 28 [.int .i64 k, .int .i64 n, .string (mkS s)]) .z))) (AllocN) ?_
  rintro u _ ⟨rfl, rfl⟩
  refine RP [] (.d (.d (.d (.d .a)))) 8 (.i 23 (.int .i64 1) (.i 22 (.agg #[.int .i64 0, .int .i64 0, .string (mkS [])]) (.d (.d (.k .a))))) (.k (.k (.i (.blk g1 28 [.int .i64 k, .int .i64 n, .string (mkS s)]) .z))) 28 [.int .i64 0, .int .i64 0, .string ⟨#[]⟩] fun g2 => ?_
  refine RR [3, 3, 3] .z (.i 9 (.int .i64 1) (.k (.d (.d (.k .a))))) (.k (.k (.i (.blk g1 28 [.int .i64 k, .int .i64 n, .string (mkS s)]) (.i (.blk g2 28 [.int .i64 0, .int .i64 0, .string (mkS [])]) .z)))) ?_
  refine RZ (NT (SQ (RG ?_)))
  refine RR [2, 2, 2] (.d (.d (.d .a))) (.i 27 (.int .i64 i) (.i 26 (.agg #[.int .i64 k, .int .i64 n, .string (mkS s)]) (.i 25 (.pointer none) .a))) (.k (.k (.i (.blk g1 28 [.int .i64 k, .int .i64 n, .string (mkS s)]) (.i (.blk g2 28 [.int .i64 0, .int .i64 0, .string (mkS [])]) .z)))) ?_
  refine RC (dst := some 28) [] (.k (.k (.i (.blk g1 28 [.int .i64 k, .int .i64 n, .string (mkS s)]) (.i (.blk g2 28 [.int .i64 0, .int .i64 0, .string (mkS [])]) .z)))) (GetN k n s i) ?_
  rintro u _ ⟨rfl, rfl⟩
  refine RP [] (.d (.d (.d (.d .a)))) 10 (.i 30 (.int .i64 1) (.i 29 (.agg #[.int .i64 0, .int .i64 0, .string (mkS [])]) (.d (.d (.d (.d (.k .a))))))) (.k (.k (.i (.blk g1 28 [.int .i64 k, .int .i64 n, .string (mkS s)]) (.i (.blk g2 28 [.int .i64 0, .int .i64 0, .string (mkS [])]) .z)))) 28 [.int .i64 0, .int .i64 0, .string ⟨#[]⟩] fun g3 => ?_
  refine RR [4, 4, 4] .z (.i 11 (.int .i64 1) (.k (.d (.d (.k .a))))) (.k (.k (.i (.blk g1 28 [.int .i64 k, .int .i64 n, .string (mkS s)]) (.i (.blk g2 28 [.int .i64 0, .int .i64 0, .string (mkS [])]) (.i (.blk g3 28 [.int .i64 0, .int .i64 0, .string (mkS [])]) .z))))) ?_
  refine RZ (NT (SQ (RG ?_)))
  refine RR [2, 2, 2] (.d (.d .a)) (.i 33 (.agg #[.int .i64 k, .int .i64 n, .string (mkS s)]) (.i 32 (.pointer none) .a)) (.k (.k (.i (.blk g1 28 [.int .i64 k, .int .i64 n, .string (mkS s)]) (.i (.blk g2 28 [.int .i64 0, .int .i64 0, .string (mkS [])]) (.i (.blk g3 28 [.int .i64 0, .int .i64 0, .string (mkS [])]) .z))))) ?_
  refine RC (dst := some 34) [] (.k (.k (.i (.blk g1 28 [.int .i64 k, .int .i64 n, .string (mkS s)]) (.i (.blk g2 28 [.int .i64 0, .int .i64 0, .string (mkS [])]) (.i (.blk g3 28 [.int .i64 0, .int .i64 0, .string (mkS [])]) .z))))) (LenN k n s) ?_
  rintro u _ ⟨rfl, rfl⟩
  refine RR [] .z (.i 13 (.int .i64 1) (.i 12 (.int .i64 0) (.d (.d (.d (.k .a)))))) (.k (.k (.i (.blk g1 28 [.int .i64 k, .int .i64 n, .string (mkS s)]) (.i (.blk g2 28 [.int .i64 0, .int .i64 0, .string (mkS [])]) (.i (.blk g3 28 [.int .i64 0, .int .i64 0, .string (mkS [])]) .z))))) ?_
  refine RZ (NT (SQ (RG ?_)))
  refine RR [2, 2, 2] (.d (.d .a)) (.i 39 (.agg #[.int .i64 k, .int .i64 n, .string (mkS s)]) (.i 38 (.pointer none) .a)) (.k (.k (.i (.blk g1 28 [.int .i64 k, .int .i64 n, .string (mkS s)]) (.i (.blk g2 28 [.int .i64 0, .int .i64 0, .string (mkS [])]) (.i (.blk g3 28 [.int .i64 0, .int .i64 0, .string (mkS [])]) .z))))) ?_
  refine RC (dst := some 40) [] (.k (.k (.i (.blk g1 28 [.int .i64 k, .int .i64 n, .string (mkS s)]) (.i (.blk g2 28 [.int .i64 0, .int .i64 0, .string (mkS [])]) (.i (.blk g3 28 [.int .i64 0, .int .i64 0, .string (mkS [])]) .z))))) (TagN k n s) ?_
  rintro u _ ⟨rfl, rfl⟩
  refine RR [] .z (.i 15 (.int .i64 1) (.i 14 (.string (mkS [])) (.d (.d (.d (.k .a)))))) (.k (.k (.i (.blk g1 28 [.int .i64 k, .int .i64 n, .string (mkS s)]) (.i (.blk g2 28 [.int .i64 0, .int .i64 0, .string (mkS [])]) (.i (.blk g3 28 [.int .i64 0, .int .i64 0, .string (mkS [])]) .z))))) ?_
  refine RZ (NT (SQ (RG ?_)))
  refine RR [3, 3, 3, 4, 4, 4, 2, 2, 2, 2, 2, 2] (.d (.d (.d (.d (.d (.d (.d (.d (.d (.d (.d (.d (.d (.d (.d (.d (.d (.d (.d (.d (.d (.d (.d (.d (.d (.d (.d (.d (.d (.d (.d (.d (.d (.d (.d (.d (.d .a))))))))))))))))))))))))))))))))))))) (.i 79 (.agg #[.int .i64 k, .int .i64 n, .string (mkS s)]) (.i 78 (.int .i64 i) (.i 77 (.agg #[.int .i64 k, .int .i64 n, .string (mkS s)]) (.i 76 (.pointer none) (.i 75 (.bool true) (.d (.d (.d (.d (.d (.d (.d (.d (.k (.k (.k .z)))))))))))))))) (.k (.k (.i (.blk g1 28 [.int .i64 k, .int .i64 n, .string (mkS s)]) (.i (.blk g2 28 [.int .i64 0, .int .i64 0, .string (mkS [])]) (.i (.blk g3 28 [.int .i64 0, .int .i64 0, .string (mkS [])]) .z))))) ?_
  refine RC (dst := some 80) [] (.k (.k (.i (.blk g1 28 [.int .i64 k, .int .i64 n, .string (mkS s)]) (.i (.blk g2 28 [.int .i64 0, .int .i64 0, .string (mkS [])]) (.i (.blk g3 28 [.int .i64 0, .int .i64 0, .string (mkS [])]) .z))))) (SetN k n s i k n s) ?_
  rintro u _ ⟨rfl, rfl⟩
  refine RR [] (.d (.d (.d (.d .a)))) (.i 84 (.pointer none) (.i 83 (.bool true) (.d (.d (.d (.d (.d (.d (.k .a))))))))) (.k (.k (.i (.blk g1 28 [.int .i64 k, .int .i64 n, .string (mkS s)]) (.i (.blk g2 28 [.int .i64 0, .int .i64 0, .string (mkS [])]) (.i (.blk g3 28 [.int .i64 0, .int .i64 0, .string (mkS [])]) .z))))) ?_
  refine RC (dst := some 85) [] (.k (.k (.i (.blk g1 28 [.int .i64 k, .int .i64 n, .string (mkS s)]) (.i (.blk g2 28 [.int .i64 0, .int .i64 0, .string (mkS [])]) (.i (.blk g3 28 [.int .i64 0, .int .i64 0, .string (mkS [])]) .z))))) (UsedN) ?_
  rintro u _ ⟨rfl, rfl⟩
  refine RR [] (.d (.d (.d (.d .a)))) (.i 89 (.pointer none) (.i 88 (.bool true) (.d (.d (.d (.k .a)))))) (.k (.k (.i (.blk g1 28 [.int .i64 k, .int .i64 n, .string (mkS s)]) (.i (.blk g2 28 [.int .i64 0, .int .i64 0, .string (mkS [])]) (.i (.blk g3 28 [.int .i64 0, .int .i64 0, .string (mkS [])]) .z))))) ?_
  refine RC (dst := some 90) [] (.k (.k (.i (.blk g1 28 [.int .i64 k, .int .i64 n, .string (mkS s)]) (.i (.blk g2 28 [.int .i64 0, .int .i64 0, .string (mkS [])]) (.i (.blk g3 28 [.int .i64 0, .int .i64 0, .string (mkS [])]) .z))))) (AllN) ?_
  rintro u _ ⟨rfl, rfl⟩
  refine RR [] (.d (.d (.d (.d (.d .a))))) (.i 95 (.pointer none) (.i 94 (.bool true) (.d (.d (.d (.k .a)))))) (.k (.k (.i (.blk g1 28 [.int .i64 k, .int .i64 n, .string (mkS s)]) (.i (.blk g2 28 [.int .i64 0, .int .i64 0, .string (mkS [])]) (.i (.blk g3 28 [.int .i64 0, .int .i64 0, .string (mkS [])]) .z))))) ?_
  refine RC (dst := some 96) [] (.k (.k (.i (.blk g1 28 [.int .i64 k, .int .i64 n, .string (mkS s)]) (.i (.blk g2 28 [.int .i64 0, .int .i64 0, .string (mkS [])]) (.i (.blk g3 28 [.int .i64 0, .int .i64 0, .string (mkS [])]) .z))))) (CopyN) ?_
  rintro u _ ⟨rfl, rfl⟩
  refine RR [2, 2, 2] (.d (.d (.d (.d (.d .a))))) (.i 101 (.agg #[.int .i64 k, .int .i64 n, .string (mkS s)]) (.i 100 (.pointer none) (.i 99 (.bool true) (.d (.d (.d (.d (.k .z)))))))) (.k (.k (.i (.blk g1 28 [.int .i64 k, .int .i64 n, .string (mkS s)]) (.i (.blk g2 28 [.int .i64 0, .int .i64 0, .string (mkS [])]) (.i (.blk g3 28 [.int .i64 0, .int .i64 0, .string (mkS [])]) .z))))) ?_
  refine RC (dst := some 102) [] (.k (.k (.i (.blk g1 28 [.int .i64 k, .int .i64 n, .string (mkS s)]) (.i (.blk g2 28 [.int .i64 0, .int .i64 0, .string (mkS [])]) (.i (.blk g3 28 [.int .i64 0, .int .i64 0, .string (mkS [])]) .z))))) (ShowN k n s) ?_
  rintro u _ ⟨rfl, rfl⟩
  refine RR [] (.d (.d (.d .a))) (.i 105 (.bool true) (.d (.d (.d (.d (.k .a)))))) (.k (.k (.i (.blk g1 28 [.int .i64 k, .int .i64 n, .string (mkS s)]) (.i (.blk g2 28 [.int .i64 0, .int .i64 0, .string (mkS [])]) (.i (.blk g3 28 [.int .i64 0, .int .i64 0, .string (mkS [])]) .z))))) ?_
  refine RCG (dst := some 106) (.k (.k (.i (.blk g1 28 [.int .i64 k, .int .i64 n, .string (mkS s)]) (.i (.blk g2 28 [.int .i64 0, .int .i64 0, .string (mkS [])]) (.i (.blk g3 28 [.int .i64 0, .int .i64 0, .string (mkS [])]) .z))))) (lives_spec) (GV (GV (GI []) 1 view_gPow) 0 view_ro) ?_
  rintro u _ ⟨rfl, rfl⟩
  refine RR [] .z (.i 6 (.bool true) .z) (.k (.k (.i (.blk g1 28 [.int .i64 k, .int .i64 n, .string (mkS s)]) (.i (.blk g2 28 [.int .i64 0, .int .i64 0, .string (mkS [])]) (.i (.blk g3 28 [.int .i64 0, .int .i64 0, .string (mkS [])]) .z))))) ?_
  refine RZ (NT (RE ?_))
  refine NE [] .z (.k (.k (.i (.blk g1 28 [.int .i64 k, .int .i64 n, .string (mkS s)]) (.i (.blk g2 28 [.int .i64 0, .int .i64 0, .string (mkS [])]) (.i (.blk g3 28 [.int .i64 0, .int .i64 0, .string (mkS [])]) .z))))) [] (.bool true) ?_
  exact ⟨rfl, rfl⟩
set_option maxHeartbeats 4000000 in
theorem HeapNilU (k n : Int) (s : List UInt8) (i : Int) : Does Tryz.prog 8 [.agg #[.int .i64 k, .int .i64 n, .string (mkS s)], .int .i64 i, .bool true] [gWords, gPow] (fun u hp' => u = .bool true ∧ hp' = []) := by
  refine fn_enter Tryz.func8 rfl 108 rfl fun w0 h0 => ?_
  refine SQ (RG ?_)
  refine RP [] (.d .a) 3 (.d (.k .a)) .a 28 [.int .i64 k, .int .i64 n, .string (mkS s)] fun g1 => ?_
  refine RR [] .z (.i 6 (.bool false) .a) (.k (.k (.i (.blk g1 28 [.int .i64 k, .int .i64 n, .string (mkS s)]) .z))) ?_
  refine RZ (NT (SQ (RG ?_)))
  refine RR [] .z (.i 7 (.pointer none) .a) (.k (.k (.i (.blk g1 28 [.int .i64 k, .int .i64 n, .string (mkS s)]) .z))) ?_
  refine RZ (NT (SQ (SQ (RG ?_))))
  refine RR [] .z (.i 16 (.bool true) (.k (.k (.k (.k .z))))) (.k (.k (.i (.blk g1 28 [.int .i64 k, .int .i64 n, .string (mkS s)]) .z))) ?_
  refine RZ (NT (CT (RG ?_)))
  refine RP [] (.d (.d .a)) 18 (.d (.k .a)) (.k (.k (.i (.blk g1 28 [.int .i64 k, .int .i64 n, .string (mkS s)]) .z))) 59 [.bool false, .int .i64 0, .int .i64 0, .slice none 0 0] fun g2 => ?_
  refine RR [] .z (.i 7 (.pointer (some ⟨g2, 0, none⟩)) (.d (.d (.k .a)))) (.k (.k (.i (.blk g1 28 [.int .i64 k, .int .i64 n, .string (mkS s)]) (.i (.blk g2 59 [.bool false, .int .i64 0, .int .i64 0, .slice none 0 0]) .z)))) ?_
  refine RZ (NT (SQ (RG ?_)))
  refine RR [] (.d .a) (.i 20 (.pointer (some ⟨g2, 0, none⟩)) .a) (.k (.k (.i (.blk g1 28 [.int .i64 k, .int .i64 n, .string (mkS s)]) (.i (.blk g2 59 [.bool false, .int .i64 0, .int .i64 0, .slice none 0 0]) .z)))) ?_
  refine RC (dst := some 21) [3] (.k (.k (.i (.blk g1 28 [.int .i64 k, .int .i64 n, .string (mkS s)]) .z))) (AllocU g2) ?_
  rintro u _ ⟨rfl, rfl⟩
  refine RP [] (.d (.d (.d (.d .a)))) 8 (.i 23 (.int .i64 1) (.i 22 (.agg #[.int .i64 0, .int .i64 0, .string (mkS [])]) (.d (.d (.k .a))))) (.i (.blk g2 59 [.bool false, .int .i64 0, .int .i64 0, .slice none 0 0]) (.d (.k (.k (.i (.blk g1 28 [.int .i64 k, .int .i64 n, .string (mkS s)]) .z))))) 28 [.int .i64 0, .int .i64 0, .string ⟨#[]⟩] fun g3 => ?_
  refine RR [4, 4, 4] .z (.i 9 (.int .i64 1) (.k (.d (.d (.k .a))))) (.i (.blk g2 59 [.bool false, .int .i64 0, .int .i64 0, .slice none 0 0]) (.d (.k (.k (.i (.blk g1 28 [.int .i64 k, .int .i64 n, .string (mkS s)]) (.i (.blk g3 28 [.int .i64 0, .int .i64 0, .string (mkS [])]) .z)))))) ?_
  refine RZ (NT (SQ (RG ?_)))
  refine RR [3, 3, 3] (.d (.d (.d .a))) (.i 27 (.int .i64 i) (.i 26 (.agg #[.int .i64 k, .int .i64 n, .string (mkS s)]) (.i 25 (.pointer (some ⟨g2, 0, none⟩)) .a))) (.i (.blk g2 59 [.bool false, .int .i64 0, .int .i64 0, .slice none 0 0]) (.d (.k (.k (.i (.blk g1 28 [.int .i64 k, .int .i64 n, .string (mkS s)]) (.i (.blk g3 28 [.int .i64 0, .int .i64 0, .string (mkS [])]) .z)))))) ?_
  refine RC (dst := some 28) [0] (.d (.k (.k (.i (.blk g1 28 [.int .i64 k, .int .i64 n, .string (mkS s)]) (.i (.blk g3 28 [.int .i64 0, .int .i64 0, .string (mkS [])]) .z))))) (GetU g2 k n s i) ?_
  rintro u _ ⟨rfl, rfl⟩
  refine RP [] (.d (.d (.d (.d .a)))) 10 (.i 30 (.int .i64 1) (.i 29 (.agg #[.int .i64 0, .int .i64 0, .string (mkS [])]) (.d (.d (.d (.d (.k .a))))))) (.i (.blk g2 59 [.bool false, .int .i64 0, .int .i64 0, .slice none 0 0]) (.d (.k (.k (.i (.blk g1 28 [.int .i64 k, .int .i64 n, .string (mkS s)]) (.i (.blk g3 28 [.int .i64 0, .int .i64 0, .string (mkS [])]) .z)))))) 28 [.int .i64 0, .int .i64 0, .string ⟨#[]⟩] fun g4 => ?_
  refine RR [5, 5, 5] .z (.i 11 (.int .i64 1) (.k (.d (.d (.k .a))))) (.i (.blk g2 59 [.bool false, .int .i64 0, .int .i64 0, .slice none 0 0]) (.d (.k (.k (.i (.blk g1 28 [.int .i64 k, .int .i64 n, .string (mkS s)]) (.i (.blk g3 28 [.int .i64 0, .int .i64 0, .string (mkS [])]) (.i (.blk g4 28 [.int .i64 0, .int .i64 0, .string (mkS [])]) .z))))))) ?_
  refine RZ (NT (SQ (RG ?_)))
  refine RR [3, 3, 3] (.d (.d .a)) (.i 33 (.agg #[.int .i64 k, .int .i64 n, .string (mkS s)]) (.i 32 (.pointer (some ⟨g2, 0, none⟩)) .a)) (.i (.blk g2 59 [.bool false, .int .i64 0, .int .i64 0, .slice none 0 0]) (.d (.k (.k (.i (.blk g1 28 [.int .i64 k, .int .i64 n, .string (mkS s)]) (.i (.blk g3 28 [.int .i64 0, .int .i64 0, .string (mkS [])]) (.i (.blk g4 28 [.int .i64 0, .int .i64 0, .string (mkS [])]) .z))))))) ?_
  refine RC (dst := some 34) [0] (.d (.k (.k (.i (.blk g1 28 [.int .i64 k, .int .i64 n, .string (mkS s)]) (.i (.blk g3 28 [.int .i64 0, .int .i64 0, .string (mkS [])]) (.i (.blk g4 28 [.int .i64 0, .int .i64 0, .string (mkS [])]) .z)))))) (LenU g2 k n s) ?_
  rintro u _ ⟨rfl, rfl⟩
  refine RR [] .z (.i 13 (.int .i64 1) (.i 12 (.int .i64 0) (.d (.d (.d (.k .a)))))) (.i (.blk g2 59 [.bool false, .int .i64 0, .int .i64 0, .slice none 0 0]) (.d (.k (.k (.i (.blk g1 28 [.int .i64 k, .int .i64 n, .string (mkS s)]) (.i (.blk g3 28 [.int .i64 0, .int .i64 0, .string (mkS [])]) (.i (.blk g4 28 [.int .i64 0, .int .i64 0, .string (mkS [])]) .z))))))) ?_
  refine RZ (NT (SQ (RG ?_)))
  refine RR [3, 3, 3] (.d (.d .a)) (.i 39 (.agg #[.int .i64 k, .int .i64 n, .string (mkS s)]) (.i 38 (.pointer (some ⟨g2, 0, none⟩)) .a)) (.i (.blk g2 59 [.bool false, .int .i64 0, .int .i64 0, .slice none 0 0]) (.d (.k (.k (.i (.blk g1 28 [.int .i64 k, .int .i64 n, .string (mkS s)]) (.i (.blk g3 28 [.int .i64 0, .int .i64 0, .string (mkS [])]) (.i (.blk g4 28 [.int .i64 0, .int .i64 0, .string (mkS [])]) .z))))))) ?_
  refine RC (dst := some 40) [0] (.d (.k (.k (.i (.blk g1 28 [.int .i64 k, .int .i64 n, .string (mkS s)]) (.i (.blk g3 28 [.int .i64 0, .int .i64 0, .string (mkS [])]) (.i (.blk g4 28 [.int .i64 0, .int .i64 0, .string (mkS [])]) .z)))))) (TagU g2 k n s) ?_
  rintro u _ ⟨rfl, rfl⟩
  refine RR [] .z (.i 15 (.int .i64 1) (.i 14 (.string (mkS [])) (.d (.d (.d (.k .a)))))) (.i (.blk g2 59 [.bool false, .int .i64 0, .int .i64 0, .slice none 0 0]) (.d (.k (.k (.i (.blk g1 28 [.int .i64 k, .int .i64 n, .string (mkS s)]) (.i (.blk g3 28 [.int .i64 0, .int .i64 0, .string (mkS [])]) (.i (.blk g4 28 [.int .i64 0, .int .i64 0, .string (mkS [])]) .z))))))) ?_
  refine RZ (NT (SQ (RG ?_)))
  refine RR [4, 4, 4, 5, 5, 5, 3, 3, 3, 3, 3, 3] (.d (.d (.d (.d (.d (.d (.d (.d (.d (.d (.d (.d (.d (.d (.d (.d (.d (.d (.d (.d (.d (.d (.d (.d (.d (.d (.d (.d (.d (.d (.d (.d (.d (.d (.d (.d (.d .a))))))))))))))))))))))))))))))))))))) (.i 79 (.agg #[.int .i64 k, .int .i64 n, .string (mkS s)]) (.i 78 (.int .i64 i) (.i 77 (.agg #[.int .i64 k, .int .i64 n, .string (mkS s)]) (.i 76 (.pointer (some ⟨g2, 0, none⟩)) (.i 75 (.bool true) (.d (.d (.d (.d (.d (.d (.d (.d (.k (.k (.k .z)))))))))))))))) (.i (.blk g2 59 [.bool false, .int .i64 0, .int .i64 0, .slice none 0 0]) (.d (.k (.k (.i (.blk g1 28 [.int .i64 k, .int .i64 n, .string (mkS s)]) (.i (.blk g3 28 [.int .i64 0, .int .i64 0, .string (mkS [])]) (.i (.blk g4 28 [.int .i64 0, .int .i64 0, .string (mkS [])]) .z))))))) ?_
  refine RC (dst := some 80) [0] (.d (.k (.k (.i (.blk g1 28 [.int .i64 k, .int .i64 n, .string (mkS s)]) (.i (.blk g3 28 [.int .i64 0, .int .i64 0, .string (mkS [])]) (.i (.blk g4 28 [.int .i64 0, .int .i64 0, .string (mkS [])]) .z)))))) (SetU g2 k n s i k n s) ?_
  rintro u _ ⟨rfl, rfl⟩
  refine RR [] (.d (.d (.d (.d .a)))) (.i 84 (.pointer (some ⟨g2, 0, none⟩)) (.i 83 (.bool true) (.d (.d (.d (.d (.d (.d (.k .a))))))))) (.i (.blk g2 59 [.bool false, .int .i64 0, .int .i64 0, .slice none 0 0]) (.d (.k (.k (.i (.blk g1 28 [.int .i64 k, .int .i64 n, .string (mkS s)]) (.i (.blk g3 28 [.int .i64 0, .int .i64 0, .string (mkS [])]) (.i (.blk g4 28 [.int .i64 0, .int .i64 0, .string (mkS [])]) .z))))))) ?_
  refine RC (dst := some 85) [0] (.d (.k (.k (.i (.blk g1 28 [.int .i64 k, .int .i64 n, .string (mkS s)]) (.i (.blk g3 28 [.int .i64 0, .int .i64 0, .string (mkS [])]) (.i (.blk g4 28 [.int .i64 0, .int .i64 0, .string (mkS [])]) .z)))))) (UsedU g2) ?_
  rintro u _ ⟨rfl, rfl⟩
  refine RR [] (.d (.d (.d (.d .a)))) (.i 89 (.pointer (some ⟨g2, 0, none⟩)) (.i 88 (.bool true) (.d (.d (.d (.k .a)))))) (.i (.blk g2 59 [.bool false, .int .i64 0, .int .i64 0, .slice none 0 0]) (.d (.k (.k (.i (.blk g1 28 [.int .i64 k, .int .i64 n, .string (mkS s)]) (.i (.blk g3 28 [.int .i64 0, .int .i64 0, .string (mkS [])]) (.i (.blk g4 28 [.int .i64 0, .int .i64 0, .string (mkS [])]) .z))))))) ?_
  refine RC (dst := some 90) [0] (.d (.k (.k (.i (.blk g1 28 [.int .i64 k, .int .i64 n, .string (mkS s)]) (.i (.blk g3 28 [.int .i64 0, .int .i64 0, .string (mkS [])]) (.i (.blk g4 28 [.int .i64 0, .int .i64 0, .string (mkS [])]) .z)))))) (AllU g2) ?_
  rintro u _ ⟨rfl, rfl⟩
  refine RR [] (.d (.d (.d (.d (.d .a))))) (.i 95 (.pointer (some ⟨g2, 0, none⟩)) (.i 94 (.bool true) (.d (.d (.d (.k .a)))))) (.i (.blk g2 59 [.bool false, .int .i64 0, .int .i64 0, .slice none 0 0]) (.d (.k (.k (.i (.blk g1 28 [.int .i64 k, .int .i64 n, .string (mkS s)]) (.i (.blk g3 28 [.int .i64 0, .int .i64 0, .string (mkS [])]) (.i (.blk g4 28 [.int .i64 0, .int .i64 0, .string (mkS [])]) .z))))))) ?_
  refine RC (dst := some 96) [0] (.d (.k (.k (.i (.blk g1 28 [.int .i64 k, .int .i64 n, .string (mkS s)]) (.i (.blk g3 28 [.int .i64 0, .int .i64 0, .string (mkS [])]) (.i (.blk g4 28 [.int .i64 0, .int .i64 0, .string (mkS [])]) .z)))))) (CopyU g2) ?_
  rintro u _ ⟨rfl, rfl⟩
  refine RR [3, 3, 3] (.d (.d (.d (.d (.d .a))))) (.i 101 (.agg #[.int .i64 k, .int .i64 n, .string (mkS s)]) (.i 100 (.pointer (some ⟨g2, 0, none⟩)) (.i 99 (.bool true) (.d (.d (.d (.d (.k .z)))))))) (.i (.blk g2 59 [.bool false, .int .i64 0, .int .i64 0, .slice none 0 0]) (.d (.k (.k (.i (.blk g1 28 [.int .i64 k, .int .i64 n, .string (mkS s)]) (.i (.blk g3 28 [.int .i64 0, .int .i64 0, .string (mkS [])]) (.i (.blk g4 28 [.int .i64 0, .int .i64 0, .string (mkS [])]) .z))))))) ?_
  refine RC (dst := some 102) [0] (.d (.k (.k (.i (.blk g1 28 [.int .i64 k, .int .i64 n, .string (mkS s)]) (.i (.blk g3 28 [.int .i64 0, .int .i64 0, .string (mkS [])]) (.i (.blk g4 28 [.int .i64 0, .int .i64 0, .string (mkS [])]) .z)))))) (ShowU g2 k n s) ?_
  rintro u _ ⟨rfl, rfl⟩
  refine RR [] (.d (.d (.d .a))) (.i 105 (.bool true) (.d (.d (.d (.d (.k .a)))))) (.i (.blk g2 59 [.bool false, .int .i64 0, .int .i64 0, .slice none 0 0]) (.d (.k (.k (.i (.blk g1 28 [.int .i64 k, .int .i64 n, .string (mkS s)]) (.i (.blk g3 28 [.int .i64 0, .int .i64 0, .string (mkS [])]) (.i (.blk g4 28 [.int .i64 0, .int .i64 0, .string (mkS [])]) .z))))))) ?_
  refine RCG (dst := some 106) (.i (.blk g2 59 [.bool false, .int .i64 0, .int .i64 0, .slice none 0 0]) (.d (.k (.k (.i (.blk g1 28 [.int .i64 k, .int .i64 n, .string (mkS s)]) (.i (.blk g3 28 [.int .i64 0, .int .i64 0, .string (mkS [])]) (.i (.blk g4 28 [.int .i64 0, .int .i64 0, .string (mkS [])]) .z))))))) (lives_spec) (GV (GV (GI []) 2 view_gPow) 1 view_ro) ?_
  rintro u _ ⟨rfl, rfl⟩
  refine RR [] .z (.i 6 (.bool true) .z) (.i (.blk g2 59 [.bool false, .int .i64 0, .int .i64 0, .slice none 0 0]) (.d (.k (.k (.i (.blk g1 28 [.int .i64 k, .int .i64 n, .string (mkS s)]) (.i (.blk g3 28 [.int .i64 0, .int .i64 0, .string (mkS [])]) (.i (.blk g4 28 [.int .i64 0, .int .i64 0, .string (mkS [])]) .z))))))) ?_
  refine RZ (NT (RE ?_))
  refine NE [] .z (.i (.blk g2 59 [.bool false, .int .i64 0, .int .i64 0, .slice none 0 0]) (.d (.k (.k (.i (.blk g1 28 [.int .i64 k, .int .i64 n, .string (mkS s)]) (.i (.blk g3 28 [.int .i64 0, .int .i64 0, .string (mkS [])]) (.i (.blk g4 28 [.int .i64 0, .int .i64 0, .string (mkS [])]) .z))))))) [] (.bool true) ?_
  exact ⟨rfl, rfl⟩
theorem HeapNil_spec (k n : Int) (s : List UInt8) (i : Int) (b : Bool) : Does Tryz.prog 8 [.agg #[.int .i64 k, .int .i64 n, .string (mkS s)], .int .i64 i, .bool b] [gWords, gPow] (fun u hp' => u = .bool true ∧ hp' = []) := by
  cases b
  · exact HeapNilN k n s i
  · exact HeapNilU k n s i
end Go.Proofs.YtpfhleghgkeemaaGreatDoor
