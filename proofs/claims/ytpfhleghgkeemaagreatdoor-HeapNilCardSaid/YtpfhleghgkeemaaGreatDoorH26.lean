import Derived.Test.YtpfhleghgkeemaaGreatDoorH25
import Derived.Test.YtpfhleghgkeemaaGreatDoorY2
namespace Go.Proofs.YtpfhleghgkeemaaGreatDoor
open Go Go.Sx
set_option linter.unusedVariables false
set_option linter.unusedSimpArgs false

def numV (n : Int) : V := ⟨1, n, []⟩
theorem number_spec (n : Int) : Does Tryz.prog 17 [.int .i64 n] [] (fun v hp' => v = .agg #[.int .i64 1, .int .i64 n, .string (mkS [])] ∧ hp' = []) := by
  refine fn_enter Tryz.func17 rfl 5 rfl fun w0 h0 => ?_
  refine SQ (RG ?_)
  refine RP [] .z 2 .a .a 28 [.int .i64 0, .int .i64 0, .string ⟨#[]⟩] fun g1 => ?_
  refine RZ (NT (SQ (RG ?_)))
  refine RR [0, 0, 0] .z (.k .z) (.i (.blk g1 28 [.int .i64 1, .int .i64 n, .string ⟨#[]⟩]) .z) ?_
  refine RZ (NT (RE ?_))
  refine NE [] .z (.i (.blk g1 28 [.int .i64 1, .int .i64 n, .string ⟨#[]⟩]) .z) [0, 0, 0] (.agg #[.int .i64 1, .int .i64 n, .string ⟨#[]⟩]) ?_
  exact ⟨rfl, rfl⟩
theorem at_spec (n : Int) : Does Tryz.prog 19 [.int .i64 n] [] (fun v hp' => v = .agg #[.int .i64 4, .int .i64 n, .string (mkS [])] ∧ hp' = []) := by
  refine fn_enter Tryz.func19 rfl 5 rfl fun w0 h0 => ?_
  refine SQ (RG ?_)
  refine RP [] .z 2 .a .a 28 [.int .i64 0, .int .i64 0, .string ⟨#[]⟩] fun g1 => ?_
  refine RZ (NT (SQ (RG ?_)))
  refine RR [0, 0, 0] .z (.k .z) (.i (.blk g1 28 [.int .i64 4, .int .i64 n, .string ⟨#[]⟩]) .z) ?_
  refine RZ (NT (RE ?_))
  refine NE [] .z (.i (.blk g1 28 [.int .i64 4, .int .i64 n, .string ⟨#[]⟩]) .z) [0, 0, 0] (.agg #[.int .i64 4, .int .i64 n, .string ⟨#[]⟩]) ?_
  exact ⟨rfl, rfl⟩
def L1 : List O := [([], [numV 1, numV 2])]
def L2 : List O := [([], [numV 1, numV 2]), ([80], [atV 0, ⟨2, 1, []⟩])]
def L3 : List O := [([], [numV 1, atV 1]), ([80], [atV 0, ⟨2, 1, []⟩])]
theorem al1 : allocR 9 [] [] [numV 1, numV 2] = (L1, atV 0, 0) := by decide
theorem al2 : allocR 9 L1 [80] [atV 0, ⟨2, 1, []⟩] = (L2, atV 1, 0) := by decide
theorem st3 : setR L2 (atV 0) 1 (atV 1) = (L3, 0) := by decide
theorem gt3 : getR L3 (atV 0) 2 = (noV, 10) := by decide
theorem u0 : usedO [] = 0 := rfl
theorem u1 : usedO L1 = 3 := rfl
theorem u2 : usedO L2 = 6 := rfl
theorem u3 : usedO L3 = 6 := rfl
theorem it1 : Lib.itoa 1 = [49] := by unfold Lib.itoa; rw [if_neg (by decide)]; simp [Lib.decDigits]
theorem it2 : Lib.itoa 2 = [50] := by unfold Lib.itoa; rw [if_neg (by decide)]; simp [Lib.decDigits]
theorem sh2 : showT L2 (atV 1) = [80, 40, 91, 49, 44, 32, 50, 93, 44, 32, 116, 114, 117, 101, 41] := by
  simp [showT, cutT, L2, txt, objT, cellsT, sepP, atV, numV, objAt, rightB, it1, it2, List.range_succ]
theorem sh3 : showT L3 (atV 1) = [80, 40, 91, 49, 44, 32, 46, 46, 46, 93, 44, 32, 116, 114, 117, 101, 41] := by
  simp [showT, cutT, L3, txt, objT, cellsT, sepP, atV, numV, objAt, rightB, it1, it2, List.range_succ]
theorem ok2 : okHeap L2 := by
  intro o ho
  simp only [L2, List.mem_cons, List.not_mem_nil, or_false] at ho
  rcases ho with rfl | rfl <;> refine ⟨by decide, by decide, fun v hv => ?_⟩ <;> simp only [List.mem_cons, List.not_mem_nil, or_false] at hv <;> rcases hv with rfl | rfl <;> exact ⟨by unfold V.sm; decide, by unfold V.i64; decide, by decide⟩
theorem ok3 : okHeap L3 := by
  intro o ho
  simp only [L3, List.mem_cons, List.not_mem_nil, or_false] at ho
  rcases ho with rfl | rfl <;> refine ⟨by decide, by decide, fun v hv => ?_⟩ <;> simp only [List.mem_cons, List.not_mem_nil, or_false] at hv <;> rcases hv with rfl | rfl <;> exact ⟨by unfold V.sm; decide, by unfold V.i64; decide, by decide⟩
set_option maxHeartbeats 4000000 in
theorem lives_spec : Does Tryz.prog 15 [] [gWords, gPow] (fun v hp' => v = .bool true ∧ hp' = []) := by
  refine fn_enter Tryz.func15 rfl 87 rfl fun w0 h0 => ?_
  refine SQ (RG ?_)
  refine RR [] .z (.i 0 (.bool false) .a) .a ?_
  refine RZ (NT (SQ (RG ?_)))
  refine RC (dst := some 11) [] .a (New_spec 9) ?_
  rintro v _ ⟨g, rfl, rfl⟩
  rw [show mostI 9 = 9 from rfl]
  refine RR [] .z (.i 1 (.pointer (some ⟨g, 0, none⟩)) (.d (.k .a))) (.i (.blk g 59 [.bool true, .int .i64 9, .int .i64 0, .slice none 0 0]) (.d (.k .a))) ?_
  refine RZ (NT (SQ (SQ (RG ?_))))
  refine RR [] .z (.i 13 (.bool false) .a) (.i (.blk g 59 [.bool true, .int .i64 9, .int .i64 0, .slice none 0 0]) (.d (.k .a))) ?_
  refine RZ (NT (CF (SK (NT (SQ (RG ?_))))))
  refine RR [] (.d .a) (.i 15 (.pointer (some ⟨g, 0, none⟩)) (.d (.k .a))) (.i (.blk g 59 [.bool true, .int .i64 9, .int .i64 0, .slice none 0 0]) (.d (.k .a))) ?_
  refine RC (dst := some 16) [] (.i (.blk g 59 [.bool true, .int .i64 9, .int .i64 0, .slice none 0 0]) (.d (.k .a))) (number_spec 1) ?_
  rintro v _ ⟨rfl, rfl⟩
  refine RC (dst := some 17) [] (.i (.blk g 59 [.bool true, .int .i64 9, .int .i64 0, .slice none 0 0]) (.d (.k .a))) (number_spec 2) ?_
  rintro v _ ⟨rfl, rfl⟩
  refine RN [] (.d .a) 18 (fun g1 => (.slice (some ⟨g1, 0, none⟩) 2 2)) (.d (.d (.k .a))) (.i (.blk g 59 [.bool true, .int .i64 9, .int .i64 0, .slice none 0 0]) (.d (.k .a))) 28 [.int .i64 1, .int .i64 1, .string (mkS []), .int .i64 1, .int .i64 2, .string (mkS [])] fun g1 => ?_
  refine wpr_ent (Ent.trans ent_star_nil (ent_nil 43 2)) ?_
  refine wpr_ent (ent_turn (c := .blk g1 28 ([numV 1, numV 2].flatMap valC)) 5 (ro (some ⟨g1, 0, none⟩) ([numV 1, numV 2].flatMap valC)) rfl (turn_rblk (vals_one _)) rfl) ?_
  have h1 := Alloc_o g 9 none 0 [] [] rfl [] [numV 1, numV 2] (some ⟨g1, 0, none⟩) 2 (by decide) (by decide) (fun e => by cases e) (by decide) (by decide) (by decide) (by intro v hv; simp only [List.mem_cons, List.not_mem_nil, or_false] at hv; rcases hv with rfl | rfl <;> (unfold V.sm; decide))
  rw [al1] at h1
  unfold heapB heapR heapS valV at h1
  dsimp only [atV] at h1
  refine RCG (dst := some 19) (.d (.d (.d (.k .a)))) (h1) (GO (GV (GV (GJ [2, 0, 0]) 0 view_ro) 2 view_ro) [2, 2, 2, 0, 0]) ?_
  rintro v _ ⟨a1, c1, l1, hm1, rfl, rfl⟩
  refine RP [] (.d (.d (.d (.d .a)))) 2 (.i 21 (.int .i64 0) (.i 20 (.agg #[.int .i64 4, .int .i64 0, .string (mkS [])]) (.d (.d (.d (.k .a)))))) (.i (.blk g 59 [.bool true, .int .i64 9, .int .i64 3, .slice a1 l1.length c1]) (.d (.k .a))) 28 [.int .i64 0, .int .i64 0, .string ⟨#[]⟩] fun g2 => ?_
  refine RR [6, 6, 6] .z (.i 3 (.int .i64 0) (.k (.d (.d (.k .a))))) (.i (.blk g 59 [.bool true, .int .i64 9, .int .i64 3, .slice a1 l1.length c1]) (.d (.k (.k (.k (.k (.k (.i (.blk g2 28 [.int .i64 4, .int .i64 0, .string (mkS [])]) .z)))))))) ?_
  refine RZ (NT (SQ (RG ?_)))
  refine RN [6, 6, 6] (.d (.d (.d (.d .a)))) 26 (fun g3 => (.slice (some ⟨g3, 0, none⟩) 2 2)) (.i 23 (.pointer (some ⟨g, 0, none⟩)) .a) (.i (.blk g 59 [.bool true, .int .i64 9, .int .i64 3, .slice a1 l1.length c1]) (.d (.k (.k (.k (.k (.k (.i (.blk g2 28 [.int .i64 4, .int .i64 0, .string (mkS [])]) .z)))))))) 28 [.int .i64 4, .int .i64 0, .string (mkS []), .int .i64 2, .int .i64 1, .string ⟨#[]⟩] fun g3 => ?_
  refine wpr_ent (ent_turn (c := .blk g3 28 ([atV 0, V.mk 2 1 []].flatMap valC)) 7 (ro (some ⟨g3, 0, none⟩) ([atV 0, V.mk 2 1 []].flatMap valC)) rfl (turn_rblk (vals_one _)) rfl) ?_
  have h2 := Alloc_o g 9 a1 c1 l1 L1 hm1 [80] [atV 0, V.mk 2 1 []] (some ⟨g3, 0, none⟩) 2 (by decide) (by decide) (fun e => by cases e) (by decide) (by decide) (by decide) (by intro v hv; simp only [List.mem_cons, List.not_mem_nil, or_false] at hv; rcases hv with rfl | rfl <;> (unfold V.sm; decide))
  rw [al2] at h2
  unfold heapB heapR heapS valV at h2
  dsimp only [atV] at h2
  refine RCG (dst := some 27) (.d (.d (.d (.k (.k (.k (.i (.blk g2 28 [.int .i64 4, .int .i64 0, .string (mkS [])]) (.d (.k .a))))))))) (h2) (GO (GV (GV (GJ [0, 0, 0]) 0 view_ro) 4 view_ro) [2, 2, 2, 0, 0]) ?_
  rintro v _ ⟨a2, c2, l2, hm2, rfl, rfl⟩
  refine RP [] (.d (.d (.d (.d .a)))) 4 (.i 29 (.int .i64 0) (.i 28 (.agg #[.int .i64 4, .int .i64 1, .string (mkS [])]) (.d (.d (.d (.k .a)))))) (.i (.blk g 59 [.bool true, .int .i64 9, .int .i64 6, .slice a2 l2.length c2]) (.d (.k (.k (.k (.k (.k (.i (.blk g2 28 [.int .i64 4, .int .i64 0, .string (mkS [])]) (.d (.k .a)))))))))) 28 [.int .i64 0, .int .i64 0, .string ⟨#[]⟩] fun g4 => ?_
  refine RR [8, 8, 8] .z (.i 5 (.int .i64 0) (.k (.d (.d (.k .a))))) (.i (.blk g 59 [.bool true, .int .i64 9, .int .i64 6, .slice a2 l2.length c2]) (.d (.k (.k (.k (.k (.k (.i (.blk g2 28 [.int .i64 4, .int .i64 0, .string (mkS [])]) (.d (.k (.i (.blk g4 28 [.int .i64 4, .int .i64 1, .string (mkS [])]) .z))))))))))) ?_
  refine RZ (NT (SQ (RG ?_)))
  refine RR [8, 8, 8] (.d (.d .a)) (.i 31 (.agg #[.int .i64 4, .int .i64 1, .string (mkS [])]) (.i 30 (.pointer (some ⟨g, 0, none⟩)) .a)) (.i (.blk g 59 [.bool true, .int .i64 9, .int .i64 6, .slice a2 l2.length c2]) (.d (.k (.k (.k (.k (.k (.i (.blk g2 28 [.int .i64 4, .int .i64 0, .string (mkS [])]) (.d (.k (.i (.blk g4 28 [.int .i64 4, .int .i64 1, .string (mkS [])]) .z))))))))))) ?_
  have h3 := Show_o g 9 a2 c2 l2 L2 hm2 (by decide) ok2 (atV 1) (by unfold V.sm; decide) (by unfold V.i64; decide)
  rw [sh2] at h3
  unfold valV at h3
  dsimp only [atV] at h3
  refine RCG (dst := some 32) (.i (.blk g 59 [.bool true, .int .i64 9, .int .i64 6, .slice a2 l2.length c2]) (.d (.k (.k (.k (.k (.k (.i (.blk g2 28 [.int .i64 4, .int .i64 0, .string (mkS [])]) (.d (.k (.i (.blk g4 28 [.int .i64 4, .int .i64 1, .string (mkS [])]) .z))))))))))) (h3) (GV (GV (GV (GV (GI []) 4 view_gPow) 2 view_gBag) 1 view_row) 0 (view_blk0 (by simp [Go.Sx.One, Value.oneCell']))) ?_
  rintro v _ ⟨rfl, rfl⟩
  refine RR [] (.d .a) (.i 33 (.pointer (some ⟨g, 0, none⟩)) (.k (.d (.d (.k .a))))) (.i (.blk g 59 [.bool true, .int .i64 9, .int .i64 6, .slice a2 l2.length c2]) (.d (.k (.k (.k (.k (.k (.i (.blk g2 28 [.int .i64 4, .int .i64 0, .string (mkS [])]) (.d (.k (.i (.blk g4 28 [.int .i64 4, .int .i64 1, .string (mkS [])]) .z))))))))))) ?_
  refine RC (dst := some 34) [0] (.d (.k (.k (.k (.k (.k (.i (.blk g2 28 [.int .i64 4, .int .i64 0, .string (mkS [])]) (.d (.k (.i (.blk g4 28 [.int .i64 4, .int .i64 1, .string (mkS [])]) .z)))))))))) (Used_spec g 9 6 (.slice a2 l2.length c2)) ?_
  rintro v _ ⟨rfl, rfl⟩
  refine RR [] .z (.i 7 (.int .i64 6) (.i 6 (.string (mkS [80, 40, 91, 49, 44, 32, 50, 93, 44, 32, 116, 114, 117, 101, 41])) (.d (.d (.d (.k .a)))))) (.i (.blk g 59 [.bool true, .int .i64 9, .int .i64 6, .slice a2 l2.length c2]) (.d (.k (.k (.k (.k (.k (.i (.blk g2 28 [.int .i64 4, .int .i64 0, .string (mkS [])]) (.d (.k (.i (.blk g4 28 [.int .i64 4, .int .i64 1, .string (mkS [])]) .z))))))))))) ?_
  refine RZ (NT (SQ (RG ?_)))
  refine RR [6, 6, 6, 8, 8, 8] (.d (.d (.d .a))) (.i 37 (.agg #[.int .i64 4, .int .i64 1, .string (mkS [])]) (.i 36 (.agg #[.int .i64 4, .int .i64 0, .string (mkS [])]) (.i 35 (.pointer (some ⟨g, 0, none⟩)) .a))) (.i (.blk g 59 [.bool true, .int .i64 9, .int .i64 6, .slice a2 l2.length c2]) (.d (.k (.k (.k (.k (.k (.i (.blk g2 28 [.int .i64 4, .int .i64 0, .string (mkS [])]) (.d (.k (.i (.blk g4 28 [.int .i64 4, .int .i64 1, .string (mkS [])]) .z))))))))))) ?_
  have h4 := Set_o g 9 a2 c2 l2 L2 hm2 (atV 0) 1 (atV 1) (by decide) (by unfold V.sm; decide) (by unfold V.sm; decide)
  rw [st3] at h4
  unfold heapB heapR heapS valV at h4
  dsimp only [atV] at h4
  refine RC (dst := some 38) [0, 0, 0] (.d (.d (.d (.k (.k (.k (.i (.blk g2 28 [.int .i64 4, .int .i64 0, .string (mkS [])]) (.d (.k (.i (.blk g4 28 [.int .i64 4, .int .i64 1, .string (mkS [])]) .z)))))))))) (h4) ?_
  rintro v _ ⟨rfl, a3, c3, l3, hm3, rfl⟩
  refine RR [] .z (.i 8 (.int .i64 0) (.d (.d (.d (.d (.k .a)))))) (.i (.blk g 59 [.bool true, .int .i64 9, .int .i64 6, .slice a3 l3.length c3]) (.d (.k (.k (.k (.k (.k (.i (.blk g2 28 [.int .i64 4, .int .i64 0, .string (mkS [])]) (.d (.k (.i (.blk g4 28 [.int .i64 4, .int .i64 1, .string (mkS [])]) .z))))))))))) ?_
  refine RZ (NT (SQ (RG ?_)))
  refine RR [6, 6, 6] (.d (.d .a)) (.i 41 (.agg #[.int .i64 4, .int .i64 0, .string (mkS [])]) (.i 40 (.pointer (some ⟨g, 0, none⟩)) .a)) (.i (.blk g 59 [.bool true, .int .i64 9, .int .i64 6, .slice a3 l3.length c3]) (.d (.k (.k (.k (.k (.k (.i (.blk g2 28 [.int .i64 4, .int .i64 0, .string (mkS [])]) (.d (.k (.i (.blk g4 28 [.int .i64 4, .int .i64 1, .string (mkS [])]) .z))))))))))) ?_
  have h5 := Get_o g 9 a3 c3 l3 L3 hm3 (atV 0) 2 (by decide) (by unfold V.sm; decide)
  rw [gt3] at h5
  unfold heapB heapR heapS valV at h5
  dsimp only [atV, noV] at h5
  refine RC (dst := some 42) [0, 0, 0] (.d (.d (.d (.k (.k (.k (.i (.blk g2 28 [.int .i64 4, .int .i64 0, .string (mkS [])]) (.d (.k (.i (.blk g4 28 [.int .i64 4, .int .i64 1, .string (mkS [])]) .z)))))))))) (h5) ?_
  rintro v _ ⟨rfl, rfl⟩
  refine RP [] (.d (.d (.d (.d .a)))) 9 (.i 44 (.int .i64 10) (.i 43 (.agg #[.int .i64 0, .int .i64 0, .string (mkS [])]) (.d (.d (.d (.k .a)))))) (.i (.blk g 59 [.bool true, .int .i64 9, .int .i64 6, .slice a3 l3.length c3]) (.d (.k (.k (.k (.k (.k (.i (.blk g2 28 [.int .i64 4, .int .i64 0, .string (mkS [])]) (.d (.k (.i (.blk g4 28 [.int .i64 4, .int .i64 1, .string (mkS [])]) .z))))))))))) 28 [.int .i64 0, .int .i64 0, .string ⟨#[]⟩] fun g5 => ?_
  refine RR [9, 9, 9] .z (.i 10 (.int .i64 10) (.d (.d (.d (.k .a))))) (.i (.blk g 59 [.bool true, .int .i64 9, .int .i64 6, .slice a3 l3.length c3]) (.d (.k (.k (.k (.k (.k (.i (.blk g2 28 [.int .i64 4, .int .i64 0, .string (mkS [])]) (.d (.k (.i (.blk g4 28 [.int .i64 4, .int .i64 1, .string (mkS [])]) (.i (.blk g5 28 [.int .i64 0, .int .i64 0, .string (mkS [])]) .z)))))))))))) ?_
  refine RZ (NT (SQ ?_))
  refine wpc_draw (by kernel_rfl) [.blk g2 28 [.int .i64 4, .int .i64 0, .string (mkS [])], .blk g4 28 [.int .i64 4, .int .i64 1, .string (mkS [])]] (sub_of [6, 8] (by kernel_rfl)) 43 (by kernel_rfl) ?_
  refine TK 42 [(0, [0, 0, 0])] (.i 45 (.agg #[.int .i64 4, .int .i64 0, .string (mkS [])]) (.k (.k (.k (.k (.k (.k (.k (.d (.k .a)))))))))) (#[true, false, false, false, false, false, false, false, false, false, false, false, false, false, false, false, false, false, false, false, false, false, false, false, false, false, false, false, false, false, false, false, false, false, false, false, false, false, false, false, false, false, false]) ?_
  refine AC (dst := some 46) 41 1 (.i (.blk g 59 [.bool true, .int .i64 9, .int .i64 6, .slice a3 l3.length c3]) (.d (.k (.k (.k (.k (.k (.i (.blk g2 28 [.int .i64 4, .int .i64 0, .string (mkS [])]) (.d (.k (.i (.blk g4 28 [.int .i64 4, .int .i64 1, .string (mkS [])]) (.i (.blk g5 28 [.int .i64 0, .int .i64 0, .string (mkS [])]) .z)))))))))))) (at_spec 0) (GI []) [6, 8] ?_
  rintro v _ ⟨rfl, rfl⟩
  refine TK 34 [(2, []), (3, []), (4, []), (5, []), (6, []), (7, []), (8, [1, 1, 1])] (.i 53 (.agg #[.int .i64 4, .int .i64 1, .string (mkS [])]) (.i 52 (.bool true) (.d (.d (.k (.k (.k (.k (.k (.k (.d (.k .a)))))))))))) (#[true, true, true, true, true, true, true, true, true, false, false, false, false, false, false, false, false, false, false, false, false, false, false, false, false, false, false, false, false, false, false, false, false, false, false, false, false, false, false, false, false, false, false]) ?_
  refine AC (dst := some 54) 33 9 (.i (.blk g 59 [.bool true, .int .i64 9, .int .i64 6, .slice a3 l3.length c3]) (.d (.k (.k (.k (.k (.k (.i (.blk g2 28 [.int .i64 4, .int .i64 0, .string (mkS [])]) (.d (.k (.i (.blk g4 28 [.int .i64 4, .int .i64 1, .string (mkS [])]) (.i (.blk g5 28 [.int .i64 0, .int .i64 0, .string (mkS [])]) .z)))))))))))) (at_spec 1) (GI []) [6, 8] ?_
  rintro v _ ⟨rfl, rfl⟩
  refine TK 12 [(10, []), (11, []), (12, []), (13, []), (14, []), (15, []), (16, []), (17, []), (18, []), (19, []), (20, []), (21, []), (22, []), (23, []), (24, []), (25, []), (26, []), (27, []), (28, []), (29, []), (30, [1, 1, 1])] (.i 75 (.agg #[.int .i64 4, .int .i64 1, .string (mkS [])]) (.i 74 (.pointer (some ⟨g, 0, none⟩)) (.i 73 (.bool true) (.d (.d (.d (.k (.d (.d (.d (.d (.d (.d (.k .a)))))))))))))) (#[true, true, true, true, true, true, true, true, true, true, true, true, true, true, true, true, true, true, true, true, true, true, true, true, true, true, true, true, true, true, true, false, false, false, false, false, false, false, false, false, false, false, false]) ?_
  have h6 := Show_o g 9 a3 c3 l3 L3 hm3 (by decide) ok3 (atV 1) (by unfold V.sm; decide) (by unfold V.i64; decide)
  rw [sh3] at h6
  unfold valV at h6
  dsimp only [atV] at h6
  refine AC (dst := some 76) 11 31 (.i (.blk g 59 [.bool true, .int .i64 9, .int .i64 6, .slice a3 l3.length c3]) (.d (.k (.k (.k (.k (.k (.i (.blk g2 28 [.int .i64 4, .int .i64 0, .string (mkS [])]) (.d (.k (.i (.blk g4 28 [.int .i64 4, .int .i64 1, .string (mkS [])]) (.i (.blk g5 28 [.int .i64 0, .int .i64 0, .string (mkS [])]) .z)))))))))))) (h6) (GV (GV (GV (GV (GI []) 4 view_gPow) 2 view_gBag) 1 view_row) 0 (view_blk0 (by simp [Go.Sx.One, Value.oneCell']))) [6, 8] ?_
  rintro v _ ⟨rfl, rfl⟩
  refine TK 0 [(32, []), (33, []), (34, []), (35, []), (36, []), (37, []), (38, []), (39, []), (40, []), (41, []), (42, [])] (.i 0 (.bool true) .z) (#[true, true, true, true, true, true, true, true, true, true, true, true, true, true, true, true, true, true, true, true, true, true, true, true, true, true, true, true, true, true, true, true, true, true, true, true, true, true, true, true, true, true, true]) ?_
  refine wpa_done 0 (by kernel_rfl) ?_
  refine NT (RE ?_)
  refine NE [] .z (.i (.blk g 59 [.bool true, .int .i64 9, .int .i64 6, .slice a3 l3.length c3]) (.d (.k (.k (.k (.k (.k (.i (.blk g2 28 [.int .i64 4, .int .i64 0, .string (mkS [])]) (.d (.k (.i (.blk g4 28 [.int .i64 4, .int .i64 1, .string (mkS [])]) (.i (.blk g5 28 [.int .i64 0, .int .i64 0, .string (mkS [])]) .z)))))))))))) [] (.bool true) ?_
  exact ⟨rfl, rfl⟩
end Go.Proofs.YtpfhleghgkeemaaGreatDoor
