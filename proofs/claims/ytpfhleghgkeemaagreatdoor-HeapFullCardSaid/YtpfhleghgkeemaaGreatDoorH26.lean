import Derived.Test.YtpfhleghgkeemaaGreatDoorH25
import Derived.Test.YtpfhleghgkeemaaGreatDoorX16
namespace Go.Proofs.YtpfhleghgkeemaaGreatDoor
open Go Go.Sx
set_option linter.unusedSimpArgs false

def numV (n : Int) : V := ⟨1, n, []⟩
theorem number_spec (n : Int) : Does Tryz.prog 17 [.int .i64 n] [] (fun v hp' => v = .agg #[.int .i64 1, .int .i64 n, .string (mkS [])] ∧ hp' = []) := by
  refine fn_enter Tryz.func17 rfl 5 rfl fun w0 h0 => ?_
  refine wpc_seq ?_
  refine wpc_region [0] (by kernel_rfl) ?_
  refine wpr_new (l₂ := []) true [0] [] (fun g1 => [(2, .pointer (some ⟨g1, 0, none⟩)), (0, .int .i64 n)]) (fun g1 => [.blk g1 28 [.int .i64 0, .int .i64 0, .string ⟨#[]⟩]]) (fun g1 => []) (fun g1 => by kernel_rfl) (fun g1 => by kernel_rfl) (fun g1 => trivial) fun g1 => ?_
  refine wpr_nil (nx_then (wpc_seq ?_))
  refine wpc_region [0, 1, 2] (by kernel_rfl) ?_
  refine wpr_run (l₂ := []) true [0, 1, 2] [0, 0, 0] [(2, .pointer (some ⟨g1, 0, none⟩))] [.blk g1 28 [.int .i64 1, .int .i64 n, .string ⟨#[]⟩]] [] (by kernel_rfl) (by kernel_rfl) trivial ?_
  refine wpr_nil (nx_then ?_)
  refine wpc_ret ?_
  refine nx_end (hp' := []) (rest := [.blk g1 28 [.int .i64 1, .int .i64 n, .string ⟨#[]⟩]]) [0, 0, 0] ((.agg #[.int .i64 1, .int .i64 n, .string ⟨#[]⟩])) (by kernel_rfl) (by kernel_rfl) (give [] (by kernel_rfl)) (by first | ((repeat (first | exact trivial | refine ⟨trivial, ?_⟩)); done) | assumption) ?_ (.inr rfl)
  exact ⟨rfl, rfl⟩
theorem at_spec (n : Int) : Does Tryz.prog 19 [.int .i64 n] [] (fun v hp' => v = .agg #[.int .i64 4, .int .i64 n, .string (mkS [])] ∧ hp' = []) := by
  refine fn_enter Tryz.func19 rfl 5 rfl fun w0 h0 => ?_
  refine wpc_seq ?_
  refine wpc_region [0] (by kernel_rfl) ?_
  refine wpr_new (l₂ := []) true [0] [] (fun g1 => [(2, .pointer (some ⟨g1, 0, none⟩)), (0, .int .i64 n)]) (fun g1 => [.blk g1 28 [.int .i64 0, .int .i64 0, .string ⟨#[]⟩]]) (fun g1 => []) (fun g1 => by kernel_rfl) (fun g1 => by kernel_rfl) (fun g1 => trivial) fun g1 => ?_
  refine wpr_nil (nx_then (wpc_seq ?_))
  refine wpc_region [0, 1, 2] (by kernel_rfl) ?_
  refine wpr_run (l₂ := []) true [0, 1, 2] [0, 0, 0] [(2, .pointer (some ⟨g1, 0, none⟩))] [.blk g1 28 [.int .i64 4, .int .i64 n, .string ⟨#[]⟩]] [] (by kernel_rfl) (by kernel_rfl) trivial ?_
  refine wpr_nil (nx_then ?_)
  refine wpc_ret ?_
  refine nx_end (hp' := []) (rest := [.blk g1 28 [.int .i64 4, .int .i64 n, .string ⟨#[]⟩]]) [0, 0, 0] ((.agg #[.int .i64 4, .int .i64 n, .string ⟨#[]⟩])) (by kernel_rfl) (by kernel_rfl) (give [] (by kernel_rfl)) (by first | ((repeat (first | exact trivial | refine ⟨trivial, ?_⟩)); done) | assumption) ?_ (.inr rfl)
  exact ⟨rfl, rfl⟩
def L1 : List O := [([], [numV 1, numV 2])]
def L2 : List O := [([], [numV 1, numV 2]), ([80], [atV 0, ⟨2, 1, []⟩])]
def L3 : List O := [([], [numV 1, atV 1]), ([80], [atV 0, ⟨2, 1, []⟩])]
theorem al1 : allocR 9 [] [] [numV 1, numV 2] = (L1, atV 0, 0) := by decide
theorem al2 : allocR 9 L1 [80] [atV 0, ⟨2, 1, []⟩] = (L2, atV 1, 0) := by decide
theorem st3 : setR L2 (atV 0) 1 (atV 1) = (L3, 0) := by decide
theorem gt3 : getR L3 (atV 0) 2 = (noV, 10) := by decide
theorem u0 : usedO [] = 0 := rfl
theorem u1 : usedO L1 = 3 := rfl
theorem u2 : usedO L2 = 6 := rfl
theorem u3 : usedO L3 = 6 := rfl
theorem it1 : Lib.itoa 1 = [49] := by unfold Lib.itoa; rw [if_neg (by decide)]; simp [Lib.decDigits]
theorem it2 : Lib.itoa 2 = [50] := by unfold Lib.itoa; rw [if_neg (by decide)]; simp [Lib.decDigits]
theorem sh2 : showT L2 (atV 1) = [80, 40, 91, 49, 44, 32, 50, 93, 44, 32, 116, 114, 117, 101, 41] := by
  simp [showT, cutT, L2, txt, objT, cellsT, sepP, atV, numV, objAt, rightB, it1, it2, List.range_succ]
theorem sh3 : showT L3 (atV 1) = [80, 40, 91, 49, 44, 32, 46, 46, 46, 93, 44, 32, 116, 114, 117, 101, 41] := by
  simp [showT, cutT, L3, txt, objT, cellsT, sepP, atV, numV, objAt, rightB, it1, it2, List.range_succ]
theorem ok2 : okHeap L2 := by
  intro o ho
  simp only [L2, List.mem_cons, List.not_mem_nil, or_false] at ho
  rcases ho with rfl | rfl <;> refine ⟨by decide, by decide, fun v hv => ?_⟩ <;> simp only [List.mem_cons, List.not_mem_nil, or_false] at hv <;> rcases hv with rfl | rfl <;> exact ⟨by unfold V.sm; decide, by unfold V.i64; decide, by decide⟩
theorem ok3 : okHeap L3 := by
  intro o ho
  simp only [L3, List.mem_cons, List.not_mem_nil, or_false] at ho
  rcases ho with rfl | rfl <;> refine ⟨by decide, by decide, fun v hv => ?_⟩ <;> simp only [List.mem_cons, List.not_mem_nil, or_false] at hv <;> rcases hv with rfl | rfl <;> exact ⟨by unfold V.sm; decide, by unfold V.i64; decide, by decide⟩
set_option maxHeartbeats 4000000 in
theorem lives_spec : Does Tryz.prog 15 [] [gWords, gPow] (fun v hp' => v = .bool true ∧ hp' = []) := by
  refine fn_enter Tryz.func15 rfl 87 rfl fun w0 h0 => ?_
  refine wpc_seq ?_
  refine wpc_region [0] (by kernel_rfl) ?_
  refine wpr_run (l₂ := []) true [0] [] [(0, .bool false)] [gWords, gPow] [] (by kernel_rfl) (by kernel_rfl) trivial ?_
  refine wpr_nil (nx_then (wpc_seq ?_))
  refine wpc_region [0, 1] (by kernel_rfl) ?_
  refine wpr_call (dst := some 11) (rest := [gWords, gPow]) (by kernel_rfl) (New_spec 9) (give [] (by kernel_rfl)) ?_
  rintro v _ ⟨g, rfl, rfl⟩
  rw [show mostI 9 = 9 from rfl]
  refine wpr_run (l₂ := []) true [1] [] [(1, .pointer (some ⟨g, 0, none⟩)), (0, .bool false)] [.blk g 59 [.bool true, .int .i64 9, .int .i64 0, .slice none 0 0], gWords, gPow] [] (by kernel_rfl) (by kernel_rfl) trivial ?_
  refine wpr_nil (nx_then (wpc_seq (wpc_seq ?_)))
  refine wpc_region [0, 1] (by kernel_rfl) ?_
  refine wpr_run (l₂ := []) true [0, 1] [] [(13, .bool false), (1, .pointer (some ⟨g, 0, none⟩)), (0, .bool false)] [.blk g 59 [.bool true, .int .i64 9, .int .i64 0, .slice none 0 0], gWords, gPow] [] (by kernel_rfl) (by kernel_rfl) trivial ?_
  refine wpr_nil (nx_then ?_)
  refine wpc_false (by kernel_rfl) ?_
  refine wpc_skip ?_
  refine nx_then (wpc_seq ?_)
  refine wpc_region [0, 1, 2, 3, 4, 5, 6, 7, 8, 9, 10] (by kernel_rfl) ?_
  refine wpr_run (l₂ := [1, 2, 3, 4, 5, 6, 7, 8, 9, 10]) true [0] [] [(15, .pointer (some ⟨g, 0, none⟩)), (1, .pointer (some ⟨g, 0, none⟩)), (0, .bool false)] [.blk g 59 [.bool true, .int .i64 9, .int .i64 0, .slice none 0 0], gWords, gPow] [] (by kernel_rfl) (by kernel_rfl) trivial ?_
  refine wpr_call (dst := some 16) (rest := [.blk g 59 [.bool true, .int .i64 9, .int .i64 0, .slice none 0 0], gWords, gPow]) (by kernel_rfl) (number_spec 1) (give [] (by kernel_rfl)) ?_
  rintro v _ ⟨rfl, rfl⟩
  refine wpr_call (dst := some 17) (rest := [.blk g 59 [.bool true, .int .i64 9, .int .i64 0, .slice none 0 0], gWords, gPow]) (by kernel_rfl) (number_spec 2) (give [] (by kernel_rfl)) ?_
  rintro v _ ⟨rfl, rfl⟩
  refine wpr_new (l₂ := [4, 5, 6, 7, 8, 9, 10]) true [3] [] (fun g1 => [(18, .slice (some ⟨g1, 0, none⟩) 2 2), (15, .pointer (some ⟨g, 0, none⟩)), (1, .pointer (some ⟨g, 0, none⟩)), (0, .bool false)]) (fun g1 => [.blk g 59 [.bool true, .int .i64 9, .int .i64 0, .slice none 0 0], gWords, gPow, .blk g1 28 [.int .i64 1, .int .i64 1, .string (mkS []), .int .i64 1, .int .i64 2, .string (mkS [])]]) (fun g1 => []) (fun g1 => by kernel_rfl) (fun g1 => by kernel_rfl) (fun g1 => trivial) fun g1 => ?_
  refine wpr_ent (Ent.trans ent_star_nil (ent_nil 43 2)) ?_
  refine wpr_ent (ent_turn (c := .blk g1 28 ([numV 1, numV 2].flatMap valC)) 5 (ro (some ⟨g1, 0, none⟩) ([numV 1, numV 2].flatMap valC)) rfl (turn_rblk (vals_one _)) rfl) ?_
  have h1 := Alloc_o g 9 none 0 [] [] rfl [] [numV 1, numV 2] (some ⟨g1, 0, none⟩) 2 (by decide) (by decide) (fun e => by cases e) (by decide) (by decide) (by decide) (by intro v hv; simp only [List.mem_cons, List.not_mem_nil, or_false] at hv; rcases hv with rfl | rfl <;> (unfold V.sm; decide))
  rw [al1] at h1
  unfold heapB heapR heapS valV at h1
  dsimp only [atV] at h1
  refine wpr_call (dst := some 19) (rest := [gWords, gPow, ro (some ⟨g1, 0, none⟩) (List.flatMap valC [numV 1, numV 2])]) (by kernel_rfl) (h1) (Give.reorder (Give.view (c := (ro (some ⟨g1, 0, none⟩) (List.flatMap valC [numV 1, numV 2]))) (Give.view (c := gWords) (give (pre := [.blk g 59 [.bool true, .int .i64 9, .int .i64 0, .slice none 0 0], row 43 2 none 0 0 (List.flatMap objC []), star (List.map obRow [])]) (rest := [gWords, gPow, ro (some ⟨g1, 0, none⟩) (List.flatMap valC [numV 1, numV 2])]) [2, 0, 0] (by kernel_rfl)) 0 (by kernel_rfl) view_ro) 2 (by kernel_rfl) view_ro) [2, 2, 2, 0, 0] (by kernel_rfl)) ?_
  rintro v _ ⟨a1, c1, l1, hm1, rfl, rfl⟩
  refine wpr_new (l₂ := [9, 10]) true [5, 6, 7, 8] [] (fun g2 => [(2, .pointer (some ⟨g2, 0, none⟩)), (21, .int .i64 0), (20, .agg #[.int .i64 4, .int .i64 0, .string (mkS [])]), (1, .pointer (some ⟨g, 0, none⟩)), (0, .bool false)]) (fun g2 => [.blk g 59 [.bool true, .int .i64 9, .int .i64 3, .slice a1 l1.length c1], row 43 2 a1 l1.length c1 (List.flatMap objC l1), star (List.map obRow l1), gWords, gPow, ro (some ⟨g1, 0, none⟩) (List.flatMap valC [numV 1, numV 2]), .blk g2 28 [.int .i64 0, .int .i64 0, .string ⟨#[]⟩]]) (fun g2 => []) (fun g2 => by kernel_rfl) (fun g2 => by kernel_rfl) (fun g2 => trivial) fun g2 => ?_
  refine wpr_run (l₂ := []) true [9, 10] [6, 6, 6] [(3, .int .i64 0), (2, .pointer (some ⟨g2, 0, none⟩)), (1, .pointer (some ⟨g, 0, none⟩)), (0, .bool false)] [.blk g 59 [.bool true, .int .i64 9, .int .i64 3, .slice a1 l1.length c1], row 43 2 a1 l1.length c1 (List.flatMap objC l1), star (List.map obRow l1), gWords, gPow, ro (some ⟨g1, 0, none⟩) (List.flatMap valC [numV 1, numV 2]), .blk g2 28 [.int .i64 4, .int .i64 0, .string (mkS [])]] [] (by kernel_rfl) (by kernel_rfl) trivial ?_
  refine wpr_nil (nx_then (wpc_seq ?_))
  refine wpc_region [0, 1, 2, 3, 4, 5, 6, 7, 8, 9, 10] (by kernel_rfl) ?_
  refine wpr_new (l₂ := [4, 5, 6, 7, 8, 9, 10]) true [0, 1, 2, 3] [6, 6, 6] (fun g3 => [(26, .slice (some ⟨g3, 0, none⟩) 2 2), (23, .pointer (some ⟨g, 0, none⟩)), (3, .int .i64 0), (2, .pointer (some ⟨g2, 0, none⟩)), (1, .pointer (some ⟨g, 0, none⟩)), (0, .bool false)]) (fun g3 => [.blk g 59 [.bool true, .int .i64 9, .int .i64 3, .slice a1 l1.length c1], row 43 2 a1 l1.length c1 (List.flatMap objC l1), star (List.map obRow l1), gWords, gPow, ro (some ⟨g1, 0, none⟩) (List.flatMap valC [numV 1, numV 2]), .blk g2 28 [.int .i64 4, .int .i64 0, .string (mkS [])], .blk g3 28 [.int .i64 4, .int .i64 0, .string (mkS []), .int .i64 2, .int .i64 1, .string ⟨#[]⟩]]) (fun g3 => []) (fun g3 => by kernel_rfl) (fun g3 => by kernel_rfl) (fun g3 => trivial) fun g3 => ?_
  refine wpr_ent (ent_turn (c := .blk g3 28 ([atV 0, V.mk 2 1 []].flatMap valC)) 7 (ro (some ⟨g3, 0, none⟩) ([atV 0, V.mk 2 1 []].flatMap valC)) rfl (turn_rblk (vals_one _)) rfl) ?_
  have h2 := Alloc_o g 9 a1 c1 l1 L1 hm1 [80] [atV 0, V.mk 2 1 []] (some ⟨g3, 0, none⟩) 2 (by decide) (by decide) (fun e => by cases e) (by decide) (by decide) (by decide) (by intro v hv; simp only [List.mem_cons, List.not_mem_nil, or_false] at hv; rcases hv with rfl | rfl <;> (unfold V.sm; decide))
  rw [al2] at h2
  unfold heapB heapR heapS valV at h2
  dsimp only [atV] at h2
  refine wpr_call (dst := some 27) (rest := [gWords, gPow, ro (some ⟨g1, 0, none⟩) (List.flatMap valC [numV 1, numV 2]), .blk g2 28 [.int .i64 4, .int .i64 0, .string (mkS [])], ro (some ⟨g3, 0, none⟩) (List.flatMap valC [atV 0, V.mk 2 1 []])]) (by kernel_rfl) (h2) (Give.reorder (Give.view (c := (ro (some ⟨g3, 0, none⟩) (List.flatMap valC [atV 0, V.mk 2 1 []]))) (Give.view (c := gWords) (give (pre := [.blk g 59 [.bool true, .int .i64 9, .int .i64 3, .slice a1 l1.length c1], row 43 2 a1 l1.length c1 (List.flatMap objC l1), star (List.map obRow l1)]) (rest := [gWords, gPow, ro (some ⟨g1, 0, none⟩) (List.flatMap valC [numV 1, numV 2]), .blk g2 28 [.int .i64 4, .int .i64 0, .string (mkS [])], ro (some ⟨g3, 0, none⟩) (List.flatMap valC [atV 0, V.mk 2 1 []])]) [0, 0, 0] (by kernel_rfl)) 0 (by kernel_rfl) view_ro) 4 (by kernel_rfl) view_ro) [2, 2, 2, 0, 0] (by kernel_rfl)) ?_
  rintro v _ ⟨a2, c2, l2, hm2, rfl, rfl⟩
  refine wpr_new (l₂ := [9, 10]) true [5, 6, 7, 8] [] (fun g4 => [(4, .pointer (some ⟨g4, 0, none⟩)), (29, .int .i64 0), (28, .agg #[.int .i64 4, .int .i64 1, .string (mkS [])]), (3, .int .i64 0), (2, .pointer (some ⟨g2, 0, none⟩)), (1, .pointer (some ⟨g, 0, none⟩)), (0, .bool false)]) (fun g4 => [.blk g 59 [.bool true, .int .i64 9, .int .i64 6, .slice a2 l2.length c2], row 43 2 a2 l2.length c2 (List.flatMap objC l2), star (List.map obRow l2), gWords, gPow, ro (some ⟨g1, 0, none⟩) (List.flatMap valC [numV 1, numV 2]), .blk g2 28 [.int .i64 4, .int .i64 0, .string (mkS [])], ro (some ⟨g3, 0, none⟩) (List.flatMap valC [atV 0, V.mk 2 1 []]), .blk g4 28 [.int .i64 0, .int .i64 0, .string ⟨#[]⟩]]) (fun g4 => []) (fun g4 => by kernel_rfl) (fun g4 => by kernel_rfl) (fun g4 => trivial) fun g4 => ?_
  refine wpr_run (l₂ := []) true [9, 10] [8, 8, 8] [(5, .int .i64 0), (4, .pointer (some ⟨g4, 0, none⟩)), (3, .int .i64 0), (2, .pointer (some ⟨g2, 0, none⟩)), (1, .pointer (some ⟨g, 0, none⟩)), (0, .bool false)] [.blk g 59 [.bool true, .int .i64 9, .int .i64 6, .slice a2 l2.length c2], row 43 2 a2 l2.length c2 (List.flatMap objC l2), star (List.map obRow l2), gWords, gPow, ro (some ⟨g1, 0, none⟩) (List.flatMap valC [numV 1, numV 2]), .blk g2 28 [.int .i64 4, .int .i64 0, .string (mkS [])], ro (some ⟨g3, 0, none⟩) (List.flatMap valC [atV 0, V.mk 2 1 []]), .blk g4 28 [.int .i64 4, .int .i64 1, .string (mkS [])]] [] (by kernel_rfl) (by kernel_rfl) trivial ?_
  refine wpr_nil (nx_then (wpc_seq ?_))
  refine wpc_region [0, 1, 2, 3, 4, 5, 6] (by kernel_rfl) ?_
  refine wpr_run (l₂ := [2, 3, 4, 5, 6]) true [0, 1] [8, 8, 8] [(31, .agg #[.int .i64 4, .int .i64 1, .string (mkS [])]), (30, .pointer (some ⟨g, 0, none⟩)), (5, .int .i64 0), (4, .pointer (some ⟨g4, 0, none⟩)), (3, .int .i64 0), (2, .pointer (some ⟨g2, 0, none⟩)), (1, .pointer (some ⟨g, 0, none⟩)), (0, .bool false)] [.blk g 59 [.bool true, .int .i64 9, .int .i64 6, .slice a2 l2.length c2], row 43 2 a2 l2.length c2 (List.flatMap objC l2), star (List.map obRow l2), gWords, gPow, ro (some ⟨g1, 0, none⟩) (List.flatMap valC [numV 1, numV 2]), .blk g2 28 [.int .i64 4, .int .i64 0, .string (mkS [])], ro (some ⟨g3, 0, none⟩) (List.flatMap valC [atV 0, V.mk 2 1 []]), .blk g4 28 [.int .i64 4, .int .i64 1, .string (mkS [])]] [] (by kernel_rfl) (by kernel_rfl) trivial ?_
  have h3 := Show_o g 9 a2 c2 l2 L2 hm2 (by decide) ok2 (atV 1) (by unfold V.sm; decide) (by unfold V.i64; decide)
  rw [sh2] at h3
  unfold valV at h3
  dsimp only [atV] at h3
  refine wpr_call (dst := some 32) (rest := [.blk g 59 [.bool true, .int .i64 9, .int .i64 6, .slice a2 l2.length c2], row 43 2 a2 l2.length c2 (List.flatMap objC l2), star (List.map obRow l2), gWords, gPow, ro (some ⟨g1, 0, none⟩) (List.flatMap valC [numV 1, numV 2]), .blk g2 28 [.int .i64 4, .int .i64 0, .string (mkS [])], ro (some ⟨g3, 0, none⟩) (List.flatMap valC [atV 0, V.mk 2 1 []]), .blk g4 28 [.int .i64 4, .int .i64 1, .string (mkS [])]]) (by kernel_rfl) (h3) (Give.view (c := (.blk g 59 [.bool true, .int .i64 9, .int .i64 6, .slice a2 l2.length c2])) (Give.view (c := (row 43 2 a2 l2.length c2 (List.flatMap objC l2))) (Give.view (c := (star (List.map obRow l2))) (Give.view (c := gPow) (give (pre := []) (rest := [.blk g 59 [.bool true, .int .i64 9, .int .i64 6, .slice a2 l2.length c2], row 43 2 a2 l2.length c2 (List.flatMap objC l2), star (List.map obRow l2), gWords, gPow, ro (some ⟨g1, 0, none⟩) (List.flatMap valC [numV 1, numV 2]), .blk g2 28 [.int .i64 4, .int .i64 0, .string (mkS [])], ro (some ⟨g3, 0, none⟩) (List.flatMap valC [atV 0, V.mk 2 1 []]), .blk g4 28 [.int .i64 4, .int .i64 1, .string (mkS [])]]) [] (by kernel_rfl)) 4 (by kernel_rfl) view_gPow) 2 (by kernel_rfl) view_gBag) 1 (by kernel_rfl) view_row) 0 (by kernel_rfl) (view_blk0 (by simp [Go.Sx.One, Value.oneCell']))) ?_
  rintro v _ ⟨rfl, rfl⟩
  refine wpr_run (l₂ := [4, 5, 6]) true [3] [] [(33, .pointer (some ⟨g, 0, none⟩)), (32, .string (mkS [80, 40, 91, 49, 44, 32, 50, 93, 44, 32, 116, 114, 117, 101, 41])), (5, .int .i64 0), (4, .pointer (some ⟨g4, 0, none⟩)), (3, .int .i64 0), (2, .pointer (some ⟨g2, 0, none⟩)), (1, .pointer (some ⟨g, 0, none⟩)), (0, .bool false)] [.blk g 59 [.bool true, .int .i64 9, .int .i64 6, .slice a2 l2.length c2], row 43 2 a2 l2.length c2 (List.flatMap objC l2), star (List.map obRow l2), gWords, gPow, ro (some ⟨g1, 0, none⟩) (List.flatMap valC [numV 1, numV 2]), .blk g2 28 [.int .i64 4, .int .i64 0, .string (mkS [])], ro (some ⟨g3, 0, none⟩) (List.flatMap valC [atV 0, V.mk 2 1 []]), .blk g4 28 [.int .i64 4, .int .i64 1, .string (mkS [])]] [] (by kernel_rfl) (by kernel_rfl) trivial ?_
  refine wpr_call (dst := some 34) (rest := [row 43 2 a2 l2.length c2 (List.flatMap objC l2), star (List.map obRow l2), gWords, gPow, ro (some ⟨g1, 0, none⟩) (List.flatMap valC [numV 1, numV 2]), .blk g2 28 [.int .i64 4, .int .i64 0, .string (mkS [])], ro (some ⟨g3, 0, none⟩) (List.flatMap valC [atV 0, V.mk 2 1 []]), .blk g4 28 [.int .i64 4, .int .i64 1, .string (mkS [])]]) (by kernel_rfl) (Used_spec g 9 6 (.slice a2 l2.length c2)) (give [0] (by kernel_rfl)) ?_
  rintro v _ ⟨rfl, rfl⟩
  refine wpr_run (l₂ := []) true [5, 6] [] [(7, .int .i64 6), (6, .string (mkS [80, 40, 91, 49, 44, 32, 50, 93, 44, 32, 116, 114, 117, 101, 41])), (5, .int .i64 0), (4, .pointer (some ⟨g4, 0, none⟩)), (3, .int .i64 0), (2, .pointer (some ⟨g2, 0, none⟩)), (1, .pointer (some ⟨g, 0, none⟩)), (0, .bool false)] [.blk g 59 [.bool true, .int .i64 9, .int .i64 6, .slice a2 l2.length c2], row 43 2 a2 l2.length c2 (List.flatMap objC l2), star (List.map obRow l2), gWords, gPow, ro (some ⟨g1, 0, none⟩) (List.flatMap valC [numV 1, numV 2]), .blk g2 28 [.int .i64 4, .int .i64 0, .string (mkS [])], ro (some ⟨g3, 0, none⟩) (List.flatMap valC [atV 0, V.mk 2 1 []]), .blk g4 28 [.int .i64 4, .int .i64 1, .string (mkS [])]] [] (by kernel_rfl) (by kernel_rfl) trivial ?_
  refine wpr_nil (nx_then (wpc_seq ?_))
  refine wpc_region [0, 1, 2, 3, 4] (by kernel_rfl) ?_
  refine wpr_run (l₂ := [3, 4]) true [0, 1, 2] [6, 6, 6, 8, 8, 8] [(37, .agg #[.int .i64 4, .int .i64 1, .string (mkS [])]), (36, .agg #[.int .i64 4, .int .i64 0, .string (mkS [])]), (35, .pointer (some ⟨g, 0, none⟩)), (7, .int .i64 6), (6, .string (mkS [80, 40, 91, 49, 44, 32, 50, 93, 44, 32, 116, 114, 117, 101, 41])), (5, .int .i64 0), (4, .pointer (some ⟨g4, 0, none⟩)), (3, .int .i64 0), (2, .pointer (some ⟨g2, 0, none⟩)), (1, .pointer (some ⟨g, 0, none⟩)), (0, .bool false)] [.blk g 59 [.bool true, .int .i64 9, .int .i64 6, .slice a2 l2.length c2], row 43 2 a2 l2.length c2 (List.flatMap objC l2), star (List.map obRow l2), gWords, gPow, ro (some ⟨g1, 0, none⟩) (List.flatMap valC [numV 1, numV 2]), .blk g2 28 [.int .i64 4, .int .i64 0, .string (mkS [])], ro (some ⟨g3, 0, none⟩) (List.flatMap valC [atV 0, V.mk 2 1 []]), .blk g4 28 [.int .i64 4, .int .i64 1, .string (mkS [])]] [] (by kernel_rfl) (by kernel_rfl) trivial ?_
  have h4 := Set_o g 9 a2 c2 l2 L2 hm2 (atV 0) 1 (atV 1) (by decide) (by unfold V.sm; decide) (by unfold V.sm; decide)
  rw [st3] at h4
  unfold heapB heapR heapS valV at h4
  dsimp only [atV] at h4
  refine wpr_call (dst := some 38) (rest := [gWords, gPow, ro (some ⟨g1, 0, none⟩) (List.flatMap valC [numV 1, numV 2]), .blk g2 28 [.int .i64 4, .int .i64 0, .string (mkS [])], ro (some ⟨g3, 0, none⟩) (List.flatMap valC [atV 0, V.mk 2 1 []]), .blk g4 28 [.int .i64 4, .int .i64 1, .string (mkS [])]]) (by kernel_rfl) (h4) (give [0, 0, 0] (by kernel_rfl)) ?_
  rintro v _ ⟨rfl, a3, c3, l3, hm3, rfl⟩
  refine wpr_run (l₂ := []) true [4] [] [(8, .int .i64 0), (7, .int .i64 6), (6, .string (mkS [80, 40, 91, 49, 44, 32, 50, 93, 44, 32, 116, 114, 117, 101, 41])), (5, .int .i64 0), (4, .pointer (some ⟨g4, 0, none⟩)), (3, .int .i64 0), (2, .pointer (some ⟨g2, 0, none⟩)), (1, .pointer (some ⟨g, 0, none⟩)), (0, .bool false)] [.blk g 59 [.bool true, .int .i64 9, .int .i64 6, .slice a3 l3.length c3], row 43 2 a3 l3.length c3 (List.flatMap objC l3), star (List.map obRow l3), gWords, gPow, ro (some ⟨g1, 0, none⟩) (List.flatMap valC [numV 1, numV 2]), .blk g2 28 [.int .i64 4, .int .i64 0, .string (mkS [])], ro (some ⟨g3, 0, none⟩) (List.flatMap valC [atV 0, V.mk 2 1 []]), .blk g4 28 [.int .i64 4, .int .i64 1, .string (mkS [])]] [] (by kernel_rfl) (by kernel_rfl) trivial ?_
  refine wpr_nil (nx_then (wpc_seq ?_))
  refine wpc_region [0, 1, 2, 3, 4, 5, 6, 7, 8] (by kernel_rfl) ?_
  refine wpr_run (l₂ := [2, 3, 4, 5, 6, 7, 8]) true [0, 1] [6, 6, 6] [(41, .agg #[.int .i64 4, .int .i64 0, .string (mkS [])]), (40, .pointer (some ⟨g, 0, none⟩)), (8, .int .i64 0), (7, .int .i64 6), (6, .string (mkS [80, 40, 91, 49, 44, 32, 50, 93, 44, 32, 116, 114, 117, 101, 41])), (5, .int .i64 0), (4, .pointer (some ⟨g4, 0, none⟩)), (3, .int .i64 0), (2, .pointer (some ⟨g2, 0, none⟩)), (1, .pointer (some ⟨g, 0, none⟩)), (0, .bool false)] [.blk g 59 [.bool true, .int .i64 9, .int .i64 6, .slice a3 l3.length c3], row 43 2 a3 l3.length c3 (List.flatMap objC l3), star (List.map obRow l3), gWords, gPow, ro (some ⟨g1, 0, none⟩) (List.flatMap valC [numV 1, numV 2]), .blk g2 28 [.int .i64 4, .int .i64 0, .string (mkS [])], ro (some ⟨g3, 0, none⟩) (List.flatMap valC [atV 0, V.mk 2 1 []]), .blk g4 28 [.int .i64 4, .int .i64 1, .string (mkS [])]] [] (by kernel_rfl) (by kernel_rfl) trivial ?_
  have h5 := Get_o g 9 a3 c3 l3 L3 hm3 (atV 0) 2 (by decide) (by unfold V.sm; decide)
  rw [gt3] at h5
  unfold heapB heapR heapS valV at h5
  dsimp only [atV, noV] at h5
  refine wpr_call (dst := some 42) (rest := [gWords, gPow, ro (some ⟨g1, 0, none⟩) (List.flatMap valC [numV 1, numV 2]), .blk g2 28 [.int .i64 4, .int .i64 0, .string (mkS [])], ro (some ⟨g3, 0, none⟩) (List.flatMap valC [atV 0, V.mk 2 1 []]), .blk g4 28 [.int .i64 4, .int .i64 1, .string (mkS [])]]) (by kernel_rfl) (h5) (give [0, 0, 0] (by kernel_rfl)) ?_
  rintro v _ ⟨rfl, rfl⟩
  refine wpr_new (l₂ := [7, 8]) true [3, 4, 5, 6] [] (fun g5 => [(9, .pointer (some ⟨g5, 0, none⟩)), (44, .int .i64 10), (43, .agg #[.int .i64 0, .int .i64 0, .string (mkS [])]), (8, .int .i64 0), (7, .int .i64 6), (6, .string (mkS [80, 40, 91, 49, 44, 32, 50, 93, 44, 32, 116, 114, 117, 101, 41])), (5, .int .i64 0), (4, .pointer (some ⟨g4, 0, none⟩)), (3, .int .i64 0), (2, .pointer (some ⟨g2, 0, none⟩)), (1, .pointer (some ⟨g, 0, none⟩)), (0, .bool false)]) (fun g5 => [.blk g 59 [.bool true, .int .i64 9, .int .i64 6, .slice a3 l3.length c3], row 43 2 a3 l3.length c3 (List.flatMap objC l3), star (List.map obRow l3), gWords, gPow, ro (some ⟨g1, 0, none⟩) (List.flatMap valC [numV 1, numV 2]), .blk g2 28 [.int .i64 4, .int .i64 0, .string (mkS [])], ro (some ⟨g3, 0, none⟩) (List.flatMap valC [atV 0, V.mk 2 1 []]), .blk g4 28 [.int .i64 4, .int .i64 1, .string (mkS [])], .blk g5 28 [.int .i64 0, .int .i64 0, .string ⟨#[]⟩]]) (fun g5 => []) (fun g5 => by kernel_rfl) (fun g5 => by kernel_rfl) (fun g5 => trivial) fun g5 => ?_
  refine wpr_run (l₂ := []) true [7, 8] [9, 9, 9] [(10, .int .i64 10), (8, .int .i64 0), (7, .int .i64 6), (6, .string (mkS [80, 40, 91, 49, 44, 32, 50, 93, 44, 32, 116, 114, 117, 101, 41])), (5, .int .i64 0), (4, .pointer (some ⟨g4, 0, none⟩)), (3, .int .i64 0), (2, .pointer (some ⟨g2, 0, none⟩)), (1, .pointer (some ⟨g, 0, none⟩)), (0, .bool false)] [.blk g 59 [.bool true, .int .i64 9, .int .i64 6, .slice a3 l3.length c3], row 43 2 a3 l3.length c3 (List.flatMap objC l3), star (List.map obRow l3), gWords, gPow, ro (some ⟨g1, 0, none⟩) (List.flatMap valC [numV 1, numV 2]), .blk g2 28 [.int .i64 4, .int .i64 0, .string (mkS [])], ro (some ⟨g3, 0, none⟩) (List.flatMap valC [atV 0, V.mk 2 1 []]), .blk g4 28 [.int .i64 4, .int .i64 1, .string (mkS [])], .blk g5 28 [.int .i64 0, .int .i64 0, .string (mkS [])]] [] (by kernel_rfl) (by kernel_rfl) trivial ?_
  refine wpr_nil (nx_then (wpc_seq ?_))
  refine wpc_draw (by kernel_rfl) [.blk g2 28 [.int .i64 4, .int .i64 0, .string (mkS [])], .blk g4 28 [.int .i64 4, .int .i64 1, .string (mkS [])]] (sub_of [6, 8] (by kernel_rfl)) 43 (by kernel_rfl) ?_
  refine wpa_take true [(0, [0, 0, 0])] [(45, .agg #[.int .i64 4, .int .i64 0, .string (mkS [])]), (10, .int .i64 10), (8, .int .i64 0), (7, .int .i64 6), (6, .string (mkS [80, 40, 91, 49, 44, 32, 50, 93, 44, 32, 116, 114, 117, 101, 41])), (5, .int .i64 0), (4, .pointer (some ⟨g4, 0, none⟩)), (3, .int .i64 0), (1, .pointer (some ⟨g, 0, none⟩)), (0, .bool false)] (#[true, false, false, false, false, false, false, false, false, false, false, false, false, false, false, false, false, false, false, false, false, false, false, false, false, false, false, false, false, false, false, false, false, false, false, false, false, false, false, false, false, false, false]) [] (n := 42) (by kernel_rfl) (by kernel_rfl) (by kernel_rfl) trivial ?_
  refine wpa_call (i := 1) (n := 41) (dst := some 46) (rest := [.blk g 59 [.bool true, .int .i64 9, .int .i64 6, .slice a3 l3.length c3], row 43 2 a3 l3.length c3 (List.flatMap objC l3), star (List.map obRow l3), gWords, gPow, ro (some ⟨g1, 0, none⟩) (List.flatMap valC [numV 1, numV 2]), .blk g2 28 [.int .i64 4, .int .i64 0, .string (mkS [])], ro (some ⟨g3, 0, none⟩) (List.flatMap valC [atV 0, V.mk 2 1 []]), .blk g4 28 [.int .i64 4, .int .i64 1, .string (mkS [])], .blk g5 28 [.int .i64 0, .int .i64 0, .string (mkS [])]]) (by kernel_rfl) (by kernel_rfl) (at_spec 0) (give [] (by kernel_rfl)) (sub_of [6, 8] (by kernel_rfl)) ?_
  rintro v _ ⟨rfl, rfl⟩
  refine wpa_take true [(2, []), (3, []), (4, []), (5, []), (6, []), (7, []), (8, [1, 1, 1])] [(53, .agg #[.int .i64 4, .int .i64 1, .string (mkS [])]), (52, .bool true), (10, .int .i64 10), (8, .int .i64 0), (7, .int .i64 6), (6, .string (mkS [80, 40, 91, 49, 44, 32, 50, 93, 44, 32, 116, 114, 117, 101, 41])), (5, .int .i64 0), (4, .pointer (some ⟨g4, 0, none⟩)), (1, .pointer (some ⟨g, 0, none⟩)), (0, .bool false)] (#[true, true, true, true, true, true, true, true, true, false, false, false, false, false, false, false, false, false, false, false, false, false, false, false, false, false, false, false, false, false, false, false, false, false, false, false, false, false, false, false, false, false, false]) [] (n := 34) (by kernel_rfl) (by kernel_rfl) (by kernel_rfl) trivial ?_
  refine wpa_call (i := 9) (n := 33) (dst := some 54) (rest := [.blk g 59 [.bool true, .int .i64 9, .int .i64 6, .slice a3 l3.length c3], row 43 2 a3 l3.length c3 (List.flatMap objC l3), star (List.map obRow l3), gWords, gPow, ro (some ⟨g1, 0, none⟩) (List.flatMap valC [numV 1, numV 2]), .blk g2 28 [.int .i64 4, .int .i64 0, .string (mkS [])], ro (some ⟨g3, 0, none⟩) (List.flatMap valC [atV 0, V.mk 2 1 []]), .blk g4 28 [.int .i64 4, .int .i64 1, .string (mkS [])], .blk g5 28 [.int .i64 0, .int .i64 0, .string (mkS [])]]) (by kernel_rfl) (by kernel_rfl) (at_spec 1) (give [] (by kernel_rfl)) (sub_of [6, 8] (by kernel_rfl)) ?_
  rintro v _ ⟨rfl, rfl⟩
  refine wpa_take true [(10, []), (11, []), (12, []), (13, []), (14, []), (15, []), (16, []), (17, []), (18, []), (19, []), (20, []), (21, []), (22, []), (23, []), (24, []), (25, []), (26, []), (27, []), (28, []), (29, []), (30, [1, 1, 1])] [(75, .agg #[.int .i64 4, .int .i64 1, .string (mkS [])]), (74, .pointer (some ⟨g, 0, none⟩)), (73, .bool true), (10, .int .i64 10), (0, .bool false)] (#[true, true, true, true, true, true, true, true, true, true, true, true, true, true, true, true, true, true, true, true, true, true, true, true, true, true, true, true, true, true, true, false, false, false, false, false, false, false, false, false, false, false, false]) [] (n := 12) (by kernel_rfl) (by kernel_rfl) (by kernel_rfl) trivial ?_
  have h6 := Show_o g 9 a3 c3 l3 L3 hm3 (by decide) ok3 (atV 1) (by unfold V.sm; decide) (by unfold V.i64; decide)
  rw [sh3] at h6
  unfold valV at h6
  dsimp only [atV] at h6
  refine wpa_call (i := 31) (n := 11) (dst := some 76) (rest := [.blk g 59 [.bool true, .int .i64 9, .int .i64 6, .slice a3 l3.length c3], row 43 2 a3 l3.length c3 (List.flatMap objC l3), star (List.map obRow l3), gWords, gPow, ro (some ⟨g1, 0, none⟩) (List.flatMap valC [numV 1, numV 2]), .blk g2 28 [.int .i64 4, .int .i64 0, .string (mkS [])], ro (some ⟨g3, 0, none⟩) (List.flatMap valC [atV 0, V.mk 2 1 []]), .blk g4 28 [.int .i64 4, .int .i64 1, .string (mkS [])], .blk g5 28 [.int .i64 0, .int .i64 0, .string (mkS [])]]) (by kernel_rfl) (by kernel_rfl) (h6) (Give.view (c := (.blk g 59 [.bool true, .int .i64 9, .int .i64 6, .slice a3 l3.length c3])) (Give.view (c := (row 43 2 a3 l3.length c3 (List.flatMap objC l3))) (Give.view (c := (star (List.map obRow l3))) (Give.view (c := gPow) (give (pre := []) (rest := [.blk g 59 [.bool true, .int .i64 9, .int .i64 6, .slice a3 l3.length c3], row 43 2 a3 l3.length c3 (List.flatMap objC l3), star (List.map obRow l3), gWords, gPow, ro (some ⟨g1, 0, none⟩) (List.flatMap valC [numV 1, numV 2]), .blk g2 28 [.int .i64 4, .int .i64 0, .string (mkS [])], ro (some ⟨g3, 0, none⟩) (List.flatMap valC [atV 0, V.mk 2 1 []]), .blk g4 28 [.int .i64 4, .int .i64 1, .string (mkS [])], .blk g5 28 [.int .i64 0, .int .i64 0, .string (mkS [])]]) [] (by kernel_rfl)) 4 (by kernel_rfl) view_gPow) 2 (by kernel_rfl) view_gBag) 1 (by kernel_rfl) view_row) 0 (by kernel_rfl) (view_blk0 (by simp [Go.Sx.One, Value.oneCell']))) (sub_of [6, 8] (by kernel_rfl)) ?_
  rintro v _ ⟨rfl, rfl⟩
  refine wpa_take true [(32, []), (33, []), (34, []), (35, []), (36, []), (37, []), (38, []), (39, []), (40, []), (41, []), (42, [])] [(0, .bool true)] (#[true, true, true, true, true, true, true, true, true, true, true, true, true, true, true, true, true, true, true, true, true, true, true, true, true, true, true, true, true, true, true, true, true, true, true, true, true, true, true, true, true, true, true]) [] (n := 0) (by kernel_rfl) (by kernel_rfl) (by kernel_rfl) trivial ?_
  refine wpa_done 0 (by kernel_rfl) ?_
  refine nx_then ?_
  refine wpc_ret ?_
  refine nx_end (hp' := []) (rest := [.blk g 59 [.bool true, .int .i64 9, .int .i64 6, .slice a3 l3.length c3], row 43 2 a3 l3.length c3 (List.flatMap objC l3), star (List.map obRow l3), gWords, gPow, ro (some ⟨g1, 0, none⟩) (List.flatMap valC [numV 1, numV 2]), .blk g2 28 [.int .i64 4, .int .i64 0, .string (mkS [])], ro (some ⟨g3, 0, none⟩) (List.flatMap valC [atV 0, V.mk 2 1 []]), .blk g4 28 [.int .i64 4, .int .i64 1, .string (mkS [])], .blk g5 28 [.int .i64 0, .int .i64 0, .string (mkS [])]]) [] ((.bool true)) (by kernel_rfl) (by kernel_rfl) (give [] (by kernel_rfl)) (by first | ((repeat (first | exact trivial | refine ⟨trivial, ?_⟩)); done) | assumption) ?_ (.inr rfl)
  exact ⟨rfl, rfl⟩
end Go.Proofs.YtpfhleghgkeemaaGreatDoor
