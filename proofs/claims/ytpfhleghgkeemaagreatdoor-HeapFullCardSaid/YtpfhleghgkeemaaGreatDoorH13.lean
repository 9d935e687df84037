import Derived.Test.YtpfhleghgkeemaaGreatDoorH12
import Derived.Test.YtpfhleghgkeemaaGreatDoorX16
namespace Go.Proofs.YtpfhleghgkeemaaGreatDoor
open Go Go.Sx
set_option linter.unusedSimpArgs false

def noV : V := ⟨0, 0, []⟩
def atV (n : Nat) : V := ⟨4, n, []⟩
theorem Alloc_spec (g : Nat) (most : Int) (a : Option Addr) (c : Nat) (l : List Ob) (tag : List UInt8) (cells : List V) (oa : Option Addr) (oc : Nat) (hm : 0 ≤ most ∧ most ≤ 4096) (hu : (usedN (l.map Ob.n) : Int) ≤ most) (hl : l.length ≤ 4096) (ha : oa = none → cells = []) (hlc : cells.length ≤ oc) (hcl : cells.length ≤ 1048576) (ht : tag.length ≤ 1048576) (hs : smL cells) :
    Does Tryz.prog 18 [.pointer (some ⟨g, 0, none⟩), .string (mkS tag), .slice oa cells.length oc] [heapB g most (usedN (l.map Ob.n)) a l.length c, heapR a c l, heapS l, ro oa (cells.flatMap valC), gWords]
      (fun v hp' => if objB l.length tag cells = true ∧ (cells.length : Int) < most - usedN (l.map Ob.n) then ∃ a' c' o, v = .tuple #[valV (atV l.length), .int .i64 0] ∧ o.tag = tag ∧ o.cells = cells ∧ hp' = [heapB g most (usedN ((l ++ [o]).map Ob.n)) a' (l ++ [o]).length c', heapR a' c' (l ++ [o]), heapS (l ++ [o])]
        else v = .tuple #[valV noV, .int .i64 (if objB l.length tag cells then 12 else 2)] ∧ hp' = [heapB g most (usedN (l.map Ob.n)) a l.length c, heapR a c l, heapS l]) := by
  have hfit := fit_spec tag cells oa oc l.length ht hcl hs
  have hput := put_spec g most a c l tag cells oa oc hm hu hl ha hlc hcl
  unfold heapB heapR heapS at hput ⊢
  refine fn_enter Tryz.func18 rfl 40 rfl fun w0 h0 => ?_
  refine wpc_seq ?_
  refine wpc_region [0, 1] (by kernel_rfl) ?_
  refine wpr_new (l₂ := [1]) true [0] [] (fun g1 => [(6, .pointer (some ⟨g1, 0, none⟩)), (0, .pointer (some ⟨g, 0, none⟩)), (1, .string (mkS tag)), (2, .slice oa cells.length oc)]) (fun g1 => [.blk g 59 [.bool true, .int .i64 most, .int .i64 (↑(usedN (List.map Ob.n l)) : Int), .slice a l.length c], row 43 2 a l.length c (List.flatMap objC l), star (List.map obRow l), ro oa (List.flatMap valC cells), gWords, .blk g1 28 [.int .i64 0, .int .i64 0, .string ⟨#[]⟩]]) (fun g1 => []) (fun g1 => by kernel_rfl) (fun g1 => by kernel_rfl) (fun g1 => trivial) fun g1 => ?_
  refine wpr_run (l₂ := []) true [1] [] [(7, .int .i64 0), (6, .pointer (some ⟨g1, 0, none⟩)), (0, .pointer (some ⟨g, 0, none⟩)), (1, .string (mkS tag)), (2, .slice oa cells.length oc)] [.blk g 59 [.bool true, .int .i64 most, .int .i64 (↑(usedN (List.map Ob.n l)) : Int), .slice a l.length c], row 43 2 a l.length c (List.flatMap objC l), star (List.map obRow l), ro oa (List.flatMap valC cells), gWords, .blk g1 28 [.int .i64 0, .int .i64 0, .string ⟨#[]⟩]] [] (by kernel_rfl) (by kernel_rfl) trivial ?_
  refine wpr_nil (nx_then (wpc_seq ?_))
  refine wpc_region [0, 1, 2, 3, 4] (by kernel_rfl) ?_
  refine wpr_new (l₂ := [4]) true [0, 1, 2, 3] [] (fun g2 => [(8, .pointer (some ⟨g2, 0, none⟩)), (11, .agg #[.string (mkS tag), .slice oa cells.length oc]), (7, .int .i64 0), (6, .pointer (some ⟨g1, 0, none⟩)), (0, .pointer (some ⟨g, 0, none⟩))]) (fun g2 => [.blk g 59 [.bool true, .int .i64 most, .int .i64 (↑(usedN (List.map Ob.n l)) : Int), .slice a l.length c], row 43 2 a l.length c (List.flatMap objC l), star (List.map obRow l), ro oa (List.flatMap valC cells), gWords, .blk g1 28 [.int .i64 0, .int .i64 0, .string ⟨#[]⟩], .blk g2 43 [.string ⟨#[]⟩, .slice none 0 0]]) (fun g2 => []) (fun g2 => by kernel_rfl) (fun g2 => by kernel_rfl) (fun g2 => trivial) fun g2 => ?_
  refine wpr_run (l₂ := []) true [4] [6, 6] [(8, .pointer (some ⟨g2, 0, none⟩)), (7, .int .i64 0), (6, .pointer (some ⟨g1, 0, none⟩)), (0, .pointer (some ⟨g, 0, none⟩))] [.blk g 59 [.bool true, .int .i64 most, .int .i64 (↑(usedN (List.map Ob.n l)) : Int), .slice a l.length c], row 43 2 a l.length c (List.flatMap objC l), star (List.map obRow l), ro oa (List.flatMap valC cells), gWords, .blk g1 28 [.int .i64 0, .int .i64 0, .string ⟨#[]⟩], .blk g2 43 [.string (mkS tag), .slice oa cells.length oc]] [] (by kernel_rfl) (by kernel_rfl) trivial ?_
  refine wpr_nil (nx_then (wpc_seq ?_))
  refine wpc_block ?_
  refine wpc_seq ?_
  refine wpc_region [0, 1, 2, 3] (by kernel_rfl) ?_
  refine wpr_run (l₂ := [1, 2, 3]) true [0] [] [(13, .pointer (some ⟨g, 0, none⟩)), (8, .pointer (some ⟨g2, 0, none⟩)), (7, .int .i64 0), (6, .pointer (some ⟨g1, 0, none⟩)), (0, .pointer (some ⟨g, 0, none⟩))] [.blk g 59 [.bool true, .int .i64 most, .int .i64 (↑(usedN (List.map Ob.n l)) : Int), .slice a l.length c], row 43 2 a l.length c (List.flatMap objC l), star (List.map obRow l), ro oa (List.flatMap valC cells), gWords, .blk g1 28 [.int .i64 0, .int .i64 0, .string ⟨#[]⟩], .blk g2 43 [.string (mkS tag), .slice oa cells.length oc]] [] (by kernel_rfl) (by kernel_rfl) trivial ?_
  refine wpr_call (dst := some 14) (rest := [row 43 2 a l.length c (List.flatMap objC l), star (List.map obRow l), ro oa (List.flatMap valC cells), gWords, .blk g1 28 [.int .i64 0, .int .i64 0, .string ⟨#[]⟩], .blk g2 43 [.string (mkS tag), .slice oa cells.length oc]]) (by kernel_rfl) (is_spec g (.int .i64 most) (.int .i64 (usedN (l.map Ob.n) : Nat)) (.slice a l.length c)) (give [0] (by kernel_rfl)) ?_
  rintro v _ ⟨rfl, rfl⟩
  refine wpr_run (l₂ := []) true [2, 3] [] [(12, .bool false), (8, .pointer (some ⟨g2, 0, none⟩)), (7, .int .i64 0), (6, .pointer (some ⟨g1, 0, none⟩)), (0, .pointer (some ⟨g, 0, none⟩))] [.blk g 59 [.bool true, .int .i64 most, .int .i64 (↑(usedN (List.map Ob.n l)) : Int), .slice a l.length c], row 43 2 a l.length c (List.flatMap objC l), star (List.map obRow l), ro oa (List.flatMap valC cells), gWords, .blk g1 28 [.int .i64 0, .int .i64 0, .string ⟨#[]⟩], .blk g2 43 [.string (mkS tag), .slice oa cells.length oc]] [] (by kernel_rfl) (by kernel_rfl) trivial ?_
  refine wpr_nil (nx_then ?_)
  refine wpc_false (by kernel_rfl) ?_
  refine wpc_seq ?_
  refine wpc_draw (by kernel_rfl) [.blk g 59 [.bool true, .int .i64 most, .int .i64 (↑(usedN (List.map Ob.n l)) : Int), .slice a l.length c], .blk g2 43 [.string (mkS tag), .slice oa cells.length oc]] (sub_of [0, 6] (by kernel_rfl)) 9 (by kernel_rfl) ?_
  refine wpa_take true [(0, [1, 1]), (1, []), (2, []), (3, []), (4, [0]), (5, [])] [(23, .int .i64 (↑l.length : Int)), (18, .agg #[.string (mkS tag), .slice oa cells.length oc]), (8, .pointer (some ⟨g2, 0, none⟩)), (7, .int .i64 0), (6, .pointer (some ⟨g1, 0, none⟩)), (0, .pointer (some ⟨g, 0, none⟩))] (#[true, true, true, true, true, true, false, false, false]) [] (n := 3) (by kernel_rfl) (by kernel_rfl) (by kernel_rfl) trivial ?_
  refine wpa_call (i := 6) (n := 2) (dst := some 24) (rest := [.blk g 59 [.bool true, .int .i64 most, .int .i64 (↑(usedN (List.map Ob.n l)) : Int), .slice a l.length c], row 43 2 a l.length c (List.flatMap objC l), star (List.map obRow l), ro oa (List.flatMap valC cells), gWords, .blk g1 28 [.int .i64 0, .int .i64 0, .string ⟨#[]⟩], .blk g2 43 [.string (mkS tag), .slice oa cells.length oc]]) (by kernel_rfl) (by kernel_rfl) (hfit) (Give.view (c := (ro oa (List.flatMap valC cells))) (Give.view (c := gWords) (give (pre := []) (rest := [.blk g 59 [.bool true, .int .i64 most, .int .i64 (↑(usedN (List.map Ob.n l)) : Int), .slice a l.length c], row 43 2 a l.length c (List.flatMap objC l), star (List.map obRow l), ro oa (List.flatMap valC cells), gWords, .blk g1 28 [.int .i64 0, .int .i64 0, .string ⟨#[]⟩], .blk g2 43 [.string (mkS tag), .slice oa cells.length oc]]) [] (by kernel_rfl)) 4 (by kernel_rfl) view_ro) 3 (by kernel_rfl) view_ro) (sub_of [0, 6] (by kernel_rfl)) ?_
  rintro v _ ⟨rfl, rfl⟩
  cases hob : objB l.length tag cells with
  | false =>
    refine wpa_take true [(7, []), (8, [])] [(17, .bool true), (8, .pointer (some ⟨g2, 0, none⟩)), (7, .int .i64 0), (6, .pointer (some ⟨g1, 0, none⟩)), (0, .pointer (some ⟨g, 0, none⟩))] (#[true, true, true, true, true, true, true, true, true]) [] (n := 0) (by kernel_rfl) (by kernel_rfl) (by kernel_rfl) trivial ?_
    refine wpa_done 0 (by kernel_rfl) ?_
    refine nx_then ?_
    refine wpc_true (by kernel_rfl) ?_
    refine wpc_seq ?_
    refine wpc_region [0, 1, 2] (by kernel_rfl) ?_
    refine wpr_run (l₂ := []) true [0, 1, 2] [5, 5, 5] [(7, .int .i64 2), (6, .pointer (some ⟨g1, 0, none⟩)), (0, .pointer (some ⟨g, 0, none⟩))] [.blk g 59 [.bool true, .int .i64 most, .int .i64 (↑(usedN (List.map Ob.n l)) : Int), .slice a l.length c], row 43 2 a l.length c (List.flatMap objC l), star (List.map obRow l), ro oa (List.flatMap valC cells), gWords, .blk g1 28 [.int .i64 0, .int .i64 0, .string ⟨#[]⟩], .blk g2 43 [.string (mkS tag), .slice oa cells.length oc]] [] (by kernel_rfl) (by kernel_rfl) trivial ?_
    refine wpr_nil (nx_then ?_)
    refine wpc_ret ?_
    refine nx_block_ret ?_
    refine nx_then_ret ?_
    refine nx_end (hp' := [.blk g 59 [.bool true, .int .i64 most, .int .i64 (↑(usedN (List.map Ob.n l)) : Int), .slice a l.length c], row 43 2 a l.length c (List.flatMap objC l), star (List.map obRow l)]) (rest := [ro oa (List.flatMap valC cells), gWords, .blk g1 28 [.int .i64 0, .int .i64 0, .string ⟨#[]⟩], .blk g2 43 [.string (mkS tag), .slice oa cells.length oc]]) [5, 5, 5] ((Value.tuple #[.agg #[.int .i64 0, .int .i64 0, .string ⟨#[]⟩], .int .i64 2])) (by kernel_rfl) (by kernel_rfl) (give [0, 0, 0] (by kernel_rfl)) (by first | ((repeat (first | exact trivial | refine ⟨trivial, ?_⟩)); done) | assumption) ?_ (.inr rfl)
    rw [if_neg (by simp)]
    exact ⟨rfl, rfl⟩
  | true =>
    refine wpa_take true [(7, []), (8, [])] [(17, .bool false), (8, .pointer (some ⟨g2, 0, none⟩)), (7, .int .i64 0), (6, .pointer (some ⟨g1, 0, none⟩)), (0, .pointer (some ⟨g, 0, none⟩))] (#[true, true, true, true, true, true, true, true, true]) [] (n := 0) (by kernel_rfl) (by kernel_rfl) (by kernel_rfl) trivial ?_
    refine wpa_done 0 (by kernel_rfl) ?_
    refine nx_then ?_
    refine wpc_false (by kernel_rfl) ?_
    refine wpc_seq ?_
    refine wpc_region [0, 1, 2, 3, 4] (by kernel_rfl) ?_
    refine wpr_run (l₂ := [2, 3, 4]) true [0, 1] [6, 6] [(29, .agg #[.string (mkS tag), .slice oa cells.length oc]), (28, .pointer (some ⟨g, 0, none⟩)), (7, .int .i64 0), (6, .pointer (some ⟨g1, 0, none⟩)), (0, .pointer (some ⟨g, 0, none⟩))] [.blk g 59 [.bool true, .int .i64 most, .int .i64 (↑(usedN (List.map Ob.n l)) : Int), .slice a l.length c], row 43 2 a l.length c (List.flatMap objC l), star (List.map obRow l), ro oa (List.flatMap valC cells), gWords, .blk g1 28 [.int .i64 0, .int .i64 0, .string ⟨#[]⟩], .blk g2 43 [.string (mkS tag), .slice oa cells.length oc]] [] (by kernel_rfl) (by kernel_rfl) trivial ?_
    refine wpr_call (dst := some 30) (rest := [ro oa (List.flatMap valC cells), gWords, .blk g1 28 [.int .i64 0, .int .i64 0, .string ⟨#[]⟩], .blk g2 43 [.string (mkS tag), .slice oa cells.length oc]]) (by kernel_rfl) (hput) (Give.reorder (Give.view (c := (ro oa (List.flatMap valC cells))) (give (pre := [.blk g 59 [.bool true, .int .i64 most, .int .i64 (↑(usedN (List.map Ob.n l)) : Int), .slice a l.length c], row 43 2 a l.length c (List.flatMap objC l), star (List.map obRow l)]) (rest := [ro oa (List.flatMap valC cells), gWords, .blk g1 28 [.int .i64 0, .int .i64 0, .string ⟨#[]⟩], .blk g2 43 [.string (mkS tag), .slice oa cells.length oc]]) [0, 0, 0] (by kernel_rfl)) 0 (by kernel_rfl) view_ro) [1, 1, 1, 0] (by kernel_rfl)) ?_
    intro v hp' h
    by_cases hf : (cells.length : Int) < most - usedN (l.map Ob.n)
    · rw [if_pos hf] at h
      obtain ⟨a2, c2, o, rfl, h1, h2, rfl⟩ := h
      have hl2 : (l ++ [o]).length = l.length + 1 := by simp
      refine wpr_run (l₂ := []) true [3, 4] [] [(27, .bool false), (7, .int .i64 0), (6, .pointer (some ⟨g1, 0, none⟩)), (0, .pointer (some ⟨g, 0, none⟩))] ([.blk g 59 [.bool true, .int .i64 most, .int .i64 (↑(usedN (List.map Ob.n (l ++ [o]))) : Int), .slice a2 (l ++ [o]).length c2], row 43 2 a2 (l ++ [o]).length c2 (List.flatMap objC (l ++ [o])), star (List.map obRow (l ++ [o])), ro oa (List.flatMap valC cells), gWords, .blk g1 28 [.int .i64 0, .int .i64 0, .string ⟨#[]⟩], .blk g2 43 [.string (mkS tag), .slice oa cells.length oc]]) [] (by kernel_rfl) (by kernel_rfl) trivial ?_
      refine wpr_nil (nx_then ?_)
      refine wpc_false (by kernel_rfl) ?_
      refine wpc_skip ?_
      refine nx_block (nx_then (wpc_seq ?_))
      refine wpc_region [0, 1, 2, 3, 4, 5, 6, 7, 8] (by kernel_rfl) ?_
      refine wpr_run (l₂ := []) true [0, 1, 2, 3, 4, 5, 6, 7, 8] [0, 5, 5, 5] [(7, .int .i64 0), (6, .pointer (some ⟨g1, 0, none⟩))] ([.blk g 59 [.bool true, .int .i64 most, .int .i64 (↑(usedN (List.map Ob.n (l ++ [o]))) : Int), .slice a2 (l ++ [o]).length c2], row 43 2 a2 (l ++ [o]).length c2 (List.flatMap objC (l ++ [o])), star (List.map obRow (l ++ [o])), ro oa (List.flatMap valC cells), gWords, .blk g1 28 [.int .i64 4, .int .i64 ((↑(l ++ [o]).length : Int) - 1), .string ⟨#[]⟩], .blk g2 43 [.string (mkS tag), .slice oa cells.length oc]]) ([inI64 ((↑(l ++ [o]).length : Int) - (1 : Int))]) (by kernel_rfl) (by kernel_rfl) ⟨by unfold inI64; omega, trivial⟩ ?_
      refine wpr_nil (nx_then ?_)
      refine wpc_ret ?_
      refine nx_end (hp' := ([.blk g 59 [.bool true, .int .i64 most, .int .i64 (↑(usedN (List.map Ob.n (l ++ [o]))) : Int), .slice a2 (l ++ [o]).length c2], row 43 2 a2 (l ++ [o]).length c2 (List.flatMap objC (l ++ [o])), star (List.map obRow (l ++ [o]))])) (rest := ([ro oa (List.flatMap valC cells), gWords, .blk g1 28 [.int .i64 4, .int .i64 ((↑(l ++ [o]).length : Int) - 1), .string ⟨#[]⟩], .blk g2 43 [.string (mkS tag), .slice oa cells.length oc]])) [5, 5, 5] ((Value.tuple #[.agg #[.int .i64 4, .int .i64 ((↑(l ++ [o]).length : Int) - 1), .string ⟨#[]⟩], .int .i64 0])) (by kernel_rfl) (by kernel_rfl) (give [0, 0, 0] (by kernel_rfl)) (by first | ((repeat (first | exact trivial | refine ⟨trivial, ?_⟩)); done) | assumption) ?_ (.inr rfl)
      rw [if_pos ⟨rfl, hf⟩]
      exact ⟨a2, c2, o, by rw [hl2]; simp [valV, atV]; rfl, h1, h2, rfl⟩
    · rw [if_neg hf] at h
      obtain ⟨rfl, rfl⟩ := h
      refine wpr_run (l₂ := []) true [3, 4] [] [(27, .bool true), (7, .int .i64 0), (6, .pointer (some ⟨g1, 0, none⟩)), (0, .pointer (some ⟨g, 0, none⟩))] [.blk g 59 [.bool true, .int .i64 most, .int .i64 (↑(usedN (List.map Ob.n l)) : Int), .slice a l.length c], row 43 2 a l.length c (List.flatMap objC l), star (List.map obRow l), ro oa (List.flatMap valC cells), gWords, .blk g1 28 [.int .i64 0, .int .i64 0, .string ⟨#[]⟩], .blk g2 43 [.string (mkS tag), .slice oa cells.length oc]] [] (by kernel_rfl) (by kernel_rfl) trivial ?_
      refine wpr_nil (nx_then ?_)
      refine wpc_true (by kernel_rfl) ?_
      refine wpc_seq ?_
      refine wpc_region [0, 1, 2] (by kernel_rfl) ?_
      refine wpr_run (l₂ := []) true [0, 1, 2] [5, 5, 5] [(7, .int .i64 12), (6, .pointer (some ⟨g1, 0, none⟩)), (0, .pointer (some ⟨g, 0, none⟩))] [.blk g 59 [.bool true, .int .i64 most, .int .i64 (↑(usedN (List.map Ob.n l)) : Int), .slice a l.length c], row 43 2 a l.length c (List.flatMap objC l), star (List.map obRow l), ro oa (List.flatMap valC cells), gWords, .blk g1 28 [.int .i64 0, .int .i64 0, .string ⟨#[]⟩], .blk g2 43 [.string (mkS tag), .slice oa cells.length oc]] [] (by kernel_rfl) (by kernel_rfl) trivial ?_
      refine wpr_nil (nx_then ?_)
      refine wpc_ret ?_
      refine nx_block_ret ?_
      refine nx_then_ret ?_
      refine nx_end (hp' := [.blk g 59 [.bool true, .int .i64 most, .int .i64 (↑(usedN (List.map Ob.n l)) : Int), .slice a l.length c], row 43 2 a l.length c (List.flatMap objC l), star (List.map obRow l)]) (rest := [ro oa (List.flatMap valC cells), gWords, .blk g1 28 [.int .i64 0, .int .i64 0, .string ⟨#[]⟩], .blk g2 43 [.string (mkS tag), .slice oa cells.length oc]]) [5, 5, 5] ((Value.tuple #[.agg #[.int .i64 0, .int .i64 0, .string ⟨#[]⟩], .int .i64 12])) (by kernel_rfl) (by kernel_rfl) (give [0, 0, 0] (by kernel_rfl)) (by first | ((repeat (first | exact trivial | refine ⟨trivial, ?_⟩)); done) | assumption) ?_ (.inr rfl)
      rw [if_neg (fun h => hf h.2)]
      exact ⟨rfl, rfl⟩
end Go.Proofs.YtpfhleghgkeemaaGreatDoor
