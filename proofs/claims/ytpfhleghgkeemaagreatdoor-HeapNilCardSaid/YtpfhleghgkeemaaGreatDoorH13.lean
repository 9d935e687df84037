import Derived.Test.YtpfhleghgkeemaaGreatDoorH12
import Derived.Test.YtpfhleghgkeemaaGreatDoorY2
namespace Go.Proofs.YtpfhleghgkeemaaGreatDoor
open Go Go.Sx
set_option linter.unusedVariables false
set_option linter.unusedSimpArgs false

def noV : V := ⟨0, 0, []⟩
def atV (n : Nat) : V := ⟨4, n, []⟩
theorem Alloc_spec (g : Nat) (most : Int) (a : Option Addr) (c : Nat) (l : List Ob) (tag : List UInt8) (cells : List V) (oa : Option Addr) (oc : Nat) (hm : 0 ≤ most ∧ most ≤ 4096) (hu : (usedN (l.map Ob.n) : Int) ≤ most) (hl : l.length ≤ 4096) (ha : oa = none → cells = []) (hlc : cells.length ≤ oc) (hcl : cells.length ≤ 1048576) (ht : tag.length ≤ 1048576) (hs : smL cells) :
    Does Tryz.prog 18 [.pointer (some ⟨g, 0, none⟩), .string (mkS tag), .slice oa cells.length oc] [heapB g most (usedN (l.map Ob.n)) a l.length c, heapR a c l, heapS l, ro oa (cells.flatMap valC), gWords]
      (fun v hp' => if objB l.length tag cells = true ∧ (cells.length : Int) < most - usedN (l.map Ob.n) then ∃ a' c' o, v = .tuple #[valV (atV l.length), .int .i64 0] ∧ o.tag = tag ∧ o.cells = cells ∧ hp' = [heapB g most (usedN ((l ++ [o]).map Ob.n)) a' (l ++ [o]).length c', heapR a' c' (l ++ [o]), heapS (l ++ [o])]
        else v = .tuple #[valV noV, .int .i64 (if objB l.length tag cells then 12 else 2)] ∧ hp' = [heapB g most (usedN (l.map Ob.n)) a l.length c, heapR a c l, heapS l]) := by
  have hfit := fit_spec tag cells oa oc l.length ht hcl hs
  have hput := put_spec g most a c l tag cells oa oc hm hu hl ha hlc hcl
  unfold heapB heapR heapS at hput ⊢
  refine fn_enter Tryz.func18 rfl 40 rfl fun w0 h0 => ?_
  refine SQ (RG ?_)
  refine RP [] (.d .a) 6 .a (.i (.blk g 59 [.bool true, .int .i64 most, .int .i64 (↑(usedN (List.map Ob.n l)) : Int), .slice a l.length c]) (.d (.k .a))) 28 [.int .i64 0, .int .i64 0, .string ⟨#[]⟩] fun g1 => ?_
  refine RR [] .z (.i 7 (.int .i64 0) .a) (.i (.blk g 59 [.bool true, .int .i64 most, .int .i64 (↑(usedN (List.map Ob.n l)) : Int), .slice a l.length c]) (.d (.k (.k (.k (.k (.i (.blk g1 28 [.int .i64 0, .int .i64 0, .string ⟨#[]⟩]) .z))))))) ?_
  refine RZ (NT (SQ (RG ?_)))
  refine RP [] (.d (.d (.d (.d .a)))) 8 (.i 11 (.agg #[.string (mkS tag), .slice oa cells.length oc]) (.k (.k (.k .z)))) (.i (.blk g 59 [.bool true, .int .i64 most, .int .i64 (↑(usedN (List.map Ob.n l)) : Int), .slice a l.length c]) (.d (.k (.k (.k (.k (.i (.blk g1 28 [.int .i64 0, .int .i64 0, .string ⟨#[]⟩]) .z))))))) 43 [.string ⟨#[]⟩, .slice none 0 0] fun g2 => ?_
  refine RR [6, 6] .z (.k (.d (.k .a))) (.i (.blk g 59 [.bool true, .int .i64 most, .int .i64 (↑(usedN (List.map Ob.n l)) : Int), .slice a l.length c]) (.d (.k (.k (.k (.k (.i (.blk g1 28 [.int .i64 0, .int .i64 0, .string ⟨#[]⟩]) (.i (.blk g2 43 [.string (mkS tag), .slice oa cells.length oc]) .z)))))))) ?_
  refine RZ (NT (SQ (BK (SQ (RG ?_)))))
  refine RR [] (.d .a) (.i 13 (.pointer (some ⟨g, 0, none⟩)) .a) (.i (.blk g 59 [.bool true, .int .i64 most, .int .i64 (↑(usedN (List.map Ob.n l)) : Int), .slice a l.length c]) (.d (.k (.k (.k (.k (.i (.blk g1 28 [.int .i64 0, .int .i64 0, .string ⟨#[]⟩]) (.i (.blk g2 43 [.string (mkS tag), .slice oa cells.length oc]) .z)))))))) ?_
  refine RC (dst := some 14) [0] (.d (.k (.k (.k (.k (.i (.blk g1 28 [.int .i64 0, .int .i64 0, .string ⟨#[]⟩]) (.i (.blk g2 43 [.string (mkS tag), .slice oa cells.length oc]) .z))))))) (is_spec g (.int .i64 most) (.int .i64 (usedN (l.map Ob.n) : Nat)) (.slice a l.length c)) ?_
  rintro v _ ⟨rfl, rfl⟩
  refine RR [] .z (.i 12 (.bool false) (.d (.d (.k .a)))) (.i (.blk g 59 [.bool true, .int .i64 most, .int .i64 (↑(usedN (List.map Ob.n l)) : Int), .slice a l.length c]) (.d (.k (.k (.k (.k (.i (.blk g1 28 [.int .i64 0, .int .i64 0, .string ⟨#[]⟩]) (.i (.blk g2 43 [.string (mkS tag), .slice oa cells.length oc]) .z)))))))) ?_
  refine RZ (NT (CF (SQ ?_)))
  refine wpc_draw (by kernel_rfl) [.blk g 59 [.bool true, .int .i64 most, .int .i64 (↑(usedN (List.map Ob.n l)) : Int), .slice a l.length c], .blk g2 43 [.string (mkS tag), .slice oa cells.length oc]] (sub_of [0, 6] (by kernel_rfl)) 9 (by kernel_rfl) ?_
  refine TK 3 [(0, [1, 1]), (1, []), (2, []), (3, []), (4, [0]), (5, [])] (.i 23 (.int .i64 (↑l.length : Int)) (.i 18 (.agg #[.string (mkS tag), .slice oa cells.length oc]) (.d (.k .a)))) (#[true, true, true, true, true, true, false, false, false]) ?_
  refine AC (dst := some 24) 2 6 (.i (.blk g 59 [.bool true, .int .i64 most, .int .i64 (↑(usedN (List.map Ob.n l)) : Int), .slice a l.length c]) (.d (.k (.k (.k (.k (.i (.blk g1 28 [.int .i64 0, .int .i64 0, .string ⟨#[]⟩]) (.i (.blk g2 43 [.string (mkS tag), .slice oa cells.length oc]) .z)))))))) (hfit) (GV (GV (GI []) 4 view_ro) 3 view_ro) [0, 6] ?_
  rintro v _ ⟨rfl, rfl⟩
  cases hob : objB l.length tag cells with
  | false =>
    refine TK 0 [(7, []), (8, [])] (.i 17 (.bool true) (.d (.d (.d (.k .a))))) (#[true, true, true, true, true, true, true, true, true]) ?_
    refine wpa_done 0 (by kernel_rfl) ?_
    refine NT (CT (SQ (RG ?_)))
    refine RR [5, 5, 5] .z (.i 7 (.int .i64 2) (.d (.d (.d (.k .a))))) (.i (.blk g 59 [.bool true, .int .i64 most, .int .i64 (↑(usedN (List.map Ob.n l)) : Int), .slice a l.length c]) (.d (.k (.k (.k (.k (.i (.blk g1 28 [.int .i64 0, .int .i64 0, .string ⟨#[]⟩]) (.i (.blk g2 43 [.string (mkS tag), .slice oa cells.length oc]) .z)))))))) ?_
    refine RZ (NT (RE (BR (TR ?_))))
    refine NE [0, 0, 0] (.i (.blk g 59 [.bool true, .int .i64 most, .int .i64 (↑(usedN (List.map Ob.n l)) : Int), .slice a l.length c]) (.d (.k (.k .z)))) (.d (.d (.d (.k (.k (.i (.blk g1 28 [.int .i64 0, .int .i64 0, .string ⟨#[]⟩]) (.i (.blk g2 43 [.string (mkS tag), .slice oa cells.length oc]) .z))))))) [5, 5, 5] (.tuple #[.agg #[.int .i64 0, .int .i64 0, .string ⟨#[]⟩], .int .i64 2]) ?_
    rw [if_neg (by simp)]
    exact ⟨rfl, rfl⟩
  | true =>
    refine TK 0 [(7, []), (8, [])] (.i 17 (.bool false) (.d (.d (.d (.k .a))))) (#[true, true, true, true, true, true, true, true, true]) ?_
    refine wpa_done 0 (by kernel_rfl) ?_
    refine NT (CF (SQ (RG ?_)))
    refine RR [6, 6] (.d (.d .a)) (.i 29 (.agg #[.string (mkS tag), .slice oa cells.length oc]) (.i 28 (.pointer (some ⟨g, 0, none⟩)) (.d (.d (.k .a))))) (.i (.blk g 59 [.bool true, .int .i64 most, .int .i64 (↑(usedN (List.map Ob.n l)) : Int), .slice a l.length c]) (.d (.k (.k (.k (.k (.i (.blk g1 28 [.int .i64 0, .int .i64 0, .string ⟨#[]⟩]) (.i (.blk g2 43 [.string (mkS tag), .slice oa cells.length oc]) .z)))))))) ?_
    refine RCG (dst := some 30) (.d (.d (.d (.k (.k (.i (.blk g1 28 [.int .i64 0, .int .i64 0, .string ⟨#[]⟩]) (.i (.blk g2 43 [.string (mkS tag), .slice oa cells.length oc]) .z))))))) (hput) (GO (GV (GJ [0, 0, 0]) 0 view_ro) [1, 1, 1, 0]) ?_
    intro v hp' h
    by_cases hf : (cells.length : Int) < most - usedN (l.map Ob.n)
    · rw [if_pos hf] at h
      obtain ⟨a2, c2, o, rfl, h1, h2, rfl⟩ := h
      have hl2 : (l ++ [o]).length = l.length + 1 := by simp
      refine RR [] .z (.i 27 (.bool false) (.d (.d (.d (.k .a))))) (.i (.blk g 59 [.bool true, .int .i64 most, .int .i64 (↑(usedN (List.map Ob.n (l ++ [o]))) : Int), .slice a2 (l ++ [o]).length c2]) (.d (.k (.k (.k (.k (.i (.blk g1 28 [.int .i64 0, .int .i64 0, .string ⟨#[]⟩]) (.i (.blk g2 43 [.string (mkS tag), .slice oa cells.length oc]) .z)))))))) ?_
      refine RZ (NT (CF (SK (BN (NT (SQ (RG ?_)))))))
      refine RV true [0, 5, 5, 5] .z (.d (.k (.k .z))) (.i (.blk g 59 [.bool true, .int .i64 most, .int .i64 (↑(usedN (List.map Ob.n (l ++ [o]))) : Int), .slice a2 (l ++ [o]).length c2]) (.d (.k (.k (.k (.k (.i (.blk g1 28 [.int .i64 4, .int .i64 ((↑(l ++ [o]).length : Int) - 1), .string ⟨#[]⟩]) (.i (.blk g2 43 [.string (mkS tag), .slice oa cells.length oc]) .z)))))))) ([inI64 ((↑(l ++ [o]).length : Int) - (1 : Int))]) ⟨by unfold inI64; omega, trivial⟩ ?_
      refine RZ (NT (RE ?_))
      refine NE [0, 0, 0] (.i (.blk g 59 [.bool true, .int .i64 most, .int .i64 (↑(usedN (List.map Ob.n (l ++ [o]))) : Int), .slice a2 (l ++ [o]).length c2]) (.d (.k (.k .z)))) (.d (.d (.d (.k (.k (.i (.blk g1 28 [.int .i64 4, .int .i64 ((↑(l ++ [o]).length : Int) - 1), .string ⟨#[]⟩]) (.i (.blk g2 43 [.string (mkS tag), .slice oa cells.length oc]) .z))))))) [5, 5, 5] (.tuple #[.agg #[.int .i64 4, .int .i64 ((↑(l ++ [o]).length : Int) - 1), .string ⟨#[]⟩], .int .i64 0]) ?_
      rw [if_pos ⟨rfl, hf⟩]
      exact ⟨a2, c2, o, by rw [hl2]; simp [valV, atV]; rfl, h1, h2, rfl⟩
    · rw [if_neg hf] at h
      obtain ⟨rfl, rfl⟩ := h
      refine RR [] .z (.i 27 (.bool true) (.d (.d (.d (.k .a))))) (.i (.blk g 59 [.bool true, .int .i64 most, .int .i64 (↑(usedN (List.map Ob.n l)) : Int), .slice a l.length c]) (.d (.k (.k (.k (.k (.i (.blk g1 28 [.int .i64 0, .int .i64 0, .string ⟨#[]⟩]) (.i (.blk g2 43 [.string (mkS tag), .slice oa cells.length oc]) .z)))))))) ?_
      refine RZ (NT (CT (SQ (RG ?_))))
      refine RR [5, 5, 5] .z (.i 7 (.int .i64 12) (.d (.d (.k .a)))) (.i (.blk g 59 [.bool true, .int .i64 most, .int .i64 (↑(usedN (List.map Ob.n l)) : Int), .slice a l.length c]) (.d (.k (.k (.k (.k (.i (.blk g1 28 [.int .i64 0, .int .i64 0, .string ⟨#[]⟩]) (.i (.blk g2 43 [.string (mkS tag), .slice oa cells.length oc]) .z)))))))) ?_
      refine RZ (NT (RE (BR (TR ?_))))
      refine NE [0, 0, 0] (.i (.blk g 59 [.bool true, .int .i64 most, .int .i64 (↑(usedN (List.map Ob.n l)) : Int), .slice a l.length c]) (.d (.k (.k .z)))) (.d (.d (.d (.k (.k (.i (.blk g1 28 [.int .i64 0, .int .i64 0, .string ⟨#[]⟩]) (.i (.blk g2 43 [.string (mkS tag), .slice oa cells.length oc]) .z))))))) [5, 5, 5] (.tuple #[.agg #[.int .i64 0, .int .i64 0, .string ⟨#[]⟩], .int .i64 12]) ?_
      rw [if_neg (fun h => hf h.2)]
      exact ⟨rfl, rfl⟩
end Go.Proofs.YtpfhleghgkeemaaGreatDoor
