import Derived.Test.YtolmjhhldbnkdaaD2
import Derived.Test.YtolmjhhldbnkdaaX8
namespace Go.Proofs.Ytolmjhhldbnkdaa
open Go Go.Sx
set_option linter.unusedVariables false
set_option linter.unusedSimpArgs false

theorem Sync_spec (d : Nat) (a : Option Addr) (c : Nat) (s : Int) (bs : List UInt8) :
    Does Try.prog 9 [.pointer (some ⟨d, 0, none⟩)] [dblk d a bs.length c s, row 5 1 a bs.length c (u8s bs)]
      (fun v hp' => v = .int .i64 0 ∧ hp' = DH d a c bs bs.length) := by
  refine fn_enter Try.func9 rfl 6 rfl fun w0 h0 => ?_
  refine wpc_seq ?_
  refine wpc_region [0, 1] (by kernel_rfl) ?_
  refine wpr_new (l₂ := [1]) true [0] [] (fun g1 => [(1, Value.pointer (some { block := g1, off := 0 }))]) (fun g1 => [Ch.blk d 46 [Value.bool true, Value.slice a bs.length c, Value.int IntKind.i64 s], row 5 1 a bs.length c (u8s bs), Ch.blk g1 23 [Value.pointer (some { block := d, off := 0 })]]) (fun g1 => []) (fun g1 => by kernel_rfl) (fun g1 => by kernel_rfl) (fun g1 => trivial) fun g1 => ?_
  refine wpr_run (l₂ := []) true [1] [] [(2, Value.int IntKind.i64 0), (1, Value.pointer (some { block := g1, off := 0 }))] [Ch.blk d 46 [Value.bool true, Value.slice a bs.length c, Value.int IntKind.i64 s], row 5 1 a bs.length c (u8s bs), Ch.blk g1 23 [Value.pointer (some { block := d, off := 0 })]] [] (by kernel_rfl) (by kernel_rfl) trivial ?_
  refine wpr_nil ?_
  refine nx_then ?_
  refine wpc_seq ?_
  refine wpc_region [0, 1, 2, 3] (by kernel_rfl) ?_
  refine wpr_run (l₂ := [2, 3]) true [0, 1] [2] [(4, Value.func (Fn.func 23) #[] #[Value.pointer (some { block := g1, off := 0 })]), (3, Value.pointer (some { block := d, off := 0 })), (2, Value.int IntKind.i64 0)] [Ch.blk d 46 [Value.bool true, Value.slice a bs.length c, Value.int IntKind.i64 s], row 5 1 a bs.length c (u8s bs), Ch.blk g1 23 [Value.pointer (some { block := d, off := 0 })]] [] (by kernel_rfl) (by kernel_rfl) trivial ?_
  refine wpr_call_all (dst := some 5) (by kernel_rfl) (with23 d a bs.length c s g1 [row 5 1 a bs.length c (u8s bs), .blk g1 23 [.pointer (some ⟨d, 0, none⟩)]] (fun hp' => hp' = DH d a c bs bs.length) (by rintro _ rfl; exact ⟨trivial, trivial, trivial⟩) (sync1 d g1 a c s bs)) give_all ?_
  rintro v hp' ⟨rfl, rfl⟩
  refine wpr_run (l₂ := []) true [3] [] [(2, Value.int IntKind.i64 0)] [Ch.blk d 46 [Value.bool true, Value.slice a bs.length c, Value.int IntKind.i64 (↑bs.length : Int)], row 5 1 a bs.length c (u8s bs)] [] (by kernel_rfl) (by kernel_rfl) trivial ?_
  refine wpr_nil ?_
  refine nx_then ?_
  refine wpc_ret ?_
  refine nx_end (hp' := [Ch.blk d 46 [Value.bool true, Value.slice a bs.length c, Value.int IntKind.i64 (↑bs.length : Int)], row 5 1 a bs.length c (u8s bs)]) (rest := []) [] ((Value.int IntKind.i64 0)) (by kernel_rfl) (by kernel_rfl) give_all (by first | ((repeat (first | exact trivial | refine ⟨trivial, ?_⟩)); done) | assumption) ?_ (.inr rfl)
  exact ⟨rfl, rfl⟩
theorem Crash_spec (d : Nat) (a : Option Addr) (c : Nat) (s keep : Int) (bs : List UInt8) (hs : 0 ≤ s) (hs2 : s ≤ bs.length) (hl : bs.length ≤ 140737488351232) (K : Nat) (hK : (K : Int) = s + max 0 (min keep (bs.length - s))) :
    Does Try.prog 10 [.pointer (some ⟨d, 0, none⟩), .int .i64 keep] [dblk d a bs.length c s, row 5 1 a bs.length c (u8s bs)]
      (fun v hp' => v = .int .i64 0 ∧ hp' = DH d a K (bs.take K) K) := by
  refine fn_enter Try.func10 rfl 8 rfl fun w0 h0 => ?_
  refine wpc_seq ?_
  refine wpc_region [0, 1, 2] (by kernel_rfl) ?_
  refine wpr_new (l₂ := [1, 2]) true [0] [] (fun g1 => [(2, Value.pointer (some { block := g1, off := 0 })), (1, Value.int IntKind.i64 keep)]) (fun g1 => [Ch.blk d 46 [Value.bool true, Value.slice a bs.length c, Value.int IntKind.i64 s], row 5 1 a bs.length c (u8s bs), Ch.blk g1 23 [Value.pointer (some { block := d, off := 0 })]]) (fun g1 => []) (fun g1 => by kernel_rfl) (fun g1 => by kernel_rfl) (fun g1 => trivial) fun g1 => ?_
  refine wpr_new (l₂ := [2]) true [1] [] (fun g2 => [(3, Value.pointer (some { block := g2, off := 0 })), (2, Value.pointer (some { block := g1, off := 0 }))]) (fun g2 => [Ch.blk d 46 [Value.bool true, Value.slice a bs.length c, Value.int IntKind.i64 s], row 5 1 a bs.length c (u8s bs), Ch.blk g1 23 [Value.pointer (some { block := d, off := 0 })], Ch.blk g2 3 [Value.int IntKind.i64 keep]]) (fun g2 => []) (fun g2 => by kernel_rfl) (fun g2 => by kernel_rfl) (fun g2 => trivial) fun g2 => ?_
  refine wpr_run (l₂ := []) true [2] [] [(4, Value.int IntKind.i64 0), (3, Value.pointer (some { block := g2, off := 0 })), (2, Value.pointer (some { block := g1, off := 0 }))] [Ch.blk d 46 [Value.bool true, Value.slice a bs.length c, Value.int IntKind.i64 s], row 5 1 a bs.length c (u8s bs), Ch.blk g1 23 [Value.pointer (some { block := d, off := 0 })], Ch.blk g2 3 [Value.int IntKind.i64 keep]] [] (by kernel_rfl) (by kernel_rfl) trivial ?_
  refine wpr_nil ?_
  refine nx_then ?_
  refine wpc_seq ?_
  refine wpc_region [0, 1, 2, 3] (by kernel_rfl) ?_
  refine wpr_run (l₂ := [2, 3]) true [0, 1] [2] [(6, Value.func (Fn.func 24) #[] #[Value.pointer (some { block := g1, off := 0 }), Value.pointer (some { block := g2, off := 0 })]), (5, Value.pointer (some { block := d, off := 0 })), (4, Value.int IntKind.i64 0)] [Ch.blk d 46 [Value.bool true, Value.slice a bs.length c, Value.int IntKind.i64 s], row 5 1 a bs.length c (u8s bs), Ch.blk g1 23 [Value.pointer (some { block := d, off := 0 })], Ch.blk g2 3 [Value.int IntKind.i64 keep]] [] (by kernel_rfl) (by kernel_rfl) trivial ?_
  refine wpr_call_all (dst := some 7) (by kernel_rfl) (with24 d a bs.length c s g1 g2 [row 5 1 a bs.length c (u8s bs), .blk g1 23 [.pointer (some ⟨d, 0, none⟩)], .blk g2 3 [.int .i64 keep]] (fun hp' => hp' = DH d a K (bs.take K) K) (by rintro _ rfl; exact ⟨trivial, trivial, trivial⟩) (crash1 d g1 g2 a c s keep bs hs hs2 hl K hK)) give_all ?_
  rintro v hp' ⟨rfl, rfl⟩
  refine wpr_run (l₂ := []) true [3] [] [(4, Value.int IntKind.i64 0)] [Ch.blk d 46 [Value.bool true, Value.slice a (List.take K bs).length K, Value.int IntKind.i64 (↑K : Int)], row 5 1 a (List.take K bs).length K (u8s (List.take K bs))] [] (by kernel_rfl) (by kernel_rfl) trivial ?_
  refine wpr_nil ?_
  refine nx_then ?_
  refine wpc_ret ?_
  refine nx_end (hp' := [Ch.blk d 46 [Value.bool true, Value.slice a (List.take K bs).length K, Value.int IntKind.i64 (↑K : Int)], row 5 1 a (List.take K bs).length K (u8s (List.take K bs))]) (rest := []) [] ((Value.int IntKind.i64 0)) (by kernel_rfl) (by kernel_rfl) give_all (by first | ((repeat (first | exact trivial | refine ⟨trivial, ?_⟩)); done) | assumption) ?_ (.inr rfl)
  exact ⟨rfl, rfl⟩
theorem Bytes_spec (d : Nat) (a : Option Addr) (c : Nat) (s : Int) (bs : List UInt8) (hl : bs.length ≤ 140737488351232) :
    Does Try.prog 11 [.pointer (some ⟨d, 0, none⟩)] [dblk d a bs.length c s, row 5 1 a bs.length c (u8s bs)]
      (fun v hp' => ∃ a' c', v = .slice a' bs.length c' ∧ hp' = DH d a c bs s ++ [row 5 1 a' bs.length c' (u8s bs)]) := by
  refine fn_enter Try.func11 rfl 8 rfl fun w0 h0 => ?_
  refine wpc_seq ?_
  refine wpc_region [0, 1] (by kernel_rfl) ?_
  refine wpr_new (l₂ := [1]) true [0] [] (fun g1 => [(1, Value.pointer (some { block := g1, off := 0 }))]) (fun g1 => [Ch.blk d 46 [Value.bool true, Value.slice a bs.length c, Value.int IntKind.i64 s], row 5 1 a bs.length c (u8s bs), Ch.blk g1 23 [Value.pointer (some { block := d, off := 0 })]]) (fun g1 => []) (fun g1 => by kernel_rfl) (fun g1 => by kernel_rfl) (fun g1 => trivial) fun g1 => ?_
  refine wpr_run (l₂ := []) true [1] [] [(2, Value.slice none 0 0), (1, Value.pointer (some { block := g1, off := 0 }))] [Ch.blk d 46 [Value.bool true, Value.slice a bs.length c, Value.int IntKind.i64 s], row 5 1 a bs.length c (u8s bs), Ch.blk g1 23 [Value.pointer (some { block := d, off := 0 })]] [] (by kernel_rfl) (by kernel_rfl) trivial ?_
  refine wpr_nil ?_
  refine nx_then ?_
  refine wpc_seq ?_
  refine wpc_region [0] (by kernel_rfl) ?_
  refine wpr_new (l₂ := []) true [0] [] (fun g2 => [(3, Value.pointer (some { block := g2, off := 0 })), (2, Value.slice none 0 0), (1, Value.pointer (some { block := g1, off := 0 }))]) (fun g2 => [Ch.blk d 46 [Value.bool true, Value.slice a bs.length c, Value.int IntKind.i64 s], row 5 1 a bs.length c (u8s bs), Ch.blk g1 23 [Value.pointer (some { block := d, off := 0 })], Ch.blk g2 22 [Value.slice none 0 0]]) (fun g2 => []) (fun g2 => by kernel_rfl) (fun g2 => by kernel_rfl) (fun g2 => trivial) fun g2 => ?_
  refine wpr_nil ?_
  refine nx_then ?_
  refine wpc_seq ?_
  refine wpc_region [0, 1, 2] (by kernel_rfl) ?_
  refine wpr_run (l₂ := [2]) true [0, 1] [2] [(5, Value.func (Fn.func 25) #[] #[Value.pointer (some { block := g1, off := 0 }), Value.pointer (some { block := g2, off := 0 })]), (4, Value.pointer (some { block := d, off := 0 })), (3, Value.pointer (some { block := g2, off := 0 })), (2, Value.slice none 0 0)] [Ch.blk d 46 [Value.bool true, Value.slice a bs.length c, Value.int IntKind.i64 s], row 5 1 a bs.length c (u8s bs), Ch.blk g1 23 [Value.pointer (some { block := d, off := 0 })], Ch.blk g2 22 [Value.slice none 0 0]] [] (by kernel_rfl) (by kernel_rfl) trivial ?_
  refine wpr_call_all (dst := some 6) (by kernel_rfl) (with25 d a bs.length c s g1 g2 [row 5 1 a bs.length c (u8s bs), .blk g1 23 [.pointer (some ⟨d, 0, none⟩)], .blk g2 22 [.slice none 0 0]] (fun hp' => ∃ a' c', hp' = DH d a c bs s ++ [.blk g2 22 [.slice a' bs.length c'], row 5 1 a' bs.length c' (u8s bs)]) (by rintro _ ⟨a', c', rfl⟩; exact ⟨trivial, trivial, trivial, trivial, trivial⟩) (bytes1 d g1 g2 a c s bs hl)) give_all ?_
  rintro v hp' ⟨rfl, a', c', rfl⟩
  refine wpr_nil ?_
  refine nx_then ?_
  refine wpc_seq ?_
  refine wpc_region [0, 1] (by kernel_rfl) ?_
  refine wpr_run (l₂ := []) true [0, 1] [2] [(2, Value.slice a' bs.length c')] [Ch.blk d 46 [Value.bool true, Value.slice a bs.length c, Value.int IntKind.i64 s], row 5 1 a bs.length c (u8s bs), Ch.blk g2 22 [Value.slice a' bs.length c'], row 5 1 a' bs.length c' (u8s bs)] [] (by kernel_rfl) (by kernel_rfl) trivial ?_
  refine wpr_nil ?_
  refine nx_then ?_
  refine wpc_ret ?_
  refine nx_end (hp' := [Ch.blk d 46 [Value.bool true, Value.slice a bs.length c, Value.int IntKind.i64 s], row 5 1 a bs.length c (u8s bs), row 5 1 a' bs.length c' (u8s bs)]) (rest := [Ch.blk g2 22 [Value.slice a' bs.length c']]) [] ((Value.slice a' bs.length c')) (by kernel_rfl) (by kernel_rfl) (give [0, 0, 1] (by kernel_rfl)) (by first | ((repeat (first | exact trivial | refine ⟨trivial, ?_⟩)); done) | assumption) ?_ (.inr rfl)
  exact ⟨a', c', rfl, rfl⟩
theorem Loose_spec (d : Nat) (a : Option Addr) (c : Nat) (s : Int) (bs : List UInt8) (hs : 0 ≤ s) (hs2 : s ≤ bs.length) (hl : bs.length ≤ 140737488351232) :
    Does Try.prog 19 [.pointer (some ⟨d, 0, none⟩)] [dblk d a bs.length c s, row 5 1 a bs.length c (u8s bs)]
      (fun v hp' => v = .int .i64 (bs.length - s) ∧ hp' = DH d a c bs s) := by
  refine fn_enter Try.func19 rfl 8 rfl fun w0 h0 => ?_
  refine wpc_seq ?_
  refine wpc_region [0, 1] (by kernel_rfl) ?_
  refine wpr_new (l₂ := [1]) true [0] [] (fun g1 => [(1, Value.pointer (some { block := g1, off := 0 }))]) (fun g1 => [Ch.blk d 46 [Value.bool true, Value.slice a bs.length c, Value.int IntKind.i64 s], row 5 1 a bs.length c (u8s bs), Ch.blk g1 23 [Value.pointer (some { block := d, off := 0 })]]) (fun g1 => []) (fun g1 => by kernel_rfl) (fun g1 => by kernel_rfl) (fun g1 => trivial) fun g1 => ?_
  refine wpr_run (l₂ := []) true [1] [] [(2, Value.int IntKind.i64 0), (1, Value.pointer (some { block := g1, off := 0 }))] [Ch.blk d 46 [Value.bool true, Value.slice a bs.length c, Value.int IntKind.i64 s], row 5 1 a bs.length c (u8s bs), Ch.blk g1 23 [Value.pointer (some { block := d, off := 0 })]] [] (by kernel_rfl) (by kernel_rfl) trivial ?_
  refine wpr_nil ?_
  refine nx_then ?_
  refine wpc_seq ?_
  refine wpc_region [0, 1] (by kernel_rfl) ?_
  refine wpr_new (l₂ := [1]) true [0] [] (fun g2 => [(3, Value.pointer (some { block := g2, off := 0 })), (2, Value.int IntKind.i64 0), (1, Value.pointer (some { block := g1, off := 0 }))]) (fun g2 => [Ch.blk d 46 [Value.bool true, Value.slice a bs.length c, Value.int IntKind.i64 s], row 5 1 a bs.length c (u8s bs), Ch.blk g1 23 [Value.pointer (some { block := d, off := 0 })], Ch.blk g2 3 [Value.int IntKind.i64 0]]) (fun g2 => []) (fun g2 => by kernel_rfl) (fun g2 => by kernel_rfl) (fun g2 => trivial) fun g2 => ?_
  refine wpr_run (l₂ := []) true [1] [3] [(3, Value.pointer (some { block := g2, off := 0 })), (2, Value.int IntKind.i64 0), (1, Value.pointer (some { block := g1, off := 0 }))] [Ch.blk d 46 [Value.bool true, Value.slice a bs.length c, Value.int IntKind.i64 s], row 5 1 a bs.length c (u8s bs), Ch.blk g1 23 [Value.pointer (some { block := d, off := 0 })], Ch.blk g2 3 [Value.int IntKind.i64 0]] [] (by kernel_rfl) (by kernel_rfl) trivial ?_
  refine wpr_nil ?_
  refine nx_then ?_
  refine wpc_seq ?_
  refine wpc_region [0, 1, 2] (by kernel_rfl) ?_
  refine wpr_run (l₂ := [2]) true [0, 1] [2] [(5, Value.func (Fn.func 29) #[] #[Value.pointer (some { block := g1, off := 0 }), Value.pointer (some { block := g2, off := 0 })]), (4, Value.pointer (some { block := d, off := 0 })), (3, Value.pointer (some { block := g2, off := 0 })), (2, Value.int IntKind.i64 0)] [Ch.blk d 46 [Value.bool true, Value.slice a bs.length c, Value.int IntKind.i64 s], row 5 1 a bs.length c (u8s bs), Ch.blk g1 23 [Value.pointer (some { block := d, off := 0 })], Ch.blk g2 3 [Value.int IntKind.i64 0]] [] (by kernel_rfl) (by kernel_rfl) trivial ?_
  refine wpr_call_all (dst := some 6) (by kernel_rfl) (with29 d a bs.length c s g1 g2 [row 5 1 a bs.length c (u8s bs), .blk g1 23 [.pointer (some ⟨d, 0, none⟩)], .blk g2 3 [.int .i64 0]] (fun hp' => hp' = DH d a c bs s ++ [.blk g2 3 [.int .i64 (bs.length - s)]]) (by rintro _ rfl; exact ⟨trivial, trivial, trivial, trivial⟩) (loose1 d g1 g2 a c s 0 bs hs hs2 hl)) give_all ?_
  rintro v hp' ⟨rfl, rfl⟩
  refine wpr_nil ?_
  refine nx_then ?_
  refine wpc_seq ?_
  refine wpc_region [0, 1] (by kernel_rfl) ?_
  refine wpr_run (l₂ := []) true [0, 1] [2] [(2, Value.int IntKind.i64 ((↑bs.length : Int) - s))] [Ch.blk d 46 [Value.bool true, Value.slice a bs.length c, Value.int IntKind.i64 s], row 5 1 a bs.length c (u8s bs), Ch.blk g2 3 [Value.int IntKind.i64 ((↑bs.length : Int) - s)]] [] (by kernel_rfl) (by kernel_rfl) trivial ?_
  refine wpr_nil ?_
  refine nx_then ?_
  refine wpc_ret ?_
  refine nx_end (hp' := [Ch.blk d 46 [Value.bool true, Value.slice a bs.length c, Value.int IntKind.i64 s], row 5 1 a bs.length c (u8s bs)]) (rest := [Ch.blk g2 3 [Value.int IntKind.i64 ((↑bs.length : Int) - s)]]) [] ((Value.int IntKind.i64 ((↑bs.length : Int) - s))) (by kernel_rfl) (by kernel_rfl) (give [0, 0] (by kernel_rfl)) (by first | ((repeat (first | exact trivial | refine ⟨trivial, ?_⟩)); done) | assumption) ?_ (.inr rfl)
  exact ⟨rfl, rfl⟩
theorem Copy_spec (d : Nat) (a : Option Addr) (c : Nat) (s : Int) (bs : List UInt8) (hl : bs.length ≤ 140737488351232) :
    Does Try.prog 15 [.pointer (some ⟨d, 0, none⟩)] [dblk d a bs.length c s, row 5 1 a bs.length c (u8s bs)]
      (fun v hp' => ∃ d' a' c', v = .pointer (some ⟨d', 0, none⟩) ∧ hp' = DH d a c bs s ++ DH d' a' c' bs s) := by
  refine fn_enter Try.func15 rfl 8 rfl fun w0 h0 => ?_
  refine wpc_seq ?_
  refine wpc_region [0, 1] (by kernel_rfl) ?_
  refine wpr_new (l₂ := [1]) true [0] [] (fun g1 => [(1, Value.pointer (some { block := g1, off := 0 }))]) (fun g1 => [Ch.blk d 46 [Value.bool true, Value.slice a bs.length c, Value.int IntKind.i64 s], row 5 1 a bs.length c (u8s bs), Ch.blk g1 23 [Value.pointer (some { block := d, off := 0 })]]) (fun g1 => []) (fun g1 => by kernel_rfl) (fun g1 => by kernel_rfl) (fun g1 => trivial) fun g1 => ?_
  refine wpr_run (l₂ := []) true [1] [] [(2, Value.pointer none), (1, Value.pointer (some { block := g1, off := 0 }))] [Ch.blk d 46 [Value.bool true, Value.slice a bs.length c, Value.int IntKind.i64 s], row 5 1 a bs.length c (u8s bs), Ch.blk g1 23 [Value.pointer (some { block := d, off := 0 })]] [] (by kernel_rfl) (by kernel_rfl) trivial ?_
  refine wpr_nil ?_
  refine nx_then ?_
  refine wpc_seq ?_
  refine wpc_region [0] (by kernel_rfl) ?_
  refine wpr_new (l₂ := []) true [0] [] (fun g2 => [(3, Value.pointer (some { block := g2, off := 0 })), (2, Value.pointer none), (1, Value.pointer (some { block := g1, off := 0 }))]) (fun g2 => [Ch.blk d 46 [Value.bool true, Value.slice a bs.length c, Value.int IntKind.i64 s], row 5 1 a bs.length c (u8s bs), Ch.blk g1 23 [Value.pointer (some { block := d, off := 0 })], Ch.blk g2 23 [Value.pointer none]]) (fun g2 => []) (fun g2 => by kernel_rfl) (fun g2 => by kernel_rfl) (fun g2 => trivial) fun g2 => ?_
  refine wpr_nil ?_
  refine nx_then ?_
  refine wpc_seq ?_
  refine wpc_region [0, 1, 2] (by kernel_rfl) ?_
  refine wpr_run (l₂ := [2]) true [0, 1] [2] [(5, Value.func (Fn.func 27) #[] #[Value.pointer (some { block := g1, off := 0 }), Value.pointer (some { block := g2, off := 0 })]), (4, Value.pointer (some { block := d, off := 0 })), (3, Value.pointer (some { block := g2, off := 0 })), (2, Value.pointer none)] [Ch.blk d 46 [Value.bool true, Value.slice a bs.length c, Value.int IntKind.i64 s], row 5 1 a bs.length c (u8s bs), Ch.blk g1 23 [Value.pointer (some { block := d, off := 0 })], Ch.blk g2 23 [Value.pointer none]] [] (by kernel_rfl) (by kernel_rfl) trivial ?_
  refine wpr_call_all (dst := some 6) (by kernel_rfl) (with27 d a bs.length c s g1 g2 [row 5 1 a bs.length c (u8s bs), .blk g1 23 [.pointer (some ⟨d, 0, none⟩)], .blk g2 23 [.pointer none]] (fun hp' => ∃ d' a' c', hp' = DH d a c bs s ++ [.blk g2 23 [.pointer (some ⟨d', 0, none⟩)]] ++ DH d' a' c' bs s) (by rintro _ ⟨d', a', c', rfl⟩; exact ⟨trivial, trivial, trivial, trivial, trivial, trivial⟩) (copy1 d g1 g2 a c s bs hl)) give_all ?_
  rintro v hp' ⟨rfl, d', a', c', rfl⟩
  refine wpr_nil ?_
  refine nx_then ?_
  refine wpc_seq ?_
  refine wpc_region [0, 1] (by kernel_rfl) ?_
  refine wpr_run (l₂ := []) true [0, 1] [2] [(2, Value.pointer (some { block := d', off := 0 }))] [Ch.blk d 46 [Value.bool true, Value.slice a bs.length c, Value.int IntKind.i64 s], row 5 1 a bs.length c (u8s bs), Ch.blk g2 23 [Value.pointer (some { block := d', off := 0 })], Ch.blk d' 46 [Value.bool true, Value.slice a' bs.length c', Value.int IntKind.i64 s], row 5 1 a' bs.length c' (u8s bs)] [] (by kernel_rfl) (by kernel_rfl) trivial ?_
  refine wpr_nil ?_
  refine nx_then ?_
  refine wpc_ret ?_
  refine nx_end (hp' := [Ch.blk d 46 [Value.bool true, Value.slice a bs.length c, Value.int IntKind.i64 s], row 5 1 a bs.length c (u8s bs), Ch.blk d' 46 [Value.bool true, Value.slice a' bs.length c', Value.int IntKind.i64 s], row 5 1 a' bs.length c' (u8s bs)]) (rest := [Ch.blk g2 23 [Value.pointer (some { block := d', off := 0 })]]) [] ((Value.pointer (some { block := d', off := 0 }))) (by kernel_rfl) (by kernel_rfl) (give [0, 0, 1, 1] (by kernel_rfl)) (by first | ((repeat (first | exact trivial | refine ⟨trivial, ?_⟩)); done) | assumption) ?_ (.inr rfl)
  exact ⟨d', a', c', rfl, rfl⟩
theorem Cut_bad (d : Nat) (a : Option Addr) (c : Nat) (s n : Int) (bs : List UInt8) (hn : n < 0 ∨ (bs.length : Int) < n) :
    Does Try.prog 17 [.pointer (some ⟨d, 0, none⟩), .int .i64 n] [dblk d a bs.length c s, row 5 1 a bs.length c (u8s bs)]
      (fun v hp' => v = .int .i64 2 ∧ hp' = DH d a c bs s) := by
  refine fn_enter Try.func17 rfl 14 rfl fun w0 h0 => ?_
  refine wpc_seq ?_
  refine wpc_region [0, 1, 2] (by kernel_rfl) ?_
  refine wpr_new (l₂ := [1, 2]) true [0] [] (fun g1 => [(2, Value.pointer (some { block := g1, off := 0 })), (1, Value.int IntKind.i64 n)]) (fun g1 => [Ch.blk d 46 [Value.bool true, Value.slice a bs.length c, Value.int IntKind.i64 s], row 5 1 a bs.length c (u8s bs), Ch.blk g1 23 [Value.pointer (some { block := d, off := 0 })]]) (fun g1 => []) (fun g1 => by kernel_rfl) (fun g1 => by kernel_rfl) (fun g1 => trivial) fun g1 => ?_
  refine wpr_new (l₂ := [2]) true [1] [] (fun g2 => [(3, Value.pointer (some { block := g2, off := 0 })), (2, Value.pointer (some { block := g1, off := 0 }))]) (fun g2 => [Ch.blk d 46 [Value.bool true, Value.slice a bs.length c, Value.int IntKind.i64 s], row 5 1 a bs.length c (u8s bs), Ch.blk g1 23 [Value.pointer (some { block := d, off := 0 })], Ch.blk g2 3 [Value.int IntKind.i64 n]]) (fun g2 => []) (fun g2 => by kernel_rfl) (fun g2 => by kernel_rfl) (fun g2 => trivial) fun g2 => ?_
  refine wpr_run (l₂ := []) true [2] [] [(4, Value.int IntKind.i64 0), (3, Value.pointer (some { block := g2, off := 0 })), (2, Value.pointer (some { block := g1, off := 0 }))] [Ch.blk d 46 [Value.bool true, Value.slice a bs.length c, Value.int IntKind.i64 s], row 5 1 a bs.length c (u8s bs), Ch.blk g1 23 [Value.pointer (some { block := d, off := 0 })], Ch.blk g2 3 [Value.int IntKind.i64 n]] [] (by kernel_rfl) (by kernel_rfl) trivial ?_
  refine wpr_nil ?_
  refine nx_then ?_
  refine wpc_seq ?_
  refine wpc_region [0, 1] (by kernel_rfl) ?_
  refine wpr_new (l₂ := [1]) true [0] [] (fun g3 => [(5, Value.pointer (some { block := g3, off := 0 })), (4, Value.int IntKind.i64 0), (3, Value.pointer (some { block := g2, off := 0 })), (2, Value.pointer (some { block := g1, off := 0 }))]) (fun g3 => [Ch.blk d 46 [Value.bool true, Value.slice a bs.length c, Value.int IntKind.i64 s], row 5 1 a bs.length c (u8s bs), Ch.blk g1 23 [Value.pointer (some { block := d, off := 0 })], Ch.blk g2 3 [Value.int IntKind.i64 n], Ch.blk g3 25 [Value.int IntKind.i64 0]]) (fun g3 => []) (fun g3 => by kernel_rfl) (fun g3 => by kernel_rfl) (fun g3 => trivial) fun g3 => ?_
  refine wpr_run (l₂ := []) true [1] [4] [(5, Value.pointer (some { block := g3, off := 0 })), (4, Value.int IntKind.i64 0), (3, Value.pointer (some { block := g2, off := 0 })), (2, Value.pointer (some { block := g1, off := 0 }))] [Ch.blk d 46 [Value.bool true, Value.slice a bs.length c, Value.int IntKind.i64 s], row 5 1 a bs.length c (u8s bs), Ch.blk g1 23 [Value.pointer (some { block := d, off := 0 })], Ch.blk g2 3 [Value.int IntKind.i64 n], Ch.blk g3 25 [Value.int IntKind.i64 0]] [] (by kernel_rfl) (by kernel_rfl) trivial ?_
  refine wpr_nil ?_
  refine nx_then ?_
  refine wpc_seq ?_
  refine wpc_seq ?_
  refine wpc_region [0, 1, 2, 3] (by kernel_rfl) ?_
  refine wpr_run (l₂ := [2, 3]) true [0, 1] [2] [(8, Value.func (Fn.func 28) #[] #[Value.pointer (some { block := g2, off := 0 }), Value.pointer (some { block := g1, off := 0 }), Value.pointer (some { block := g3, off := 0 })]), (7, Value.pointer (some { block := d, off := 0 })), (5, Value.pointer (some { block := g3, off := 0 })), (4, Value.int IntKind.i64 0)] [Ch.blk d 46 [Value.bool true, Value.slice a bs.length c, Value.int IntKind.i64 s], row 5 1 a bs.length c (u8s bs), Ch.blk g1 23 [Value.pointer (some { block := d, off := 0 })], Ch.blk g2 3 [Value.int IntKind.i64 n], Ch.blk g3 25 [Value.int IntKind.i64 0]] [] (by kernel_rfl) (by kernel_rfl) trivial ?_
  refine wpr_call_all (dst := some 9) (by kernel_rfl) (with28 d a bs.length c s g2 g1 g3 [row 5 1 a bs.length c (u8s bs), .blk g1 23 [.pointer (some ⟨d, 0, none⟩)], .blk g2 3 [.int .i64 n], .blk g3 25 [.int .i64 0]] (fun hp' => hp' = DH d a c bs s ++ [.blk g3 25 [.int .i64 2]]) (by rintro _ rfl; exact ⟨trivial, trivial, trivial, trivial⟩) (cut1_bad d g1 g2 g3 a c s n 0 bs hn)) give_all ?_
  rintro v hp' ⟨rfl, rfl⟩
  refine wpr_run (l₂ := []) true [3] [] [(6, Value.int IntKind.i64 0), (5, Value.pointer (some { block := g3, off := 0 })), (4, Value.int IntKind.i64 0)] [Ch.blk d 46 [Value.bool true, Value.slice a bs.length c, Value.int IntKind.i64 s], row 5 1 a bs.length c (u8s bs), Ch.blk g3 25 [Value.int IntKind.i64 2]] [] (by kernel_rfl) (by kernel_rfl) trivial ?_
  refine wpr_nil ?_
  refine nx_then ?_
  refine wpc_seq ?_
  refine wpc_region [0, 1] (by kernel_rfl) ?_
  refine wpr_run (l₂ := []) true [0, 1] [] [(11, Value.bool false), (6, Value.int IntKind.i64 0), (5, Value.pointer (some { block := g3, off := 0 })), (4, Value.int IntKind.i64 0)] [Ch.blk d 46 [Value.bool true, Value.slice a bs.length c, Value.int IntKind.i64 s], row 5 1 a bs.length c (u8s bs), Ch.blk g3 25 [Value.int IntKind.i64 2]] [] (by kernel_rfl) (by kernel_rfl) trivial ?_
  refine wpr_nil ?_
  refine nx_then ?_
  refine wpc_false (by kernel_rfl) ?_
  refine wpc_skip ?_
  refine nx_then ?_
  refine wpc_seq ?_
  refine wpc_region [0, 1] (by kernel_rfl) ?_
  refine wpr_run (l₂ := []) true [0, 1] [2] [(4, Value.int IntKind.i64 2)] [Ch.blk d 46 [Value.bool true, Value.slice a bs.length c, Value.int IntKind.i64 s], row 5 1 a bs.length c (u8s bs), Ch.blk g3 25 [Value.int IntKind.i64 2]] [] (by kernel_rfl) (by kernel_rfl) trivial ?_
  refine wpr_nil ?_
  refine nx_then ?_
  refine wpc_ret ?_
  refine nx_end (hp' := [Ch.blk d 46 [Value.bool true, Value.slice a bs.length c, Value.int IntKind.i64 s], row 5 1 a bs.length c (u8s bs)]) (rest := [Ch.blk g3 25 [Value.int IntKind.i64 2]]) [] ((Value.int IntKind.i64 2)) (by kernel_rfl) (by kernel_rfl) (give [0, 0] (by kernel_rfl)) (by first | ((repeat (first | exact trivial | refine ⟨trivial, ?_⟩)); done) | assumption) ?_ (.inr rfl)
  exact ⟨rfl, rfl⟩
theorem Cut_spec (d : Nat) (a : Option Addr) (c : Nat) (s : Int) (K : Nat) (bs : List UInt8) (hn : K ≤ bs.length) (hl : bs.length ≤ 140737488351232) :
    Does Try.prog 17 [.pointer (some ⟨d, 0, none⟩), .int .i64 K] [dblk d a bs.length c s, row 5 1 a bs.length c (u8s bs)]
      (fun v hp' => v = .int .i64 0 ∧ hp' = DH d a K (bs.take K) (min s K)) := by
  refine fn_enter Try.func17 rfl 14 rfl fun w0 h0 => ?_
  refine wpc_seq ?_
  refine wpc_region [0, 1, 2] (by kernel_rfl) ?_
  refine wpr_new (l₂ := [1, 2]) true [0] [] (fun g1 => [(2, Value.pointer (some { block := g1, off := 0 })), (1, Value.int IntKind.i64 (↑K : Int))]) (fun g1 => [Ch.blk d 46 [Value.bool true, Value.slice a bs.length c, Value.int IntKind.i64 s], row 5 1 a bs.length c (u8s bs), Ch.blk g1 23 [Value.pointer (some { block := d, off := 0 })]]) (fun g1 => []) (fun g1 => by kernel_rfl) (fun g1 => by kernel_rfl) (fun g1 => trivial) fun g1 => ?_
  refine wpr_new (l₂ := [2]) true [1] [] (fun g2 => [(3, Value.pointer (some { block := g2, off := 0 })), (2, Value.pointer (some { block := g1, off := 0 }))]) (fun g2 => [Ch.blk d 46 [Value.bool true, Value.slice a bs.length c, Value.int IntKind.i64 s], row 5 1 a bs.length c (u8s bs), Ch.blk g1 23 [Value.pointer (some { block := d, off := 0 })], Ch.blk g2 3 [Value.int IntKind.i64 (↑K : Int)]]) (fun g2 => []) (fun g2 => by kernel_rfl) (fun g2 => by kernel_rfl) (fun g2 => trivial) fun g2 => ?_
  refine wpr_run (l₂ := []) true [2] [] [(4, Value.int IntKind.i64 0), (3, Value.pointer (some { block := g2, off := 0 })), (2, Value.pointer (some { block := g1, off := 0 }))] [Ch.blk d 46 [Value.bool true, Value.slice a bs.length c, Value.int IntKind.i64 s], row 5 1 a bs.length c (u8s bs), Ch.blk g1 23 [Value.pointer (some { block := d, off := 0 })], Ch.blk g2 3 [Value.int IntKind.i64 (↑K : Int)]] [] (by kernel_rfl) (by kernel_rfl) trivial ?_
  refine wpr_nil ?_
  refine nx_then ?_
  refine wpc_seq ?_
  refine wpc_region [0, 1] (by kernel_rfl) ?_
  refine wpr_new (l₂ := [1]) true [0] [] (fun g3 => [(5, Value.pointer (some { block := g3, off := 0 })), (4, Value.int IntKind.i64 0), (3, Value.pointer (some { block := g2, off := 0 })), (2, Value.pointer (some { block := g1, off := 0 }))]) (fun g3 => [Ch.blk d 46 [Value.bool true, Value.slice a bs.length c, Value.int IntKind.i64 s], row 5 1 a bs.length c (u8s bs), Ch.blk g1 23 [Value.pointer (some { block := d, off := 0 })], Ch.blk g2 3 [Value.int IntKind.i64 (↑K : Int)], Ch.blk g3 25 [Value.int IntKind.i64 0]]) (fun g3 => []) (fun g3 => by kernel_rfl) (fun g3 => by kernel_rfl) (fun g3 => trivial) fun g3 => ?_
  refine wpr_run (l₂ := []) true [1] [4] [(5, Value.pointer (some { block := g3, off := 0 })), (4, Value.int IntKind.i64 0), (3, Value.pointer (some { block := g2, off := 0 })), (2, Value.pointer (some { block := g1, off := 0 }))] [Ch.blk d 46 [Value.bool true, Value.slice a bs.length c, Value.int IntKind.i64 s], row 5 1 a bs.length c (u8s bs), Ch.blk g1 23 [Value.pointer (some { block := d, off := 0 })], Ch.blk g2 3 [Value.int IntKind.i64 (↑K : Int)], Ch.blk g3 25 [Value.int IntKind.i64 0]] [] (by kernel_rfl) (by kernel_rfl) trivial ?_
  refine wpr_nil ?_
  refine nx_then ?_
  refine wpc_seq ?_
  refine wpc_seq ?_
  refine wpc_region [0, 1, 2, 3] (by kernel_rfl) ?_
  refine wpr_run (l₂ := [2, 3]) true [0, 1] [2] [(8, Value.func (Fn.func 28) #[] #[Value.pointer (some { block := g2, off := 0 }), Value.pointer (some { block := g1, off := 0 }), Value.pointer (some { block := g3, off := 0 })]), (7, Value.pointer (some { block := d, off := 0 })), (5, Value.pointer (some { block := g3, off := 0 })), (4, Value.int IntKind.i64 0)] [Ch.blk d 46 [Value.bool true, Value.slice a bs.length c, Value.int IntKind.i64 s], row 5 1 a bs.length c (u8s bs), Ch.blk g1 23 [Value.pointer (some { block := d, off := 0 })], Ch.blk g2 3 [Value.int IntKind.i64 (↑K : Int)], Ch.blk g3 25 [Value.int IntKind.i64 0]] [] (by kernel_rfl) (by kernel_rfl) trivial ?_
  refine wpr_call_all (dst := some 9) (by kernel_rfl) (with28 d a bs.length c s g2 g1 g3 [row 5 1 a bs.length c (u8s bs), .blk g1 23 [.pointer (some ⟨d, 0, none⟩)], .blk g2 3 [.int .i64 K], .blk g3 25 [.int .i64 0]] (fun hp' => hp' = DH d a K (bs.take K) (min s K) ++ [.blk g3 25 [.int .i64 0]]) (by rintro _ rfl; exact ⟨trivial, trivial, trivial, trivial⟩) (cut1 d g1 g2 g3 a c s 0 K bs hn hl)) give_all ?_
  rintro v hp' ⟨rfl, rfl⟩
  refine wpr_run (l₂ := []) true [3] [] [(6, Value.int IntKind.i64 0), (5, Value.pointer (some { block := g3, off := 0 })), (4, Value.int IntKind.i64 0)] [Ch.blk d 46 [Value.bool true, Value.slice a (List.take K bs).length K, Value.int IntKind.i64 (min s (↑K : Int))], row 5 1 a (List.take K bs).length K (u8s (List.take K bs)), Ch.blk g3 25 [Value.int IntKind.i64 0]] [] (by kernel_rfl) (by kernel_rfl) trivial ?_
  refine wpr_nil ?_
  refine nx_then ?_
  refine wpc_seq ?_
  refine wpc_region [0, 1] (by kernel_rfl) ?_
  refine wpr_run (l₂ := []) true [0, 1] [] [(11, Value.bool false), (6, Value.int IntKind.i64 0), (5, Value.pointer (some { block := g3, off := 0 })), (4, Value.int IntKind.i64 0)] [Ch.blk d 46 [Value.bool true, Value.slice a (List.take K bs).length K, Value.int IntKind.i64 (min s (↑K : Int))], row 5 1 a (List.take K bs).length K (u8s (List.take K bs)), Ch.blk g3 25 [Value.int IntKind.i64 0]] [] (by kernel_rfl) (by kernel_rfl) trivial ?_
  refine wpr_nil ?_
  refine nx_then ?_
  refine wpc_false (by kernel_rfl) ?_
  refine wpc_skip ?_
  refine nx_then ?_
  refine wpc_seq ?_
  refine wpc_region [0, 1] (by kernel_rfl) ?_
  refine wpr_run (l₂ := []) true [0, 1] [2] [(4, Value.int IntKind.i64 0)] [Ch.blk d 46 [Value.bool true, Value.slice a (List.take K bs).length K, Value.int IntKind.i64 (min s (↑K : Int))], row 5 1 a (List.take K bs).length K (u8s (List.take K bs)), Ch.blk g3 25 [Value.int IntKind.i64 0]] [] (by kernel_rfl) (by kernel_rfl) trivial ?_
  refine wpr_nil ?_
  refine nx_then ?_
  refine wpc_ret ?_
  refine nx_end (hp' := [Ch.blk d 46 [Value.bool true, Value.slice a (List.take K bs).length K, Value.int IntKind.i64 (min s (↑K : Int))], row 5 1 a (List.take K bs).length K (u8s (List.take K bs))]) (rest := [Ch.blk g3 25 [Value.int IntKind.i64 0]]) [] ((Value.int IntKind.i64 0)) (by kernel_rfl) (by kernel_rfl) (give [0, 0] (by kernel_rfl)) (by first | ((repeat (first | exact trivial | refine ⟨trivial, ?_⟩)); done) | assumption) ?_ (.inr rfl)
  exact ⟨rfl, rfl⟩
end Go.Proofs.Ytolmjhhldbnkdaa
