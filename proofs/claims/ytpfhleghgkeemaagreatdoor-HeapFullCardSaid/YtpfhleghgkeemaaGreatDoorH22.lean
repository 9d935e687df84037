import Derived.Test.YtpfhleghgkeemaaGreatDoorH21
import Derived.Test.YtpfhleghgkeemaaGreatDoorX16
namespace Go.Proofs.YtpfhleghgkeemaaGreatDoor
open Go Go.Sx
set_option linter.unusedSimpArgs false

def wrH (gw : Nat) (ad aw : Option Addr) (cw : Nat) (bs : List UInt8) (g : Nat) : Hp := [.blk gw 105 [.pointer ad, .slice aw bs.length cw, .pointer (some ⟨g, 0, none⟩)], row 5 1 aw bs.length cw (u8s bs)]
def hctx (g : Nat) (most : Int) (used : Nat) (a : Option Addr) (c : Nat) (l : List Ob) : Hp := [ro (some ⟨g, 0, none⟩) [.bool true, .int .i64 most, .int .i64 used, .slice a l.length c], ro a (l.flatMap objC), gBag l, gPow]
def ValS (g : Nat) (most : Int) (used : Nat) (a : Option Addr) (c : Nat) (l : List Ob) (d : Nat) (v : V) : Prop := ∀ (gw : Nat) (ad aw : Option Addr) (cw : Nat) (bs : List UInt8), (ad = none ∨ ad = some ⟨gw, 0, none⟩) → bs.length + tB d ≤ 68719476736 →
  Does Tryz.prog 54 [.pointer (some ⟨gw, 0, none⟩), valV v, .int .i64 d] (wrH gw ad aw cw bs g ++ hctx g most used a c l)
    (fun u hp' => ∃ a' c', u = .tuple #[] ∧ hp' = wrH gw (some ⟨gw, 0, none⟩) a' c' (bs ++ txt (l.map Ob.o) d v) g)
theorem txt_k {L : List O} {d : Nat} {v : V} : txt L d v = if v.k = 0 then [110, 111, 110, 101] else if v.k = 1 then Lib.itoa v.n else if v.k = 2 then (if v.n = 1 then [116, 114, 117, 101] else [102, 97, 108, 115, 101]) else if v.k = 3 then quoL v.s else match d with
    | 0 => [46, 46, 46]
    | d + 1 => objT (txt L d) (objAt L v) := by
  cases d <;> (conv => lhs; unfold txt)
theorem one_str (t : List UInt8) : Sx.One [Value.string (mkS t)] := fun u hu => by cases List.mem_singleton.1 hu; rfl
theorem tB_ge (d : Nat) : 1100 ≤ tB d := by cases d <;> simp [tB] <;> omega
theorem value_low (g : Nat) (most : Int) (used : Nat) (a : Option Addr) (c : Nat) (l : List Ob) (d : Nat) (v : V) (hv : showV l.length v) (hk : v.k ≠ 4) : ValS g most used a c l d v := by
  intro gw ad aw cw bs had hb
  have hd := tB_ge d
  obtain ⟨hs, hi, hr⟩ := hv
  unfold wrH hctx
  by_cases h0 : v.k = 0
  · have htx : txt (l.map Ob.o) d v = [110, 111, 110, 101] := by rw [txt_k, if_pos h0]
    have hput := fun p => wr_put_spec gw ad had aw cw bs (.pointer (some ⟨g, 0, none⟩)) p 1 [[110, 111, 110, 101]] (by omega) (by simp) (by simp) (by simp)
    rw [htx]
    unfold valV
    rw [h0]
    refine fn_enter Tryz.func54 rfl 67 rfl fun w0 h0 => ?_
    refine wpc_seq ?_
    refine wpc_region [0] (by kernel_rfl) ?_
    refine wpr_new (l₂ := []) true [0] [] (fun g1 => [(4, .pointer (some ⟨g1, 0, none⟩)), (0, .pointer (some ⟨gw, 0, none⟩)), (2, .int .i64 (↑d : Int))]) (fun g1 => [.blk gw 105 [.pointer ad, .slice aw bs.length cw, .pointer (some ⟨g, 0, none⟩)], row 5 1 aw bs.length cw (u8s bs), ro (some ⟨g, 0, none⟩) [.bool true, .int .i64 most, .int .i64 (↑used : Int), .slice a l.length c], ro a (List.flatMap objC l), gBag l, gPow, .blk g1 28 [.int .i64 0, .int .i64 v.n, .string (mkS v.s)]]) (fun g1 => []) (fun g1 => by kernel_rfl) (fun g1 => by kernel_rfl) (fun g1 => trivial) fun g1 => ?_
    refine wpr_nil (nx_then (wpc_seq ?_))
    refine wpc_region [0, 1] (by kernel_rfl) ?_
    refine wpr_run (l₂ := []) true [0, 1] [6] [(9, .int .i64 0), (4, .pointer (some ⟨g1, 0, none⟩)), (0, .pointer (some ⟨gw, 0, none⟩)), (2, .int .i64 (↑d : Int))] [.blk gw 105 [.pointer ad, .slice aw bs.length cw, .pointer (some ⟨g, 0, none⟩)], row 5 1 aw bs.length cw (u8s bs), ro (some ⟨g, 0, none⟩) [.bool true, .int .i64 most, .int .i64 (↑used : Int), .slice a l.length c], ro a (List.flatMap objC l), gBag l, gPow, .blk g1 28 [.int .i64 0, .int .i64 v.n, .string (mkS v.s)]] [] (by kernel_rfl) (by kernel_rfl) trivial ?_
    refine wpr_nil (nx_then ?_)
    refine wpc_block ?_
    refine wpc_seq ?_
    refine wpc_region [0, 1] (by kernel_rfl) ?_
    refine wpr_run (l₂ := []) true [0, 1] [] [(10, .bool true), (9, .int .i64 0), (4, .pointer (some ⟨g1, 0, none⟩)), (0, .pointer (some ⟨gw, 0, none⟩)), (2, .int .i64 (↑d : Int))] [.blk gw 105 [.pointer ad, .slice aw bs.length cw, .pointer (some ⟨g, 0, none⟩)], row 5 1 aw bs.length cw (u8s bs), ro (some ⟨g, 0, none⟩) [.bool true, .int .i64 most, .int .i64 (↑used : Int), .slice a l.length c], ro a (List.flatMap objC l), gBag l, gPow, .blk g1 28 [.int .i64 0, .int .i64 v.n, .string (mkS v.s)]] [] (by kernel_rfl) (by kernel_rfl) trivial ?_
    refine wpr_nil (nx_then ?_)
    refine wpc_true (by kernel_rfl) ?_
    refine wpc_region [0, 1, 2] (by kernel_rfl) ?_
    refine wpr_new (l₂ := [2]) true [0, 1] [] (fun g2 => [(13, .slice (some ⟨g2, 0, none⟩) 1 1), (12, .pointer (some ⟨gw, 0, none⟩))]) (fun g2 => [.blk gw 105 [.pointer ad, .slice aw bs.length cw, .pointer (some ⟨g, 0, none⟩)], row 5 1 aw bs.length cw (u8s bs), ro (some ⟨g, 0, none⟩) [.bool true, .int .i64 most, .int .i64 (↑used : Int), .slice a l.length c], ro a (List.flatMap objC l), gBag l, gPow, .blk g1 28 [.int .i64 0, .int .i64 v.n, .string (mkS v.s)], .blk g2 9 [.string (ByteArray.mk #[110, 111, 110, 101])]]) (fun g2 => []) (fun g2 => by kernel_rfl) (fun g2 => by kernel_rfl) (fun g2 => trivial) fun g2 => ?_
    refine wpr_ent (ent_turn (c := .blk g2 9 [.string (mkS [110, 111, 110, 101])]) 7 (ro (some ⟨g2, 0, none⟩) ([[110, 111, 110, 101]].map strV)) rfl (turn_rblk (one_str _)) rfl) ?_
    refine wpr_call (dst := some 14) (rest := [ro (some ⟨g, 0, none⟩) [.bool true, .int .i64 most, .int .i64 (↑used : Int), .slice a l.length c], ro a (List.flatMap objC l), gBag l, gPow, .blk g1 28 [.int .i64 0, .int .i64 v.n, .string (mkS v.s)], ro (some ⟨g2, 0, none⟩) (List.map strV [[110, 111, 110, 101]])]) (by kernel_rfl) (hput (some ⟨g2, 0, none⟩)) (Give.reorder (Give.view (c := (ro (some ⟨g2, 0, none⟩) (List.map strV [[110, 111, 110, 101]]))) (give (pre := [.blk gw 105 [.pointer ad, .slice aw bs.length cw, .pointer (some ⟨g, 0, none⟩)], row 5 1 aw bs.length cw (u8s bs)]) (rest := [ro (some ⟨g, 0, none⟩) [.bool true, .int .i64 most, .int .i64 (↑used : Int), .slice a l.length c], ro a (List.flatMap objC l), gBag l, gPow, .blk g1 28 [.int .i64 0, .int .i64 v.n, .string (mkS v.s)], ro (some ⟨g2, 0, none⟩) (List.map strV [[110, 111, 110, 101]])]) [0, 0] (by kernel_rfl)) 5 (by kernel_rfl) view_ro) [1, 1, 0] (by kernel_rfl)) ?_
    rintro u _ ⟨a2, c2, rfl, rfl⟩
    refine wpr_nil (nx_block ?_)
    refine nx_end (hp' := ([.blk gw 105 [.pointer (some ⟨gw, 0, none⟩), .slice a2 (bs ++ [[110, 111, 110, 101]].flatten).length c2, .pointer (some ⟨g, 0, none⟩)], row 5 1 a2 (bs ++ [[110, 111, 110, 101]].flatten).length c2 (u8s (bs ++ [[110, 111, 110, 101]].flatten))])) (rest := [ro (some ⟨g, 0, none⟩) [.bool true, .int .i64 most, .int .i64 (↑used : Int), .slice a l.length c], ro a (List.flatMap objC l), gBag l, gPow, .blk g1 28 [.int .i64 0, .int .i64 v.n, .string (mkS v.s)], ro (some ⟨g2, 0, none⟩) (List.map strV [[110, 111, 110, 101]])]) [] ((Value.tuple #[])) (by kernel_rfl) (by kernel_rfl) (give [0, 0] (by kernel_rfl)) (by first | ((repeat (first | exact trivial | refine ⟨trivial, ?_⟩)); done) | assumption) ?_ (.inl rfl)
    exact ⟨a2, c2, rfl, rfl⟩
  by_cases h1 : v.k = 1
  · have htx : txt (l.map Ob.o) d v = Lib.itoa v.n := by rw [txt_k, if_neg h0, if_pos h1]
    have hil := itoa_len hi
    have hput := fun p => wr_put_spec gw ad had aw cw bs (.pointer (some ⟨g, 0, none⟩)) p 1 [Lib.itoa v.n] (by omega) (by simp) (by simp) (by simp; omega)
    have hfl : [Lib.itoa v.n].flatten = Lib.itoa v.n := by simp
    rw [hfl] at hput
    rw [htx]
    unfold valV
    rw [h1]
    refine fn_enter Tryz.func54 rfl 67 rfl fun w0 h0 => ?_
    refine wpc_seq ?_
    refine wpc_region [0] (by kernel_rfl) ?_
    refine wpr_new (l₂ := []) true [0] [] (fun g1 => [(4, .pointer (some ⟨g1, 0, none⟩)), (0, .pointer (some ⟨gw, 0, none⟩)), (2, .int .i64 (↑d : Int))]) (fun g1 => [.blk gw 105 [.pointer ad, .slice aw bs.length cw, .pointer (some ⟨g, 0, none⟩)], row 5 1 aw bs.length cw (u8s bs), ro (some ⟨g, 0, none⟩) [.bool true, .int .i64 most, .int .i64 (↑used : Int), .slice a l.length c], ro a (List.flatMap objC l), gBag l, gPow, .blk g1 28 [.int .i64 1, .int .i64 v.n, .string (mkS v.s)]]) (fun g1 => []) (fun g1 => by kernel_rfl) (fun g1 => by kernel_rfl) (fun g1 => trivial) fun g1 => ?_
    refine wpr_nil (nx_then (wpc_seq ?_))
    refine wpc_region [0, 1] (by kernel_rfl) ?_
    refine wpr_run (l₂ := []) true [0, 1] [6] [(9, .int .i64 1), (4, .pointer (some ⟨g1, 0, none⟩)), (0, .pointer (some ⟨gw, 0, none⟩)), (2, .int .i64 (↑d : Int))] [.blk gw 105 [.pointer ad, .slice aw bs.length cw, .pointer (some ⟨g, 0, none⟩)], row 5 1 aw bs.length cw (u8s bs), ro (some ⟨g, 0, none⟩) [.bool true, .int .i64 most, .int .i64 (↑used : Int), .slice a l.length c], ro a (List.flatMap objC l), gBag l, gPow, .blk g1 28 [.int .i64 1, .int .i64 v.n, .string (mkS v.s)]] [] (by kernel_rfl) (by kernel_rfl) trivial ?_
    refine wpr_nil (nx_then ?_)
    refine wpc_block ?_
    refine wpc_seq ?_
    refine wpc_region [0, 1] (by kernel_rfl) ?_
    refine wpr_run (l₂ := []) true [0, 1] [] [(10, .bool false), (9, .int .i64 1), (4, .pointer (some ⟨g1, 0, none⟩)), (0, .pointer (some ⟨gw, 0, none⟩)), (2, .int .i64 (↑d : Int))] [.blk gw 105 [.pointer ad, .slice aw bs.length cw, .pointer (some ⟨g, 0, none⟩)], row 5 1 aw bs.length cw (u8s bs), ro (some ⟨g, 0, none⟩) [.bool true, .int .i64 most, .int .i64 (↑used : Int), .slice a l.length c], ro a (List.flatMap objC l), gBag l, gPow, .blk g1 28 [.int .i64 1, .int .i64 v.n, .string (mkS v.s)]] [] (by kernel_rfl) (by kernel_rfl) trivial ?_
    refine wpr_nil (nx_then ?_)
    refine wpc_false (by kernel_rfl) ?_
    refine wpc_seq ?_
    refine wpc_region [0, 1] (by kernel_rfl) ?_
    refine wpr_run (l₂ := []) true [0, 1] [] [(15, .bool true), (9, .int .i64 1), (4, .pointer (some ⟨g1, 0, none⟩)), (0, .pointer (some ⟨gw, 0, none⟩)), (2, .int .i64 (↑d : Int))] [.blk gw 105 [.pointer ad, .slice aw bs.length cw, .pointer (some ⟨g, 0, none⟩)], row 5 1 aw bs.length cw (u8s bs), ro (some ⟨g, 0, none⟩) [.bool true, .int .i64 most, .int .i64 (↑used : Int), .slice a l.length c], ro a (List.flatMap objC l), gBag l, gPow, .blk g1 28 [.int .i64 1, .int .i64 v.n, .string (mkS v.s)]] [] (by kernel_rfl) (by kernel_rfl) trivial ?_
    refine wpr_nil (nx_then ?_)
    refine wpc_true (by kernel_rfl) ?_
    refine wpc_region [0, 1, 2, 3, 4, 5] (by kernel_rfl) ?_
    refine wpr_run (l₂ := [3, 4, 5]) true [0, 1, 2] [6] [(19, .int .i64 v.n), (17, .pointer (some ⟨gw, 0, none⟩))] [.blk gw 105 [.pointer ad, .slice aw bs.length cw, .pointer (some ⟨g, 0, none⟩)], row 5 1 aw bs.length cw (u8s bs), ro (some ⟨g, 0, none⟩) [.bool true, .int .i64 most, .int .i64 (↑used : Int), .slice a l.length c], ro a (List.flatMap objC l), gBag l, gPow, .blk g1 28 [.int .i64 1, .int .i64 v.n, .string (mkS v.s)]] [] (by kernel_rfl) (by kernel_rfl) trivial ?_
    refine wpr_call (dst := some 20) (rest := [.blk gw 105 [.pointer ad, .slice aw bs.length cw, .pointer (some ⟨g, 0, none⟩)], row 5 1 aw bs.length cw (u8s bs), ro (some ⟨g, 0, none⟩) [.bool true, .int .i64 most, .int .i64 (↑used : Int), .slice a l.length c], ro a (List.flatMap objC l), gBag l, gPow, .blk g1 28 [.int .i64 1, .int .i64 v.n, .string (mkS v.s)]]) (by kernel_rfl) (Itoa_spec v.n hi.1 hi.2) (Give.view (c := gPow) (give (pre := []) (rest := [.blk gw 105 [.pointer ad, .slice aw bs.length cw, .pointer (some ⟨g, 0, none⟩)], row 5 1 aw bs.length cw (u8s bs), ro (some ⟨g, 0, none⟩) [.bool true, .int .i64 most, .int .i64 (↑used : Int), .slice a l.length c], ro a (List.flatMap objC l), gBag l, gPow, .blk g1 28 [.int .i64 1, .int .i64 v.n, .string (mkS v.s)]]) [] (by kernel_rfl)) 5 (by kernel_rfl) view_gPow) ?_
    rintro u _ ⟨rfl, rfl⟩
    refine wpr_new (l₂ := [5]) true [4] [] (fun g2 => [(21, .slice (some ⟨g2, 0, none⟩) 1 1), (17, .pointer (some ⟨gw, 0, none⟩))]) (fun g2 => [.blk gw 105 [.pointer ad, .slice aw bs.length cw, .pointer (some ⟨g, 0, none⟩)], row 5 1 aw bs.length cw (u8s bs), ro (some ⟨g, 0, none⟩) [.bool true, .int .i64 most, .int .i64 (↑used : Int), .slice a l.length c], ro a (List.flatMap objC l), gBag l, gPow, .blk g1 28 [.int .i64 1, .int .i64 v.n, .string (mkS v.s)], .blk g2 9 [.string (mkS (Lib.itoa v.n))]]) (fun g2 => []) (fun g2 => by kernel_rfl) (fun g2 => by kernel_rfl) (fun g2 => trivial) fun g2 => ?_
    refine wpr_ent (ent_turn (c := .blk g2 9 [.string (mkS (Lib.itoa v.n))]) 7 (ro (some ⟨g2, 0, none⟩) ([Lib.itoa v.n].map strV)) rfl (turn_rblk (one_str _)) rfl) ?_
    refine wpr_call (dst := some 22) (rest := [ro (some ⟨g, 0, none⟩) [.bool true, .int .i64 most, .int .i64 (↑used : Int), .slice a l.length c], ro a (List.flatMap objC l), gBag l, gPow, .blk g1 28 [.int .i64 1, .int .i64 v.n, .string (mkS v.s)], ro (some ⟨g2, 0, none⟩) (List.map strV [Lib.itoa v.n])]) (by kernel_rfl) (hput (some ⟨g2, 0, none⟩)) (Give.reorder (Give.view (c := (ro (some ⟨g2, 0, none⟩) (List.map strV [Lib.itoa v.n]))) (give (pre := [.blk gw 105 [.pointer ad, .slice aw bs.length cw, .pointer (some ⟨g, 0, none⟩)], row 5 1 aw bs.length cw (u8s bs)]) (rest := [ro (some ⟨g, 0, none⟩) [.bool true, .int .i64 most, .int .i64 (↑used : Int), .slice a l.length c], ro a (List.flatMap objC l), gBag l, gPow, .blk g1 28 [.int .i64 1, .int .i64 v.n, .string (mkS v.s)], ro (some ⟨g2, 0, none⟩) (List.map strV [Lib.itoa v.n])]) [0, 0] (by kernel_rfl)) 5 (by kernel_rfl) view_ro) [1, 1, 0] (by kernel_rfl)) ?_
    rintro u _ ⟨a2, c2, rfl, rfl⟩
    refine wpr_nil (nx_block ?_)
    refine nx_end (hp' := ([.blk gw 105 [.pointer (some ⟨gw, 0, none⟩), .slice a2 (bs ++ Lib.itoa v.n).length c2, .pointer (some ⟨g, 0, none⟩)], row 5 1 a2 (bs ++ Lib.itoa v.n).length c2 (u8s (bs ++ Lib.itoa v.n))])) (rest := [ro (some ⟨g, 0, none⟩) [.bool true, .int .i64 most, .int .i64 (↑used : Int), .slice a l.length c], ro a (List.flatMap objC l), gBag l, gPow, .blk g1 28 [.int .i64 1, .int .i64 v.n, .string (mkS v.s)], ro (some ⟨g2, 0, none⟩) (List.map strV [Lib.itoa v.n])]) [] ((Value.tuple #[])) (by kernel_rfl) (by kernel_rfl) (give [0, 0] (by kernel_rfl)) (by first | ((repeat (first | exact trivial | refine ⟨trivial, ?_⟩)); done) | assumption) ?_ (.inl rfl)
    exact ⟨a2, c2, rfl, rfl⟩
  by_cases h2 : v.k = 2
  · obtain ⟨T, hT⟩ : ∃ T, T = (if (v.n == 1) = true then [116, 114, 117, 101] else [102, 97, 108, 115, 101] : List UInt8) := ⟨_, rfl⟩
    have hTl : T.length ≤ 5 := by rw [hT]; split <;> simp
    have htx : txt (l.map Ob.o) d v = T := by rw [txt_k, if_neg h0, if_neg h1, if_pos h2, hT]; simp
    have hput := fun p => wr_put_spec gw ad had aw cw bs (.pointer (some ⟨g, 0, none⟩)) p 1 [T] (by omega) (by simp) (by simp) (by simp; omega)
    have hfl : [T].flatten = T := by simp
    rw [hfl] at hput
    rw [htx]
    have hfb := FormatBool_spec (v.n == 1)
    rw [← hT] at hfb
    unfold valV
    rw [h2]
    refine fn_enter Tryz.func54 rfl 67 rfl fun w0 h0 => ?_
    refine wpc_seq ?_
    refine wpc_region [0] (by kernel_rfl) ?_
    refine wpr_new (l₂ := []) true [0] [] (fun g1 => [(4, .pointer (some ⟨g1, 0, none⟩)), (0, .pointer (some ⟨gw, 0, none⟩)), (2, .int .i64 (↑d : Int))]) (fun g1 => [.blk gw 105 [.pointer ad, .slice aw bs.length cw, .pointer (some ⟨g, 0, none⟩)], row 5 1 aw bs.length cw (u8s bs), ro (some ⟨g, 0, none⟩) [.bool true, .int .i64 most, .int .i64 (↑used : Int), .slice a l.length c], ro a (List.flatMap objC l), gBag l, gPow, .blk g1 28 [.int .i64 2, .int .i64 v.n, .string (mkS v.s)]]) (fun g1 => []) (fun g1 => by kernel_rfl) (fun g1 => by kernel_rfl) (fun g1 => trivial) fun g1 => ?_
    refine wpr_nil (nx_then (wpc_seq ?_))
    refine wpc_region [0, 1] (by kernel_rfl) ?_
    refine wpr_run (l₂ := []) true [0, 1] [6] [(9, .int .i64 2), (4, .pointer (some ⟨g1, 0, none⟩)), (0, .pointer (some ⟨gw, 0, none⟩)), (2, .int .i64 (↑d : Int))] [.blk gw 105 [.pointer ad, .slice aw bs.length cw, .pointer (some ⟨g, 0, none⟩)], row 5 1 aw bs.length cw (u8s bs), ro (some ⟨g, 0, none⟩) [.bool true, .int .i64 most, .int .i64 (↑used : Int), .slice a l.length c], ro a (List.flatMap objC l), gBag l, gPow, .blk g1 28 [.int .i64 2, .int .i64 v.n, .string (mkS v.s)]] [] (by kernel_rfl) (by kernel_rfl) trivial ?_
    refine wpr_nil (nx_then ?_)
    refine wpc_block ?_
    refine wpc_seq ?_
    refine wpc_region [0, 1] (by kernel_rfl) ?_
    refine wpr_run (l₂ := []) true [0, 1] [] [(10, .bool false), (9, .int .i64 2), (4, .pointer (some ⟨g1, 0, none⟩)), (0, .pointer (some ⟨gw, 0, none⟩)), (2, .int .i64 (↑d : Int))] [.blk gw 105 [.pointer ad, .slice aw bs.length cw, .pointer (some ⟨g, 0, none⟩)], row 5 1 aw bs.length cw (u8s bs), ro (some ⟨g, 0, none⟩) [.bool true, .int .i64 most, .int .i64 (↑used : Int), .slice a l.length c], ro a (List.flatMap objC l), gBag l, gPow, .blk g1 28 [.int .i64 2, .int .i64 v.n, .string (mkS v.s)]] [] (by kernel_rfl) (by kernel_rfl) trivial ?_
    refine wpr_nil (nx_then ?_)
    refine wpc_false (by kernel_rfl) ?_
    refine wpc_seq ?_
    refine wpc_region [0, 1] (by kernel_rfl) ?_
    refine wpr_run (l₂ := []) true [0, 1] [] [(15, .bool false), (9, .int .i64 2), (4, .pointer (some ⟨g1, 0, none⟩)), (0, .pointer (some ⟨gw, 0, none⟩)), (2, .int .i64 (↑d : Int))] [.blk gw 105 [.pointer ad, .slice aw bs.length cw, .pointer (some ⟨g, 0, none⟩)], row 5 1 aw bs.length cw (u8s bs), ro (some ⟨g, 0, none⟩) [.bool true, .int .i64 most, .int .i64 (↑used : Int), .slice a l.length c], ro a (List.flatMap objC l), gBag l, gPow, .blk g1 28 [.int .i64 2, .int .i64 v.n, .string (mkS v.s)]] [] (by kernel_rfl) (by kernel_rfl) trivial ?_
    refine wpr_nil (nx_then ?_)
    refine wpc_false (by kernel_rfl) ?_
    refine wpc_seq ?_
    refine wpc_region [0, 1] (by kernel_rfl) ?_
    refine wpr_run (l₂ := []) true [0, 1] [] [(23, .bool true), (9, .int .i64 2), (4, .pointer (some ⟨g1, 0, none⟩)), (0, .pointer (some ⟨gw, 0, none⟩)), (2, .int .i64 (↑d : Int))] [.blk gw 105 [.pointer ad, .slice aw bs.length cw, .pointer (some ⟨g, 0, none⟩)], row 5 1 aw bs.length cw (u8s bs), ro (some ⟨g, 0, none⟩) [.bool true, .int .i64 most, .int .i64 (↑used : Int), .slice a l.length c], ro a (List.flatMap objC l), gBag l, gPow, .blk g1 28 [.int .i64 2, .int .i64 v.n, .string (mkS v.s)]] [] (by kernel_rfl) (by kernel_rfl) trivial ?_
    refine wpr_nil (nx_then ?_)
    refine wpc_true (by kernel_rfl) ?_
    refine wpc_region [0, 1, 2, 3, 4, 5, 6] (by kernel_rfl) ?_
    refine wpr_run (l₂ := [4, 5, 6]) true [0, 1, 2, 3] [6] [(28, .bool (v.n == 1)), (25, .pointer (some ⟨gw, 0, none⟩))] [.blk gw 105 [.pointer ad, .slice aw bs.length cw, .pointer (some ⟨g, 0, none⟩)], row 5 1 aw bs.length cw (u8s bs), ro (some ⟨g, 0, none⟩) [.bool true, .int .i64 most, .int .i64 (↑used : Int), .slice a l.length c], ro a (List.flatMap objC l), gBag l, gPow, .blk g1 28 [.int .i64 2, .int .i64 v.n, .string (mkS v.s)]] [] (by kernel_rfl) (by kernel_rfl) trivial ?_
    refine wpr_call (dst := some 29) (rest := [.blk gw 105 [.pointer ad, .slice aw bs.length cw, .pointer (some ⟨g, 0, none⟩)], row 5 1 aw bs.length cw (u8s bs), ro (some ⟨g, 0, none⟩) [.bool true, .int .i64 most, .int .i64 (↑used : Int), .slice a l.length c], ro a (List.flatMap objC l), gBag l, gPow, .blk g1 28 [.int .i64 2, .int .i64 v.n, .string (mkS v.s)]]) (by kernel_rfl) (hfb) (give [] (by kernel_rfl)) ?_
    rintro u _ ⟨rfl, rfl⟩
    refine wpr_new (l₂ := [6]) true [5] [] (fun g2 => [(30, .slice (some ⟨g2, 0, none⟩) 1 1), (25, .pointer (some ⟨gw, 0, none⟩))]) (fun g2 => [.blk gw 105 [.pointer ad, .slice aw bs.length cw, .pointer (some ⟨g, 0, none⟩)], row 5 1 aw bs.length cw (u8s bs), ro (some ⟨g, 0, none⟩) [.bool true, .int .i64 most, .int .i64 (↑used : Int), .slice a l.length c], ro a (List.flatMap objC l), gBag l, gPow, .blk g1 28 [.int .i64 2, .int .i64 v.n, .string (mkS v.s)], .blk g2 9 [.string (mkS T)]]) (fun g2 => []) (fun g2 => by kernel_rfl) (fun g2 => by kernel_rfl) (fun g2 => trivial) fun g2 => ?_
    refine wpr_ent (ent_turn (c := .blk g2 9 [.string (mkS T)]) 7 (ro (some ⟨g2, 0, none⟩) ([T].map strV)) rfl (turn_rblk (one_str _)) rfl) ?_
    refine wpr_call (dst := some 31) (rest := [ro (some ⟨g, 0, none⟩) [.bool true, .int .i64 most, .int .i64 (↑used : Int), .slice a l.length c], ro a (List.flatMap objC l), gBag l, gPow, .blk g1 28 [.int .i64 2, .int .i64 v.n, .string (mkS v.s)], ro (some ⟨g2, 0, none⟩) (List.map strV [T])]) (by kernel_rfl) (hput (some ⟨g2, 0, none⟩)) (Give.reorder (Give.view (c := (ro (some ⟨g2, 0, none⟩) (List.map strV [T]))) (give (pre := [.blk gw 105 [.pointer ad, .slice aw bs.length cw, .pointer (some ⟨g, 0, none⟩)], row 5 1 aw bs.length cw (u8s bs)]) (rest := [ro (some ⟨g, 0, none⟩) [.bool true, .int .i64 most, .int .i64 (↑used : Int), .slice a l.length c], ro a (List.flatMap objC l), gBag l, gPow, .blk g1 28 [.int .i64 2, .int .i64 v.n, .string (mkS v.s)], ro (some ⟨g2, 0, none⟩) (List.map strV [T])]) [0, 0] (by kernel_rfl)) 5 (by kernel_rfl) view_ro) [1, 1, 0] (by kernel_rfl)) ?_
    rintro u _ ⟨a2, c2, rfl, rfl⟩
    refine wpr_nil (nx_block ?_)
    refine nx_end (hp' := ([.blk gw 105 [.pointer (some ⟨gw, 0, none⟩), .slice a2 (bs ++ T).length c2, .pointer (some ⟨g, 0, none⟩)], row 5 1 a2 (bs ++ T).length c2 (u8s (bs ++ T))])) (rest := [ro (some ⟨g, 0, none⟩) [.bool true, .int .i64 most, .int .i64 (↑used : Int), .slice a l.length c], ro a (List.flatMap objC l), gBag l, gPow, .blk g1 28 [.int .i64 2, .int .i64 v.n, .string (mkS v.s)], ro (some ⟨g2, 0, none⟩) (List.map strV [T])]) [] ((Value.tuple #[])) (by kernel_rfl) (by kernel_rfl) (give [0, 0] (by kernel_rfl)) (by first | ((repeat (first | exact trivial | refine ⟨trivial, ?_⟩)); done) | assumption) ?_ (.inl rfl)
    exact ⟨a2, c2, rfl, rfl⟩
  by_cases h3 : v.k = 3
  · have hpl := right_plain hr h3
    have hql := quo_len hpl
    have htx : txt (l.map Ob.o) d v = quoL v.s := by rw [txt_k, if_neg h0, if_neg h1, if_neg h2, if_pos h3]
    have hput := fun p => wr_put_spec gw ad had aw cw bs (.pointer (some ⟨g, 0, none⟩)) p 1 [quoL v.s] (by omega) (by simp) (by simp) (by simp; omega)
    have hfl : [quoL v.s].flatten = quoL v.s := by simp
    rw [hfl] at hput
    rw [htx]
    have htt := TextStr_spec v.s hs
    rw [hpl, if_pos rfl, if_pos rfl] at htt
    unfold tokV at htt
    unfold valV
    rw [h3]
    refine fn_enter Tryz.func54 rfl 67 rfl fun w0 h0 => ?_
    refine wpc_seq ?_
    refine wpc_region [0] (by kernel_rfl) ?_
    refine wpr_new (l₂ := []) true [0] [] (fun g1 => [(4, .pointer (some ⟨g1, 0, none⟩)), (0, .pointer (some ⟨gw, 0, none⟩)), (2, .int .i64 (↑d : Int))]) (fun g1 => [.blk gw 105 [.pointer ad, .slice aw bs.length cw, .pointer (some ⟨g, 0, none⟩)], row 5 1 aw bs.length cw (u8s bs), ro (some ⟨g, 0, none⟩) [.bool true, .int .i64 most, .int .i64 (↑used : Int), .slice a l.length c], ro a (List.flatMap objC l), gBag l, gPow, .blk g1 28 [.int .i64 3, .int .i64 v.n, .string (mkS v.s)]]) (fun g1 => []) (fun g1 => by kernel_rfl) (fun g1 => by kernel_rfl) (fun g1 => trivial) fun g1 => ?_
    refine wpr_nil (nx_then (wpc_seq ?_))
    refine wpc_region [0, 1] (by kernel_rfl) ?_
    refine wpr_run (l₂ := []) true [0, 1] [6] [(9, .int .i64 3), (4, .pointer (some ⟨g1, 0, none⟩)), (0, .pointer (some ⟨gw, 0, none⟩)), (2, .int .i64 (↑d : Int))] [.blk gw 105 [.pointer ad, .slice aw bs.length cw, .pointer (some ⟨g, 0, none⟩)], row 5 1 aw bs.length cw (u8s bs), ro (some ⟨g, 0, none⟩) [.bool true, .int .i64 most, .int .i64 (↑used : Int), .slice a l.length c], ro a (List.flatMap objC l), gBag l, gPow, .blk g1 28 [.int .i64 3, .int .i64 v.n, .string (mkS v.s)]] [] (by kernel_rfl) (by kernel_rfl) trivial ?_
    refine wpr_nil (nx_then ?_)
    refine wpc_block ?_
    refine wpc_seq ?_
    refine wpc_region [0, 1] (by kernel_rfl) ?_
    refine wpr_run (l₂ := []) true [0, 1] [] [(10, .bool false), (9, .int .i64 3), (4, .pointer (some ⟨g1, 0, none⟩)), (0, .pointer (some ⟨gw, 0, none⟩)), (2, .int .i64 (↑d : Int))] [.blk gw 105 [.pointer ad, .slice aw bs.length cw, .pointer (some ⟨g, 0, none⟩)], row 5 1 aw bs.length cw (u8s bs), ro (some ⟨g, 0, none⟩) [.bool true, .int .i64 most, .int .i64 (↑used : Int), .slice a l.length c], ro a (List.flatMap objC l), gBag l, gPow, .blk g1 28 [.int .i64 3, .int .i64 v.n, .string (mkS v.s)]] [] (by kernel_rfl) (by kernel_rfl) trivial ?_
    refine wpr_nil (nx_then ?_)
    refine wpc_false (by kernel_rfl) ?_
    refine wpc_seq ?_
    refine wpc_region [0, 1] (by kernel_rfl) ?_
    refine wpr_run (l₂ := []) true [0, 1] [] [(15, .bool false), (9, .int .i64 3), (4, .pointer (some ⟨g1, 0, none⟩)), (0, .pointer (some ⟨gw, 0, none⟩)), (2, .int .i64 (↑d : Int))] [.blk gw 105 [.pointer ad, .slice aw bs.length cw, .pointer (some ⟨g, 0, none⟩)], row 5 1 aw bs.length cw (u8s bs), ro (some ⟨g, 0, none⟩) [.bool true, .int .i64 most, .int .i64 (↑used : Int), .slice a l.length c], ro a (List.flatMap objC l), gBag l, gPow, .blk g1 28 [.int .i64 3, .int .i64 v.n, .string (mkS v.s)]] [] (by kernel_rfl) (by kernel_rfl) trivial ?_
    refine wpr_nil (nx_then ?_)
    refine wpc_false (by kernel_rfl) ?_
    refine wpc_seq ?_
    refine wpc_region [0, 1] (by kernel_rfl) ?_
    refine wpr_run (l₂ := []) true [0, 1] [] [(23, .bool false), (9, .int .i64 3), (4, .pointer (some ⟨g1, 0, none⟩)), (0, .pointer (some ⟨gw, 0, none⟩)), (2, .int .i64 (↑d : Int))] [.blk gw 105 [.pointer ad, .slice aw bs.length cw, .pointer (some ⟨g, 0, none⟩)], row 5 1 aw bs.length cw (u8s bs), ro (some ⟨g, 0, none⟩) [.bool true, .int .i64 most, .int .i64 (↑used : Int), .slice a l.length c], ro a (List.flatMap objC l), gBag l, gPow, .blk g1 28 [.int .i64 3, .int .i64 v.n, .string (mkS v.s)]] [] (by kernel_rfl) (by kernel_rfl) trivial ?_
    refine wpr_nil (nx_then ?_)
    refine wpc_false (by kernel_rfl) ?_
    refine wpc_seq ?_
    refine wpc_region [0, 1] (by kernel_rfl) ?_
    refine wpr_run (l₂ := []) true [0, 1] [] [(32, .bool true), (9, .int .i64 3), (4, .pointer (some ⟨g1, 0, none⟩)), (0, .pointer (some ⟨gw, 0, none⟩)), (2, .int .i64 (↑d : Int))] [.blk gw 105 [.pointer ad, .slice aw bs.length cw, .pointer (some ⟨g, 0, none⟩)], row 5 1 aw bs.length cw (u8s bs), ro (some ⟨g, 0, none⟩) [.bool true, .int .i64 most, .int .i64 (↑used : Int), .slice a l.length c], ro a (List.flatMap objC l), gBag l, gPow, .blk g1 28 [.int .i64 3, .int .i64 v.n, .string (mkS v.s)]] [] (by kernel_rfl) (by kernel_rfl) trivial ?_
    refine wpr_nil (nx_then ?_)
    refine wpc_true (by kernel_rfl) ?_
    refine wpc_seq ?_
    refine wpc_region [0, 1, 2, 3, 4, 5, 6, 7, 8] (by kernel_rfl) ?_
    refine wpr_run (l₂ := [3, 4, 5, 6, 7, 8]) true [0, 1, 2] [6] [(37, .agg #[.int .i64 3, .string (mkS v.s), .int .i64 0, .int .i64 0, .int .i64 0]), (0, .pointer (some ⟨gw, 0, none⟩))] [.blk gw 105 [.pointer ad, .slice aw bs.length cw, .pointer (some ⟨g, 0, none⟩)], row 5 1 aw bs.length cw (u8s bs), ro (some ⟨g, 0, none⟩) [.bool true, .int .i64 most, .int .i64 (↑used : Int), .slice a l.length c], ro a (List.flatMap objC l), gBag l, gPow, .blk g1 28 [.int .i64 3, .int .i64 v.n, .string (mkS v.s)]] [] (by kernel_rfl) (by kernel_rfl) trivial ?_
    refine wpr_call (dst := some 38) (rest := [.blk gw 105 [.pointer ad, .slice aw bs.length cw, .pointer (some ⟨g, 0, none⟩)], row 5 1 aw bs.length cw (u8s bs), ro (some ⟨g, 0, none⟩) [.bool true, .int .i64 most, .int .i64 (↑used : Int), .slice a l.length c], ro a (List.flatMap objC l), gBag l, gPow, .blk g1 28 [.int .i64 3, .int .i64 v.n, .string (mkS v.s)]]) (by kernel_rfl) (htt) (give [] (by kernel_rfl)) ?_
    rintro u _ ⟨rfl, rfl⟩
    refine wpr_run (l₂ := []) true [4, 5, 6, 7, 8] [] [(6, .string (mkS (quoL v.s))), (0, .pointer (some ⟨gw, 0, none⟩))] [.blk gw 105 [.pointer ad, .slice aw bs.length cw, .pointer (some ⟨g, 0, none⟩)], row 5 1 aw bs.length cw (u8s bs), ro (some ⟨g, 0, none⟩) [.bool true, .int .i64 most, .int .i64 (↑used : Int), .slice a l.length c], ro a (List.flatMap objC l), gBag l, gPow, .blk g1 28 [.int .i64 3, .int .i64 v.n, .string (mkS v.s)]] [] (by kernel_rfl) (by kernel_rfl) trivial ?_
    refine wpr_nil (nx_then ?_)
    refine wpc_region [0, 1, 2, 3] (by kernel_rfl) ?_
    refine wpr_new (l₂ := [3]) true [0, 1, 2] [] (fun g2 => [(43, .slice (some ⟨g2, 0, none⟩) 1 1), (41, .pointer (some ⟨gw, 0, none⟩))]) (fun g2 => [.blk gw 105 [.pointer ad, .slice aw bs.length cw, .pointer (some ⟨g, 0, none⟩)], row 5 1 aw bs.length cw (u8s bs), ro (some ⟨g, 0, none⟩) [.bool true, .int .i64 most, .int .i64 (↑used : Int), .slice a l.length c], ro a (List.flatMap objC l), gBag l, gPow, .blk g1 28 [.int .i64 3, .int .i64 v.n, .string (mkS v.s)], .blk g2 9 [.string (mkS (quoL v.s))]]) (fun g2 => []) (fun g2 => by kernel_rfl) (fun g2 => by kernel_rfl) (fun g2 => trivial) fun g2 => ?_
    refine wpr_ent (ent_turn (c := .blk g2 9 [.string (mkS (quoL v.s))]) 7 (ro (some ⟨g2, 0, none⟩) ([quoL v.s].map strV)) rfl (turn_rblk (one_str _)) rfl) ?_
    refine wpr_call (dst := some 44) (rest := [ro (some ⟨g, 0, none⟩) [.bool true, .int .i64 most, .int .i64 (↑used : Int), .slice a l.length c], ro a (List.flatMap objC l), gBag l, gPow, .blk g1 28 [.int .i64 3, .int .i64 v.n, .string (mkS v.s)], ro (some ⟨g2, 0, none⟩) (List.map strV [quoL v.s])]) (by kernel_rfl) (hput (some ⟨g2, 0, none⟩)) (Give.reorder (Give.view (c := (ro (some ⟨g2, 0, none⟩) (List.map strV [quoL v.s]))) (give (pre := [.blk gw 105 [.pointer ad, .slice aw bs.length cw, .pointer (some ⟨g, 0, none⟩)], row 5 1 aw bs.length cw (u8s bs)]) (rest := [ro (some ⟨g, 0, none⟩) [.bool true, .int .i64 most, .int .i64 (↑used : Int), .slice a l.length c], ro a (List.flatMap objC l), gBag l, gPow, .blk g1 28 [.int .i64 3, .int .i64 v.n, .string (mkS v.s)], ro (some ⟨g2, 0, none⟩) (List.map strV [quoL v.s])]) [0, 0] (by kernel_rfl)) 5 (by kernel_rfl) view_ro) [1, 1, 0] (by kernel_rfl)) ?_
    rintro u _ ⟨a2, c2, rfl, rfl⟩
    refine wpr_nil (nx_block ?_)
    refine nx_end (hp' := ([.blk gw 105 [.pointer (some ⟨gw, 0, none⟩), .slice a2 (bs ++ quoL v.s).length c2, .pointer (some ⟨g, 0, none⟩)], row 5 1 a2 (bs ++ quoL v.s).length c2 (u8s (bs ++ quoL v.s))])) (rest := [ro (some ⟨g, 0, none⟩) [.bool true, .int .i64 most, .int .i64 (↑used : Int), .slice a l.length c], ro a (List.flatMap objC l), gBag l, gPow, .blk g1 28 [.int .i64 3, .int .i64 v.n, .string (mkS v.s)], ro (some ⟨g2, 0, none⟩) (List.map strV [quoL v.s])]) [] ((Value.tuple #[])) (by kernel_rfl) (by kernel_rfl) (give [0, 0] (by kernel_rfl)) (by first | ((repeat (first | exact trivial | refine ⟨trivial, ?_⟩)); done) | assumption) ?_ (.inl rfl)
    exact ⟨a2, c2, rfl, rfl⟩
  exact absurd hk (by rcases right_kind hr with h | h | h | h | h <;> first | exact fun hk => hk h | exact absurd h (by assumption))
theorem value_zero (g : Nat) (most : Int) (used : Nat) (a : Option Addr) (c : Nat) (l : List Ob) (v : V) (hk : v.k = 4) : ValS g most used a c l 0 v := by
  intro gw ad aw cw bs had hb
  have hd := tB_ge 0
  unfold wrH hctx
  have htx : txt (l.map Ob.o) 0 v = [46, 46, 46] := by rw [txt_k, if_neg (by omega), if_neg (by omega), if_neg (by omega), if_neg (by omega)]
  have hput := fun p => wr_put_spec gw ad had aw cw bs (.pointer (some ⟨g, 0, none⟩)) p 1 [[46, 46, 46]] (by omega) (by simp) (by simp) (by simp)
  rw [htx]
  unfold valV
  rw [hk]
  refine fn_enter Tryz.func54 rfl 67 rfl fun w0 h0 => ?_
  refine wpc_seq ?_
  refine wpc_region [0] (by kernel_rfl) ?_
  refine wpr_new (l₂ := []) true [0] [] (fun g1 => [(4, .pointer (some ⟨g1, 0, none⟩)), (0, .pointer (some ⟨gw, 0, none⟩)), (2, .int .i64 0)]) (fun g1 => [.blk gw 105 [.pointer ad, .slice aw bs.length cw, .pointer (some ⟨g, 0, none⟩)], row 5 1 aw bs.length cw (u8s bs), ro (some ⟨g, 0, none⟩) [.bool true, .int .i64 most, .int .i64 (↑used : Int), .slice a l.length c], ro a (List.flatMap objC l), gBag l, gPow, .blk g1 28 [.int .i64 4, .int .i64 v.n, .string (mkS v.s)]]) (fun g1 => []) (fun g1 => by kernel_rfl) (fun g1 => by kernel_rfl) (fun g1 => trivial) fun g1 => ?_
  refine wpr_nil (nx_then (wpc_seq ?_))
  refine wpc_region [0, 1] (by kernel_rfl) ?_
  refine wpr_run (l₂ := []) true [0, 1] [6] [(9, .int .i64 4), (4, .pointer (some ⟨g1, 0, none⟩)), (0, .pointer (some ⟨gw, 0, none⟩)), (2, .int .i64 0)] [.blk gw 105 [.pointer ad, .slice aw bs.length cw, .pointer (some ⟨g, 0, none⟩)], row 5 1 aw bs.length cw (u8s bs), ro (some ⟨g, 0, none⟩) [.bool true, .int .i64 most, .int .i64 (↑used : Int), .slice a l.length c], ro a (List.flatMap objC l), gBag l, gPow, .blk g1 28 [.int .i64 4, .int .i64 v.n, .string (mkS v.s)]] [] (by kernel_rfl) (by kernel_rfl) trivial ?_
  refine wpr_nil (nx_then ?_)
  refine wpc_block ?_
  refine wpc_seq ?_
  refine wpc_region [0, 1] (by kernel_rfl) ?_
  refine wpr_run (l₂ := []) true [0, 1] [] [(10, .bool false), (9, .int .i64 4), (4, .pointer (some ⟨g1, 0, none⟩)), (0, .pointer (some ⟨gw, 0, none⟩)), (2, .int .i64 0)] [.blk gw 105 [.pointer ad, .slice aw bs.length cw, .pointer (some ⟨g, 0, none⟩)], row 5 1 aw bs.length cw (u8s bs), ro (some ⟨g, 0, none⟩) [.bool true, .int .i64 most, .int .i64 (↑used : Int), .slice a l.length c], ro a (List.flatMap objC l), gBag l, gPow, .blk g1 28 [.int .i64 4, .int .i64 v.n, .string (mkS v.s)]] [] (by kernel_rfl) (by kernel_rfl) trivial ?_
  refine wpr_nil (nx_then ?_)
  refine wpc_false (by kernel_rfl) ?_
  refine wpc_seq ?_
  refine wpc_region [0, 1] (by kernel_rfl) ?_
  refine wpr_run (l₂ := []) true [0, 1] [] [(15, .bool false), (9, .int .i64 4), (4, .pointer (some ⟨g1, 0, none⟩)), (0, .pointer (some ⟨gw, 0, none⟩)), (2, .int .i64 0)] [.blk gw 105 [.pointer ad, .slice aw bs.length cw, .pointer (some ⟨g, 0, none⟩)], row 5 1 aw bs.length cw (u8s bs), ro (some ⟨g, 0, none⟩) [.bool true, .int .i64 most, .int .i64 (↑used : Int), .slice a l.length c], ro a (List.flatMap objC l), gBag l, gPow, .blk g1 28 [.int .i64 4, .int .i64 v.n, .string (mkS v.s)]] [] (by kernel_rfl) (by kernel_rfl) trivial ?_
  refine wpr_nil (nx_then ?_)
  refine wpc_false (by kernel_rfl) ?_
  refine wpc_seq ?_
  refine wpc_region [0, 1] (by kernel_rfl) ?_
  refine wpr_run (l₂ := []) true [0, 1] [] [(23, .bool false), (9, .int .i64 4), (4, .pointer (some ⟨g1, 0, none⟩)), (0, .pointer (some ⟨gw, 0, none⟩)), (2, .int .i64 0)] [.blk gw 105 [.pointer ad, .slice aw bs.length cw, .pointer (some ⟨g, 0, none⟩)], row 5 1 aw bs.length cw (u8s bs), ro (some ⟨g, 0, none⟩) [.bool true, .int .i64 most, .int .i64 (↑used : Int), .slice a l.length c], ro a (List.flatMap objC l), gBag l, gPow, .blk g1 28 [.int .i64 4, .int .i64 v.n, .string (mkS v.s)]] [] (by kernel_rfl) (by kernel_rfl) trivial ?_
  refine wpr_nil (nx_then ?_)
  refine wpc_false (by kernel_rfl) ?_
  refine wpc_seq ?_
  refine wpc_region [0, 1] (by kernel_rfl) ?_
  refine wpr_run (l₂ := []) true [0, 1] [] [(32, .bool false), (9, .int .i64 4), (4, .pointer (some ⟨g1, 0, none⟩)), (0, .pointer (some ⟨gw, 0, none⟩)), (2, .int .i64 0)] [.blk gw 105 [.pointer ad, .slice aw bs.length cw, .pointer (some ⟨g, 0, none⟩)], row 5 1 aw bs.length cw (u8s bs), ro (some ⟨g, 0, none⟩) [.bool true, .int .i64 most, .int .i64 (↑used : Int), .slice a l.length c], ro a (List.flatMap objC l), gBag l, gPow, .blk g1 28 [.int .i64 4, .int .i64 v.n, .string (mkS v.s)]] [] (by kernel_rfl) (by kernel_rfl) trivial ?_
  refine wpr_nil (nx_then ?_)
  refine wpc_false (by kernel_rfl) ?_
  refine wpc_seq ?_
  refine wpc_region [0, 1] (by kernel_rfl) ?_
  refine wpr_run (l₂ := []) true [0, 1] [] [(45, .bool true), (4, .pointer (some ⟨g1, 0, none⟩)), (0, .pointer (some ⟨gw, 0, none⟩)), (2, .int .i64 0)] [.blk gw 105 [.pointer ad, .slice aw bs.length cw, .pointer (some ⟨g, 0, none⟩)], row 5 1 aw bs.length cw (u8s bs), ro (some ⟨g, 0, none⟩) [.bool true, .int .i64 most, .int .i64 (↑used : Int), .slice a l.length c], ro a (List.flatMap objC l), gBag l, gPow, .blk g1 28 [.int .i64 4, .int .i64 v.n, .string (mkS v.s)]] [] (by kernel_rfl) (by kernel_rfl) trivial ?_
  refine wpr_nil (nx_then ?_)
  refine wpc_true (by kernel_rfl) ?_
  refine wpc_seq (wpc_seq ?_)
  refine wpc_region [0, 1] (by kernel_rfl) ?_
  refine wpr_run (l₂ := []) true [0, 1] [] [(48, .bool true), (4, .pointer (some ⟨g1, 0, none⟩)), (0, .pointer (some ⟨gw, 0, none⟩)), (2, .int .i64 0)] [.blk gw 105 [.pointer ad, .slice aw bs.length cw, .pointer (some ⟨g, 0, none⟩)], row 5 1 aw bs.length cw (u8s bs), ro (some ⟨g, 0, none⟩) [.bool true, .int .i64 most, .int .i64 (↑used : Int), .slice a l.length c], ro a (List.flatMap objC l), gBag l, gPow, .blk g1 28 [.int .i64 4, .int .i64 v.n, .string (mkS v.s)]] [] (by kernel_rfl) (by kernel_rfl) trivial ?_
  refine wpr_nil (nx_then ?_)
  refine wpc_true (by kernel_rfl) ?_
  refine wpc_seq ?_
  refine wpc_region [0, 1, 2] (by kernel_rfl) ?_
  refine wpr_new (l₂ := [2]) true [0, 1] [] (fun g2 => [(50, .slice (some ⟨g2, 0, none⟩) 1 1), (49, .pointer (some ⟨gw, 0, none⟩)), (4, .pointer (some ⟨g1, 0, none⟩)), (0, .pointer (some ⟨gw, 0, none⟩)), (2, .int .i64 0)]) (fun g2 => [.blk gw 105 [.pointer ad, .slice aw bs.length cw, .pointer (some ⟨g, 0, none⟩)], row 5 1 aw bs.length cw (u8s bs), ro (some ⟨g, 0, none⟩) [.bool true, .int .i64 most, .int .i64 (↑used : Int), .slice a l.length c], ro a (List.flatMap objC l), gBag l, gPow, .blk g1 28 [.int .i64 4, .int .i64 v.n, .string (mkS v.s)], .blk g2 9 [.string (ByteArray.mk #[46, 46, 46])]]) (fun g2 => []) (fun g2 => by kernel_rfl) (fun g2 => by kernel_rfl) (fun g2 => trivial) fun g2 => ?_
  refine wpr_ent (ent_turn (c := .blk g2 9 [.string (mkS [46, 46, 46])]) 7 (ro (some ⟨g2, 0, none⟩) ([[46, 46, 46]].map strV)) rfl (turn_rblk (one_str _)) rfl) ?_
  refine wpr_call (dst := some 51) (rest := [ro (some ⟨g, 0, none⟩) [.bool true, .int .i64 most, .int .i64 (↑used : Int), .slice a l.length c], ro a (List.flatMap objC l), gBag l, gPow, .blk g1 28 [.int .i64 4, .int .i64 v.n, .string (mkS v.s)], ro (some ⟨g2, 0, none⟩) (List.map strV [[46, 46, 46]])]) (by kernel_rfl) (hput (some ⟨g2, 0, none⟩)) (Give.reorder (Give.view (c := (ro (some ⟨g2, 0, none⟩) (List.map strV [[46, 46, 46]]))) (give (pre := [.blk gw 105 [.pointer ad, .slice aw bs.length cw, .pointer (some ⟨g, 0, none⟩)], row 5 1 aw bs.length cw (u8s bs)]) (rest := [ro (some ⟨g, 0, none⟩) [.bool true, .int .i64 most, .int .i64 (↑used : Int), .slice a l.length c], ro a (List.flatMap objC l), gBag l, gPow, .blk g1 28 [.int .i64 4, .int .i64 v.n, .string (mkS v.s)], ro (some ⟨g2, 0, none⟩) (List.map strV [[46, 46, 46]])]) [0, 0] (by kernel_rfl)) 5 (by kernel_rfl) view_ro) [1, 1, 0] (by kernel_rfl)) ?_
  rintro u _ ⟨a2, c2, rfl, rfl⟩
  refine wpr_nil (nx_then ?_)
  refine wpc_ret ?_
  refine nx_then_ret ?_
  refine nx_block_ret ?_
  refine nx_end (hp' := ([.blk gw 105 [.pointer (some ⟨gw, 0, none⟩), .slice a2 (bs ++ [[46, 46, 46]].flatten).length c2, .pointer (some ⟨g, 0, none⟩)], row 5 1 a2 (bs ++ [[46, 46, 46]].flatten).length c2 (u8s (bs ++ [[46, 46, 46]].flatten))])) (rest := [ro (some ⟨g, 0, none⟩) [.bool true, .int .i64 most, .int .i64 (↑used : Int), .slice a l.length c], ro a (List.flatMap objC l), gBag l, gPow, .blk g1 28 [.int .i64 4, .int .i64 v.n, .string (mkS v.s)], ro (some ⟨g2, 0, none⟩) (List.map strV [[46, 46, 46]])]) [] ((Value.tuple #[])) (by kernel_rfl) (by kernel_rfl) (give [0, 0] (by kernel_rfl)) (by first | ((repeat (first | exact trivial | refine ⟨trivial, ?_⟩)); done) | assumption) ?_ (.inr rfl)
  exact ⟨a2, c2, rfl, rfl⟩
end Go.Proofs.YtpfhleghgkeemaaGreatDoor
