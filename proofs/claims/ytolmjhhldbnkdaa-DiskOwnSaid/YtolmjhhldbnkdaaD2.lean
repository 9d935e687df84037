import Derived.Test.YtolmjhhldbnkdaaD1
import Derived.Test.YtolmjhhldbnkdaaX8
namespace Go.Proofs.Ytolmjhhldbnkdaa
open Go Go.Sx
set_option linter.unusedVariables false
set_option linter.unusedSimpArgs false

theorem Clone_spec (b : Option Addr) (cb : Nat) (xs : List UInt8) (hb : b = none → xs = []) (hl : xs.length ≤ 140737488351232) :
    Does Try.prog 26 [.slice b xs.length cb] [ro b (u8s xs)] (fun v hp' => ∃ a' c', v = .slice a' xs.length c' ∧ hp' = [row 5 1 a' xs.length c' (u8s xs)]) := by
  cases b with
  | none =>
    obtain rfl := hb rfl
    refine fn_enter Try.func26 rfl 8 rfl fun w0 _ => ?_
    refine wpc_seq ?_
    refine wpc_region [0] (by kernel_rfl) ?_
    refine wpr_run (l₂ := []) true [0] [] [(2, Value.slice none 0 0), (0, Value.slice none 0 cb)] [ro none (u8s [])] [] (by kernel_rfl) (by kernel_rfl) trivial ?_
    refine wpr_nil ?_
    refine nx_then ?_
    refine wpc_seq ?_
    refine wpc_seq ?_
    refine wpc_region [0, 1] (by kernel_rfl) ?_
    refine wpr_run (l₂ := []) true [0, 1] [] [(4, Value.bool true), (2, Value.slice none 0 0), (0, Value.slice none 0 cb)] [ro none (u8s [])] [] (by kernel_rfl) (by kernel_rfl) trivial ?_
    refine wpr_nil ?_
    refine nx_then ?_
    refine wpc_true (by kernel_rfl) ?_
    refine wpc_seq ?_
    refine wpc_region [0] (by kernel_rfl) ?_
    refine wpr_run (l₂ := []) true [0] [] [(2, Value.slice none 0 0), (0, Value.slice none 0 cb)] [ro none (u8s [])] [] (by kernel_rfl) (by kernel_rfl) trivial ?_
    refine wpr_nil ?_
    refine nx_then ?_
    refine wpc_ret ?_
    refine nx_then_ret ?_
    refine nx_ent (ent_nil 5 1) ?_
    refine nx_end (hp' := [row 5 1 none 0 0 []]) (rest := [ro none (u8s [])]) [] ((Value.slice none 0 0)) (by kernel_rfl) (by kernel_rfl) (give [0] (by kernel_rfl)) (by first | ((repeat (first | exact trivial | refine ⟨trivial, ?_⟩)); done) | assumption) ?_ (.inr rfl)
    exact ⟨_, _, rfl, rfl⟩
  | some ad =>
    refine fn_enter Try.func26 rfl 8 rfl fun w0 _ => ?_
    refine wpc_seq ?_
    refine wpc_region [0] (by kernel_rfl) ?_
    refine wpr_run (l₂ := []) true [0] [] [(2, Value.slice none 0 0), (0, Value.slice (some ad) xs.length cb)] [ro (some ad) (u8s xs)] [] (by kernel_rfl) (by kernel_rfl) trivial ?_
    refine wpr_nil ?_
    refine nx_then ?_
    refine wpc_seq ?_
    refine wpc_seq ?_
    refine wpc_region [0, 1] (by kernel_rfl) ?_
    refine wpr_run (l₂ := []) true [0, 1] [] [(4, Value.bool false), (2, Value.slice none 0 0), (0, Value.slice (some ad) xs.length cb)] [ro (some ad) (u8s xs)] [] (by kernel_rfl) (by kernel_rfl) trivial ?_
    refine wpr_nil ?_
    refine nx_then ?_
    refine wpc_false (by kernel_rfl) ?_
    refine wpc_skip ?_
    refine nx_then ?_
    refine wpc_seq ?_
    refine wpc_region [0, 1, 2, 3] (by kernel_rfl) ?_
    refine wpr_new (l₂ := [1, 2, 3]) true [0] [] (fun g1 => [(5, Value.slice (some { block := g1, off := 0 }) 0 0), (2, Value.slice none 0 0), (0, Value.slice (some ad) xs.length cb)]) (fun g1 => [ro (some ad) (u8s xs), Ch.blk g1 5 []]) (fun g1 => []) (fun g1 => by kernel_rfl) (fun g1 => by kernel_rfl) (fun g1 => trivial) fun g1 => ?_
    refine wpr_run (l₂ := [2, 3]) true [1] [] [(6, Value.slice (some ad) xs.length cb), (5, Value.slice (some { block := g1, off := 0 }) 0 0), (2, Value.slice none 0 0)] [ro (some ad) (u8s xs), Ch.blk g1 5 []] [] (by kernel_rfl) (by kernel_rfl) trivial ?_
    refine wpr_ent (ent_turn 1 (row 5 1 (some ⟨g1, 0, none⟩) 0 0 []) rfl (turn_blk rfl (by intro u hu; cases hu) (by simp)) rfl) ?_
    refine wpr_app (a := (some { block := g1, off := 0 })) (n := 0) (cap := 0) (x := (Value.slice (some ad) xs.length cb)) (t := 22) (xt := 22) (dst := some 7) (by kernel_rfl) (e := 5) (sz := 1) (bytes := 1) (by kernel_rfl) 1 (xs := []) (by kernel_rfl) (m := (xs.length)) (news := (u8s xs)) (fun w h => src_ro h 0 rfl (by simp [u8s_len]) (fun e => by cases e)) (by unfold maxLen; omega) (by omega) ?_
    intro a1 c1 hn
    simp only [List.nil_append, Nat.zero_add]
    refine wpr_run (l₂ := []) true [3] [] [(2, Value.slice a1 xs.length c1)] [ro (some ad) (u8s xs), row 5 1 a1 xs.length c1 (u8s xs)] [] (by kernel_rfl) (by kernel_rfl) trivial ?_
    refine wpr_nil ?_
    refine nx_then ?_
    refine wpc_ret ?_
    refine nx_end (hp' := [row 5 1 a1 xs.length c1 (u8s xs)]) (rest := [ro (some ad) (u8s xs)]) [] ((Value.slice a1 xs.length c1)) (by kernel_rfl) (by kernel_rfl) (give [1] (by kernel_rfl)) (by first | ((repeat (first | exact trivial | refine ⟨trivial, ?_⟩)); done) | assumption) ?_ (.inr rfl)
    exact ⟨_, _, rfl, rfl⟩

def DH (d : Nat) (a : Option Addr) (c : Nat) (bs : List UInt8) (s : Int) : Hp := [dblk d a bs.length c s, row 5 1 a bs.length c (u8s bs)]

theorem app1 (d t u : Nat) (a b : Option Addr) (c cb : Nat) (s : Int) (bs xs : List UInt8) (hb : b = none → xs = []) (hl : bs.length + xs.length ≤ 140737488351232) :
    Does Try.prog 22 [.pointer (some ⟨t, 0, none⟩), .pointer (some ⟨u, 0, none⟩)]
      [dblk d a bs.length c s, row 5 1 a bs.length c (u8s bs), .blk t 23 [.pointer (some ⟨d, 0, none⟩)], .blk u 22 [.slice b xs.length cb], ro b (u8s xs)]
      (fun v hp' => v = .tuple #[] ∧ ∃ a' c', hp' = DH d a' c' (bs ++ xs) s) := by
  refine fn_enter Try.func22 rfl 11 rfl fun w0 _ => ?_
  unfold dblk
  refine wpc_draw (by kernel_rfl) [Ch.blk t 23 [Value.pointer (some { block := d, off := 0 })], Ch.blk u 22 [Value.slice b xs.length cb], ro b (u8s xs)] (sub_of [2, 3, 4] (by kernel_rfl)) 10 (by kernel_rfl) ?_
  refine wpa_take true [(0, [0]), (1, [0]), (2, []), (3, []), (5, [1])] [(7, Value.slice b xs.length cb), (5, Value.pointer (some { block := d, off := 1 })), (2, Value.pointer (some { block := d, off := 0 }))] (#[true, true, true, true, false, true, false, false, false, false]) [] (n := 5) (by kernel_rfl) (by kernel_rfl) (by kernel_rfl) trivial ?_
  refine wpa_one (n := 4) true 4 [0] [(6, Value.slice a bs.length c), (7, Value.slice b xs.length cb), (2, Value.pointer (some { block := d, off := 0 }))] [Ch.blk d 46 [Value.bool true, Value.slice a bs.length c, Value.int IntKind.i64 s], row 5 1 a bs.length c (u8s bs), Ch.blk t 23 [Value.pointer (some { block := d, off := 0 })], Ch.blk u 22 [Value.slice b xs.length cb], ro b (u8s xs)] [] (by kernel_rfl) (by kernel_rfl) (by kernel_rfl) trivial (sub_of [2, 3, 4] (by kernel_rfl)) ?_
  refine wpa_app (i := 6) (nf := 3) (by kernel_rfl) (a := a) (n := bs.length) (cap := c) (x := (Value.slice b xs.length cb)) (t := 22) (xt := 22) (dst := some 8) (by kernel_rfl) (e := 5) (sz := 1) (bytes := 1) (by kernel_rfl) 1 (xs := (u8s bs)) (by kernel_rfl) (m := (xs.length)) (news := (u8s xs)) (fun w h => src_ro h 4 rfl (by simp [u8s_len]) (fun e => by rw [hb e]; rfl)) (by unfold maxLen; omega) (by omega) [1, 2, 3] (by kernel_rfl) ?_
  intro a1 c1 hn
  refine wpa_take true [(7, []), (8, [])] ([(10, Value.pointer (some { block := d, off := 1 })), (8, Value.slice a1 (bs.length + xs.length) c1)]) (#[true, true, true, true, true, true, true, true, true, false]) [] (n := 1) (by kernel_rfl) (by kernel_rfl) (by kernel_rfl) trivial ?_
  refine wpa_one (n := 0) true 9 [0] [] ([Ch.blk d 46 [Value.bool true, Value.slice a1 (bs.length + xs.length) c1, Value.int IntKind.i64 s], row 5 1 a1 (bs.length + xs.length) c1 (u8s bs ++ u8s xs), Ch.blk t 23 [Value.pointer (some { block := d, off := 0 })], Ch.blk u 22 [Value.slice b xs.length cb], ro b (u8s xs)]) [] (by kernel_rfl) (by kernel_rfl) (by kernel_rfl) trivial (sub_of [2, 3, 4] (by kernel_rfl)) ?_
  refine wpa_done 0 (by kernel_rfl) ?_
  refine nx_end (hp' := ([Ch.blk d 46 [Value.bool true, Value.slice a1 (bs.length + xs.length) c1, Value.int IntKind.i64 s], row 5 1 a1 (bs.length + xs.length) c1 (u8s bs ++ u8s xs)])) (rest := [Ch.blk t 23 [Value.pointer (some { block := d, off := 0 })], Ch.blk u 22 [Value.slice b xs.length cb], ro b (u8s xs)]) [] ((Value.tuple #[])) (by kernel_rfl) (by kernel_rfl) (give [0, 0] (by kernel_rfl)) (by first | ((repeat (first | exact trivial | refine ⟨trivial, ?_⟩)); done) | assumption) ?_ (.inl rfl)
  exact ⟨rfl, a1, c1, by simp [DH, dblk, u8s]⟩

theorem sync1 (d t : Nat) (a : Option Addr) (c : Nat) (s : Int) (bs : List UInt8) :
    Does Try.prog 23 [.pointer (some ⟨t, 0, none⟩)] [dblk d a bs.length c s, row 5 1 a bs.length c (u8s bs), .blk t 23 [.pointer (some ⟨d, 0, none⟩)]]
      (fun v hp' => v = .tuple #[] ∧ hp' = DH d a c bs bs.length) := by
  refine fn_enter Try.func23 rfl 9 rfl fun w0 _ => ?_
  unfold dblk
  refine wpc_draw (by kernel_rfl) [row 5 1 a bs.length c (u8s bs), Ch.blk t 23 [Value.pointer (some { block := d, off := 0 })]] (sub_of [1, 2] (by kernel_rfl)) 9 (by kernel_rfl) ?_
  refine wpa_take true [(0, [1]), (1, [1]), (2, []), (3, [])] [(4, Value.pointer (some { block := d, off := 1 })), (1, Value.pointer (some { block := d, off := 0 }))] (#[true, true, true, true, false, false, false, false, false]) [] (n := 5) (by kernel_rfl) (by kernel_rfl) (by kernel_rfl) trivial ?_
  refine wpa_one (n := 4) true 4 [0] [(5, Value.slice a bs.length c), (1, Value.pointer (some { block := d, off := 0 }))] [Ch.blk d 46 [Value.bool true, Value.slice a bs.length c, Value.int IntKind.i64 s], row 5 1 a bs.length c (u8s bs), Ch.blk t 23 [Value.pointer (some { block := d, off := 0 })]] [] (by kernel_rfl) (by kernel_rfl) (by kernel_rfl) trivial (sub_of [1, 2] (by kernel_rfl)) ?_
  refine wpa_take true [(5, []), (6, []), (7, [])] [(8, Value.pointer (some { block := d, off := 2 })), (6, Value.int IntKind.i64 (↑bs.length : Int))] (#[true, true, true, true, true, true, true, true, false]) [] (n := 1) (by kernel_rfl) (by kernel_rfl) (by kernel_rfl) trivial ?_
  refine wpa_one (n := 0) true 8 [0] [] [Ch.blk d 46 [Value.bool true, Value.slice a bs.length c, Value.int IntKind.i64 (↑bs.length : Int)], row 5 1 a bs.length c (u8s bs), Ch.blk t 23 [Value.pointer (some { block := d, off := 0 })]] [] (by kernel_rfl) (by kernel_rfl) (by kernel_rfl) trivial (sub_of [1, 2] (by kernel_rfl)) ?_
  refine wpa_done 0 (by kernel_rfl) ?_
  refine nx_end (hp' := [Ch.blk d 46 [Value.bool true, Value.slice a bs.length c, Value.int IntKind.i64 (↑bs.length : Int)], row 5 1 a bs.length c (u8s bs)]) (rest := [Ch.blk t 23 [Value.pointer (some { block := d, off := 0 })]]) [] ((Value.tuple #[])) (by kernel_rfl) (by kernel_rfl) (give [0, 0] (by kernel_rfl)) (by first | ((repeat (first | exact trivial | refine ⟨trivial, ?_⟩)); done) | assumption) ?_ (.inl rfl)
  exact ⟨rfl, rfl⟩

theorem crash1 (d t u : Nat) (a : Option Addr) (c : Nat) (s keep : Int) (bs : List UInt8) (hs : 0 ≤ s) (hs2 : s ≤ bs.length) (hl : bs.length ≤ 140737488351232) (K : Nat) (hK : (K : Int) = s + max 0 (min keep (bs.length - s))) :
    Does Try.prog 24 [.pointer (some ⟨t, 0, none⟩), .pointer (some ⟨u, 0, none⟩)] [dblk d a bs.length c s, row 5 1 a bs.length c (u8s bs), .blk t 23 [.pointer (some ⟨d, 0, none⟩)], .blk u 3 [.int .i64 keep]]
      (fun v hp' => v = .tuple #[] ∧ hp' = DH d a K (bs.take K) K) := by
  refine fn_enter Try.func24 rfl 35 rfl fun w0 h0 => ?_
  have hc := (row_cap h0 1 rfl).2.1
  unfold dblk
  refine wpc_seq ?_
  refine wpc_draw (by kernel_rfl) [Ch.blk d 46 [Value.bool true, Value.slice a bs.length c, Value.int IntKind.i64 s], row 5 1 a bs.length c (u8s bs), Ch.blk t 23 [Value.pointer (some { block := d, off := 0 })], Ch.blk u 3 [Value.int IntKind.i64 keep]] (sub_of [0, 1, 2, 3] (by kernel_rfl)) 19 (by kernel_rfl) ?_
  refine wpa_take true [(0, [2]), (1, []), (2, []), (3, [0]), (4, [3]), (5, [2]), (6, []), (7, []), (8, [0]), (9, []), (10, [2]), (11, []), (12, []), (13, [0]), (14, []), (15, []), (16, []), (17, []), (18, [])] ([(2, Value.int IntKind.i64 (s + if (if (↑bs.length : Int) - s < keep then (↑bs.length : Int) - s else keep) > 0 then if (↑bs.length : Int) - s < keep then (↑bs.length : Int) - s else keep else 0)), (0, Value.pointer (some { block := t, off := 0 }))]) (#[true, true, true, true, true, true, true, true, true, true, true, true, true, true, true, true, true, true, true]) ([inI64 ((↑bs.length : Int) - s), inI64 (s + if (if (↑bs.length : Int) - s < keep then (↑bs.length : Int) - s else keep) > 0 then if (↑bs.length : Int) - s < keep then (↑bs.length : Int) - s else keep else 0)]) (n := 0) (by kernel_rfl) (by kernel_rfl) (by kernel_rfl) ⟨by unfold inI64; omega, by unfold inI64; omega, trivial⟩ ?_
  refine wpa_done 0 (by kernel_rfl) ?_
  refine nx_then ?_
  refine wpc_seq ?_
  refine wpc_draw (by kernel_rfl) [row 5 1 a bs.length c (u8s bs), Ch.blk t 23 [Value.pointer (some { block := d, off := 0 })], Ch.blk u 3 [Value.int IntKind.i64 keep]] (sub_of [1, 2, 3] (by kernel_rfl)) 11 (by kernel_rfl) ?_
  refine wpa_take true [(0, [1]), (1, [1]), (2, []), (3, []), (5, []), (6, [])] ([(27, Value.int IntKind.i64 (s + if (if (↑bs.length : Int) - s < keep then (↑bs.length : Int) - s else keep) > 0 then if (↑bs.length : Int) - s < keep then (↑bs.length : Int) - s else keep else 0)), (26, Value.int IntKind.i64 (s + if (if (↑bs.length : Int) - s < keep then (↑bs.length : Int) - s else keep) > 0 then if (↑bs.length : Int) - s < keep then (↑bs.length : Int) - s else keep else 0)), (24, Value.pointer (some { block := d, off := 1 })), (21, Value.pointer (some { block := d, off := 0 })), (2, Value.int IntKind.i64 (s + if (if (↑bs.length : Int) - s < keep then (↑bs.length : Int) - s else keep) > 0 then if (↑bs.length : Int) - s < keep then (↑bs.length : Int) - s else keep else 0)), (0, Value.pointer (some { block := t, off := 0 }))]) (#[true, true, true, true, false, true, true, false, false, false, false]) [] (n := 5) (by kernel_rfl) (by kernel_rfl) (by kernel_rfl) trivial ?_
  refine wpa_one (n := 4) true 4 [0] ([(25, Value.slice a bs.length c), (27, Value.int IntKind.i64 (s + if (if (↑bs.length : Int) - s < keep then (↑bs.length : Int) - s else keep) > 0 then if (↑bs.length : Int) - s < keep then (↑bs.length : Int) - s else keep else 0)), (26, Value.int IntKind.i64 (s + if (if (↑bs.length : Int) - s < keep then (↑bs.length : Int) - s else keep) > 0 then if (↑bs.length : Int) - s < keep then (↑bs.length : Int) - s else keep else 0)), (21, Value.pointer (some { block := d, off := 0 })), (2, Value.int IntKind.i64 (s + if (if (↑bs.length : Int) - s < keep then (↑bs.length : Int) - s else keep) > 0 then if (↑bs.length : Int) - s < keep then (↑bs.length : Int) - s else keep else 0)), (0, Value.pointer (some { block := t, off := 0 }))]) [Ch.blk d 46 [Value.bool true, Value.slice a bs.length c, Value.int IntKind.i64 s], row 5 1 a bs.length c (u8s bs), Ch.blk t 23 [Value.pointer (some { block := d, off := 0 })], Ch.blk u 3 [Value.int IntKind.i64 keep]] [] (by kernel_rfl) (by kernel_rfl) (by kernel_rfl) trivial (sub_of [1, 2, 3] (by kernel_rfl)) ?_
  refine wpa_take true [(7, []), (8, []), (9, [])] ([(30, Value.pointer (some { block := d, off := 1 })), (28, Value.slice a (s + if (if (↑bs.length : Int) - s < keep then (↑bs.length : Int) - s else keep) > 0 then if (↑bs.length : Int) - s < keep then (↑bs.length : Int) - s else keep else 0).toNat (s + if (if (↑bs.length : Int) - s < keep then (↑bs.length : Int) - s else keep) > 0 then if (↑bs.length : Int) - s < keep then (↑bs.length : Int) - s else keep else 0).toNat), (2, Value.int IntKind.i64 (s + if (if (↑bs.length : Int) - s < keep then (↑bs.length : Int) - s else keep) > 0 then if (↑bs.length : Int) - s < keep then (↑bs.length : Int) - s else keep else 0)), (0, Value.pointer (some { block := t, off := 0 }))]) (#[true, true, true, true, true, true, true, true, true, true, false]) ([(0 ≤ s + if (if (↑bs.length : Int) - s < keep then (↑bs.length : Int) - s else keep) > 0 then if (↑bs.length : Int) - s < keep then (↑bs.length : Int) - s else keep else 0) ∧ (s + if (if (↑bs.length : Int) - s < keep then (↑bs.length : Int) - s else keep) > 0 then if (↑bs.length : Int) - s < keep then (↑bs.length : Int) - s else keep else 0) ≤ (↑c : Int), (0 ≤ s + if (if (↑bs.length : Int) - s < keep then (↑bs.length : Int) - s else keep) > 0 then if (↑bs.length : Int) - s < keep then (↑bs.length : Int) - s else keep else 0) ∧ (s + if (if (↑bs.length : Int) - s < keep then (↑bs.length : Int) - s else keep) > 0 then if (↑bs.length : Int) - s < keep then (↑bs.length : Int) - s else keep else 0) ≤ s + if (if (↑bs.length : Int) - s < keep then (↑bs.length : Int) - s else keep) > 0 then if (↑bs.length : Int) - s < keep then (↑bs.length : Int) - s else keep else 0]) (n := 1) (by kernel_rfl) (by kernel_rfl) (by kernel_rfl) ⟨by omega, by omega, trivial⟩ ?_
  refine wpa_one (n := 0) true 10 [0] ([(2, Value.int IntKind.i64 (s + if (if (↑bs.length : Int) - s < keep then (↑bs.length : Int) - s else keep) > 0 then if (↑bs.length : Int) - s < keep then (↑bs.length : Int) - s else keep else 0)), (0, Value.pointer (some { block := t, off := 0 }))]) ([Ch.blk d 46 [Value.bool true, Value.slice a (s + if (if (↑bs.length : Int) - s < keep then (↑bs.length : Int) - s else keep) > 0 then if (↑bs.length : Int) - s < keep then (↑bs.length : Int) - s else keep else 0).toNat (s + if (if (↑bs.length : Int) - s < keep then (↑bs.length : Int) - s else keep) > 0 then if (↑bs.length : Int) - s < keep then (↑bs.length : Int) - s else keep else 0).toNat, Value.int IntKind.i64 s], row 5 1 a bs.length c (u8s bs), Ch.blk t 23 [Value.pointer (some { block := d, off := 0 })], Ch.blk u 3 [Value.int IntKind.i64 keep]]) [] (by kernel_rfl) (by kernel_rfl) (by kernel_rfl) trivial (sub_of [1, 2, 3] (by kernel_rfl)) ?_
  refine wpa_done 0 (by kernel_rfl) ?_
  refine nx_then ?_
  refine wpc_region [0, 1, 2, 3, 4] (by kernel_rfl) ?_
  refine wpr_run (l₂ := []) true [0, 1, 2, 3, 4] [2, 0] [] ([Ch.blk d 46 [Value.bool true, Value.slice a (s + if (if (↑bs.length : Int) - s < keep then (↑bs.length : Int) - s else keep) > 0 then if (↑bs.length : Int) - s < keep then (↑bs.length : Int) - s else keep else 0).toNat (s + if (if (↑bs.length : Int) - s < keep then (↑bs.length : Int) - s else keep) > 0 then if (↑bs.length : Int) - s < keep then (↑bs.length : Int) - s else keep else 0).toNat, Value.int IntKind.i64 (s + if (if (↑bs.length : Int) - s < keep then (↑bs.length : Int) - s else keep) > 0 then if (↑bs.length : Int) - s < keep then (↑bs.length : Int) - s else keep else 0)], row 5 1 a bs.length c (u8s bs), Ch.blk t 23 [Value.pointer (some { block := d, off := 0 })], Ch.blk u 3 [Value.int IntKind.i64 keep]]) [] (by kernel_rfl) (by kernel_rfl) trivial ?_
  refine wpr_nil ?_
  rw [minmax, ← hK]
  simp only [Int.toNat_natCast]
  have hKl : K ≤ bs.length := by omega
  refine nx_ent (ent_turn 1 _ rfl (turn_cut_u8 K K hKl (Nat.le_refl _) (by omega)) rfl) ?_
  refine nx_end (hp' := [Ch.blk d 46 [Value.bool true, Value.slice a K K, Value.int IntKind.i64 (↑K : Int)], row 5 1 a K K (u8s (List.take K bs))]) (rest := [Ch.blk t 23 [Value.pointer (some { block := d, off := 0 })], Ch.blk u 3 [Value.int IntKind.i64 keep]]) [] ((Value.tuple #[])) (by kernel_rfl) (by kernel_rfl) (give [0, 0] (by kernel_rfl)) (by first | ((repeat (first | exact trivial | refine ⟨trivial, ?_⟩)); done) | assumption) ?_ (.inl rfl)
  exact ⟨rfl, by simp [DH, dblk, Nat.min_eq_left hKl]⟩

theorem cut1_bad (d t u v : Nat) (a : Option Addr) (c : Nat) (s n e : Int) (bs : List UInt8) (hn : n < 0 ∨ (bs.length : Int) < n) :
    Does Try.prog 28 [.pointer (some ⟨u, 0, none⟩), .pointer (some ⟨t, 0, none⟩), .pointer (some ⟨v, 0, none⟩)] [dblk d a bs.length c s, row 5 1 a bs.length c (u8s bs), .blk t 23 [.pointer (some ⟨d, 0, none⟩)], .blk u 3 [.int .i64 n], .blk v 25 [.int .i64 e]]
      (fun r hp' => r = .tuple #[] ∧ hp' = DH d a c bs s ++ [.blk v 25 [.int .i64 2]]) := by
  refine fn_enter Try.func28 rfl 33 rfl fun w0 h0 => ?_
  unfold dblk
  refine wpc_seq ?_
  refine wpc_seq ?_
  refine wpc_draw (by kernel_rfl) [Ch.blk d 46 [Value.bool true, Value.slice a bs.length c, Value.int IntKind.i64 s], Ch.blk t 23 [Value.pointer (some { block := d, off := 0 })], Ch.blk u 3 [Value.int IntKind.i64 n], Ch.blk v 25 [Value.int IntKind.i64 e]] (sub_of [0, 2, 3, 4] (by kernel_rfl)) 11 (by kernel_rfl) ?_
  refine wpa_take true [(0, [2]), (1, []), (2, [])] [(5, Value.bool (decide (n < 0))), (0, Value.pointer (some { block := u, off := 0 })), (1, Value.pointer (some { block := t, off := 0 })), (2, Value.pointer (some { block := v, off := 0 }))] (#[true, true, true, false, false, false, false, false, false, false, false]) [] (n := 8) (by kernel_rfl) (by kernel_rfl) (by kernel_rfl) trivial ?_
  refine wpa_casep 5 ((n < 0)) (by kernel_rfl) (fun h2 => ?_) (fun h2 => ?_)
  · refine wpa_take true [(3, []), (4, []), (5, []), (6, []), (7, []), (8, []), (9, []), (10, [])] [(13, Value.bool true), (0, Value.pointer (some { block := u, off := 0 })), (1, Value.pointer (some { block := t, off := 0 })), (2, Value.pointer (some { block := v, off := 0 }))] (#[true, true, true, true, true, true, true, true, true, true, true]) [] (n := 0) (by kernel_rfl) (by kernel_rfl) (by kernel_rfl) trivial ?_
    refine wpa_done 0 (by kernel_rfl) ?_
    refine nx_then ?_
    refine wpc_true (by kernel_rfl) ?_
    refine wpc_seq ?_
    refine wpc_region [0] (by kernel_rfl) ?_
    refine wpr_run (l₂ := []) true [0] [4] [(0, Value.pointer (some { block := u, off := 0 })), (1, Value.pointer (some { block := t, off := 0 }))] [Ch.blk d 46 [Value.bool true, Value.slice a bs.length c, Value.int IntKind.i64 s], row 5 1 a bs.length c (u8s bs), Ch.blk t 23 [Value.pointer (some { block := d, off := 0 })], Ch.blk u 3 [Value.int IntKind.i64 n], Ch.blk v 25 [Value.int IntKind.i64 2]] [] (by kernel_rfl) (by kernel_rfl) trivial ?_
    refine wpr_nil ?_
    refine nx_then ?_
    refine wpc_ret ?_
    refine nx_then_ret ?_
    refine nx_end (hp' := [Ch.blk d 46 [Value.bool true, Value.slice a bs.length c, Value.int IntKind.i64 s], row 5 1 a bs.length c (u8s bs), Ch.blk v 25 [Value.int IntKind.i64 2]]) (rest := [Ch.blk t 23 [Value.pointer (some { block := d, off := 0 })], Ch.blk u 3 [Value.int IntKind.i64 n]]) [] ((Value.tuple #[])) (by kernel_rfl) (by kernel_rfl) (give [0, 0, 2] (by kernel_rfl)) (by first | ((repeat (first | exact trivial | refine ⟨trivial, ?_⟩)); done) | assumption) ?_ (.inr rfl)
    exact ⟨rfl, rfl⟩
  · refine wpa_take true [(3, [2]), (4, [1]), (5, []), (6, []), (7, [0]), (8, []), (9, []), (10, [])] [(13, Value.bool (decide (n > (↑bs.length : Int)))), (0, Value.pointer (some { block := u, off := 0 })), (1, Value.pointer (some { block := t, off := 0 })), (2, Value.pointer (some { block := v, off := 0 }))] (#[true, true, true, true, true, true, true, true, true, true, true]) [] (n := 0) (by kernel_rfl) (by kernel_rfl) (by kernel_rfl) trivial ?_
    refine wpa_done 0 (by kernel_rfl) ?_
    refine nx_then ?_
    refine wpc_if ((n > (↑bs.length : Int))) (by kernel_rfl) (fun h3 => ?_) (fun h3 => ?_)
    · refine wpc_seq ?_
      refine wpc_region [0] (by kernel_rfl) ?_
      refine wpr_run (l₂ := []) true [0] [4] [(0, Value.pointer (some { block := u, off := 0 })), (1, Value.pointer (some { block := t, off := 0 }))] [Ch.blk d 46 [Value.bool true, Value.slice a bs.length c, Value.int IntKind.i64 s], row 5 1 a bs.length c (u8s bs), Ch.blk t 23 [Value.pointer (some { block := d, off := 0 })], Ch.blk u 3 [Value.int IntKind.i64 n], Ch.blk v 25 [Value.int IntKind.i64 2]] [] (by kernel_rfl) (by kernel_rfl) trivial ?_
      refine wpr_nil ?_
      refine nx_then ?_
      refine wpc_ret ?_
      refine nx_then_ret ?_
      refine nx_end (hp' := [Ch.blk d 46 [Value.bool true, Value.slice a bs.length c, Value.int IntKind.i64 s], row 5 1 a bs.length c (u8s bs), Ch.blk v 25 [Value.int IntKind.i64 2]]) (rest := [Ch.blk t 23 [Value.pointer (some { block := d, off := 0 })], Ch.blk u 3 [Value.int IntKind.i64 n]]) [] ((Value.tuple #[])) (by kernel_rfl) (by kernel_rfl) (give [0, 0, 2] (by kernel_rfl)) (by first | ((repeat (first | exact trivial | refine ⟨trivial, ?_⟩)); done) | assumption) ?_ (.inr rfl)
      exact ⟨rfl, rfl⟩
    · omega
theorem cut1 (d t u v : Nat) (a : Option Addr) (c : Nat) (s e : Int) (K : Nat) (bs : List UInt8) (hn : K ≤ bs.length) (hl : bs.length ≤ 140737488351232) :
    Does Try.prog 28 [.pointer (some ⟨u, 0, none⟩), .pointer (some ⟨t, 0, none⟩), .pointer (some ⟨v, 0, none⟩)] [dblk d a bs.length c s, row 5 1 a bs.length c (u8s bs), .blk t 23 [.pointer (some ⟨d, 0, none⟩)], .blk u 3 [.int .i64 K], .blk v 25 [.int .i64 e]]
      (fun r hp' => r = .tuple #[] ∧ hp' = DH d a K (bs.take K) (min s K) ++ [.blk v 25 [.int .i64 e]]) := by
  refine fn_enter Try.func28 rfl 33 rfl fun w0 h0 => ?_
  have hc := (row_cap h0 1 rfl).2.1
  unfold dblk
  refine wpc_seq ?_
  refine wpc_seq ?_
  refine wpc_draw (by kernel_rfl) [Ch.blk d 46 [Value.bool true, Value.slice a bs.length c, Value.int IntKind.i64 s], row 5 1 a bs.length c (u8s bs), Ch.blk t 23 [Value.pointer (some { block := d, off := 0 })], Ch.blk u 3 [Value.int IntKind.i64 (↑K : Int)], Ch.blk v 25 [Value.int IntKind.i64 e]] (sub_of [0, 1, 2, 3, 4] (by kernel_rfl)) 11 (by kernel_rfl) ?_
  refine wpa_take true [(0, [3]), (1, []), (2, []), (3, [3]), (4, [2]), (5, []), (6, []), (7, [0]), (8, []), (9, []), (10, [])] [(13, Value.bool (decide ((↑K : Int) > (↑bs.length : Int)))), (0, Value.pointer (some { block := u, off := 0 })), (1, Value.pointer (some { block := t, off := 0 })), (2, Value.pointer (some { block := v, off := 0 }))] (#[true, true, true, true, true, true, true, true, true, true, true]) [] (n := 0) (by kernel_rfl) (by kernel_rfl) (by kernel_rfl) trivial ?_
  refine wpa_done 0 (by kernel_rfl) ?_
  refine nx_then ?_
  refine wpc_if (((↑K : Int) > (↑bs.length : Int))) (by kernel_rfl) (fun h3 => ?_) (fun h3 => ?_)
  · omega
  · refine wpc_skip ?_
    refine nx_then ?_
    refine wpc_seq ?_
    refine wpc_draw (by kernel_rfl) [row 5 1 a bs.length c (u8s bs), Ch.blk t 23 [Value.pointer (some { block := d, off := 0 })], Ch.blk u 3 [Value.int IntKind.i64 (↑K : Int)], Ch.blk v 25 [Value.int IntKind.i64 e]] (sub_of [1, 2, 3, 4] (by kernel_rfl)) 11 (by kernel_rfl) ?_
    refine wpa_take true [(0, [1]), (1, [1]), (2, []), (3, []), (5, [2]), (6, [2])] [(20, Value.int IntKind.i64 (↑K : Int)), (19, Value.int IntKind.i64 (↑K : Int)), (17, Value.pointer (some { block := d, off := 1 })), (14, Value.pointer (some { block := d, off := 0 })), (0, Value.pointer (some { block := u, off := 0 })), (1, Value.pointer (some { block := t, off := 0 }))] (#[true, true, true, true, false, true, true, false, false, false, false]) [] (n := 5) (by kernel_rfl) (by kernel_rfl) (by kernel_rfl) trivial ?_
    refine wpa_one (n := 4) true 4 [0] [(18, Value.slice a bs.length c), (20, Value.int IntKind.i64 (↑K : Int)), (19, Value.int IntKind.i64 (↑K : Int)), (14, Value.pointer (some { block := d, off := 0 })), (0, Value.pointer (some { block := u, off := 0 })), (1, Value.pointer (some { block := t, off := 0 }))] [Ch.blk d 46 [Value.bool true, Value.slice a bs.length c, Value.int IntKind.i64 s], row 5 1 a bs.length c (u8s bs), Ch.blk t 23 [Value.pointer (some { block := d, off := 0 })], Ch.blk u 3 [Value.int IntKind.i64 (↑K : Int)], Ch.blk v 25 [Value.int IntKind.i64 e]] [] (by kernel_rfl) (by kernel_rfl) (by kernel_rfl) trivial (sub_of [1, 2, 3, 4] (by kernel_rfl)) ?_
    refine wpa_take true [(7, []), (8, []), (9, [])] [(23, Value.pointer (some { block := d, off := 1 })), (21, Value.slice a K K), (0, Value.pointer (some { block := u, off := 0 })), (1, Value.pointer (some { block := t, off := 0 }))] (#[true, true, true, true, true, true, true, true, true, true, false]) [0 ≤ (↑K : Int) ∧ (↑K : Int) ≤ (↑c : Int), 0 ≤ (↑K : Int) ∧ (↑K : Int) ≤ (↑K : Int)] (n := 1) (by kernel_rfl) (by kernel_rfl) (by kernel_rfl) ⟨by omega, by omega, trivial⟩ ?_
    refine wpa_one (n := 0) true 10 [0] [(0, Value.pointer (some { block := u, off := 0 })), (1, Value.pointer (some { block := t, off := 0 }))] [Ch.blk d 46 [Value.bool true, Value.slice a K K, Value.int IntKind.i64 s], row 5 1 a bs.length c (u8s bs), Ch.blk t 23 [Value.pointer (some { block := d, off := 0 })], Ch.blk u 3 [Value.int IntKind.i64 (↑K : Int)], Ch.blk v 25 [Value.int IntKind.i64 e]] [] (by kernel_rfl) (by kernel_rfl) (by kernel_rfl) trivial (sub_of [1, 2, 3, 4] (by kernel_rfl)) ?_
    refine wpa_done 0 (by kernel_rfl) ?_
    refine nx_then ?_
    refine wpc_draw (by kernel_rfl) [row 5 1 a bs.length c (u8s bs), Ch.blk t 23 [Value.pointer (some { block := d, off := 0 })], Ch.blk u 3 [Value.int IntKind.i64 (↑K : Int)], Ch.blk v 25 [Value.int IntKind.i64 e]] (sub_of [1, 2, 3, 4] (by kernel_rfl)) 10 (by kernel_rfl) ?_
    refine wpa_take true [(0, [1]), (1, [1]), (2, []), (3, []), (5, [2])] [(29, Value.int IntKind.i64 (↑K : Int)), (27, Value.pointer (some { block := d, off := 2 })), (24, Value.pointer (some { block := d, off := 0 }))] (#[true, true, true, true, false, true, false, false, false, false]) [] (n := 5) (by kernel_rfl) (by kernel_rfl) (by kernel_rfl) trivial ?_
    refine wpa_one (n := 4) true 4 [0] [(28, Value.int IntKind.i64 s), (29, Value.int IntKind.i64 (↑K : Int)), (24, Value.pointer (some { block := d, off := 0 }))] [Ch.blk d 46 [Value.bool true, Value.slice a K K, Value.int IntKind.i64 s], row 5 1 a bs.length c (u8s bs), Ch.blk t 23 [Value.pointer (some { block := d, off := 0 })], Ch.blk u 3 [Value.int IntKind.i64 (↑K : Int)], Ch.blk v 25 [Value.int IntKind.i64 e]] [] (by kernel_rfl) (by kernel_rfl) (by kernel_rfl) trivial (sub_of [1, 2, 3, 4] (by kernel_rfl)) ?_
    refine wpa_take true [(6, []), (7, []), (8, [])] [(32, Value.pointer (some { block := d, off := 2 })), (30, Value.int IntKind.i64 (if (↑K : Int) < s then (↑K : Int) else s))] (#[true, true, true, true, true, true, true, true, true, false]) [] (n := 1) (by kernel_rfl) (by kernel_rfl) (by kernel_rfl) trivial ?_
    refine wpa_one (n := 0) true 9 [0] [] [Ch.blk d 46 [Value.bool true, Value.slice a K K, Value.int IntKind.i64 (if (↑K : Int) < s then (↑K : Int) else s)], row 5 1 a bs.length c (u8s bs), Ch.blk t 23 [Value.pointer (some { block := d, off := 0 })], Ch.blk u 3 [Value.int IntKind.i64 (↑K : Int)], Ch.blk v 25 [Value.int IntKind.i64 e]] [] (by kernel_rfl) (by kernel_rfl) (by kernel_rfl) trivial (sub_of [1, 2, 3, 4] (by kernel_rfl)) ?_
    refine wpa_done 0 (by kernel_rfl) ?_
    refine nx_ent (ent_turn 1 _ rfl (turn_cut_u8 K K hn (Nat.le_refl _) (by omega)) rfl) ?_
    rw [minE]
    refine nx_end (hp' := [Ch.blk d 46 [Value.bool true, Value.slice a K K, Value.int IntKind.i64 (min s (↑K : Int))], row 5 1 a K K (u8s (List.take K bs)), Ch.blk v 25 [Value.int IntKind.i64 e]]) (rest := [Ch.blk t 23 [Value.pointer (some { block := d, off := 0 })], Ch.blk u 3 [Value.int IntKind.i64 (↑K : Int)]]) [] ((Value.tuple #[])) (by kernel_rfl) (by kernel_rfl) (give [0, 0, 2] (by kernel_rfl)) (by first | ((repeat (first | exact trivial | refine ⟨trivial, ?_⟩)); done) | assumption) ?_ (.inl rfl)
    exact ⟨rfl, by simp [DH, dblk, Nat.min_eq_left hn]⟩
theorem loose1 (d t u : Nat) (a : Option Addr) (c : Nat) (s e : Int) (bs : List UInt8) (hs : 0 ≤ s) (hs2 : s ≤ bs.length) (hl : bs.length ≤ 140737488351232) :
    Does Try.prog 29 [.pointer (some ⟨t, 0, none⟩), .pointer (some ⟨u, 0, none⟩)] [dblk d a bs.length c s, row 5 1 a bs.length c (u8s bs), .blk t 23 [.pointer (some ⟨d, 0, none⟩)], .blk u 3 [.int .i64 e]]
      (fun v hp' => v = .tuple #[] ∧ hp' = DH d a c bs s ++ [.blk u 3 [.int .i64 (bs.length - s)]]) := by
  refine fn_enter Try.func29 rfl 12 rfl fun w0 _ => ?_
  unfold dblk
  refine wpc_draw (by kernel_rfl) [Ch.blk d 46 [Value.bool true, Value.slice a bs.length c, Value.int IntKind.i64 s], row 5 1 a bs.length c (u8s bs), Ch.blk t 23 [Value.pointer (some { block := d, off := 0 })]] (sub_of [0, 1, 2] (by kernel_rfl)) 11 (by kernel_rfl) ?_
  refine wpa_take true [(0, [2]), (1, []), (2, []), (3, [0]), (4, []), (5, [2]), (6, []), (7, []), (8, [0]), (9, [])] [(11, Value.int IntKind.i64 ((↑bs.length : Int) - s)), (1, Value.pointer (some { block := u, off := 0 }))] (#[true, true, true, true, true, true, true, true, true, true, false]) [inI64 ((↑bs.length : Int) - s)] (n := 1) (by kernel_rfl) (by kernel_rfl) (by kernel_rfl) ⟨by unfold inI64; omega, trivial⟩ ?_
  refine wpa_one (n := 0) true 10 [3] [] [Ch.blk d 46 [Value.bool true, Value.slice a bs.length c, Value.int IntKind.i64 s], row 5 1 a bs.length c (u8s bs), Ch.blk t 23 [Value.pointer (some { block := d, off := 0 })], Ch.blk u 3 [Value.int IntKind.i64 ((↑bs.length : Int) - s)]] [] (by kernel_rfl) (by kernel_rfl) (by kernel_rfl) trivial (sub_of [0, 1, 2] (by kernel_rfl)) ?_
  refine wpa_done 0 (by kernel_rfl) ?_
  refine nx_end (hp' := [Ch.blk d 46 [Value.bool true, Value.slice a bs.length c, Value.int IntKind.i64 s], row 5 1 a bs.length c (u8s bs), Ch.blk u 3 [Value.int IntKind.i64 ((↑bs.length : Int) - s)]]) (rest := [Ch.blk t 23 [Value.pointer (some { block := d, off := 0 })]]) [] ((Value.tuple #[])) (by kernel_rfl) (by kernel_rfl) (give [0, 0, 1] (by kernel_rfl)) (by first | ((repeat (first | exact trivial | refine ⟨trivial, ?_⟩)); done) | assumption) ?_ (.inl rfl)
  exact ⟨rfl, rfl⟩
theorem bytes1 (d t u : Nat) (a : Option Addr) (c : Nat) (s : Int) (bs : List UInt8) (hl : bs.length ≤ 140737488351232) :
    Does Try.prog 25 [.pointer (some ⟨t, 0, none⟩), .pointer (some ⟨u, 0, none⟩)] [dblk d a bs.length c s, row 5 1 a bs.length c (u8s bs), .blk t 23 [.pointer (some ⟨d, 0, none⟩)], .blk u 22 [.slice none 0 0]]
      (fun v hp' => v = .tuple #[] ∧ ∃ a' c', hp' = DH d a c bs s ++ [.blk u 22 [.slice a' bs.length c'], row 5 1 a' bs.length c' (u8s bs)]) := by
  refine fn_enter Try.func25 rfl 7 rfl fun w0 h0 => ?_
  have ha := row_none h0 1 rfl
  unfold dblk
  refine wpc_region [0, 1, 2, 3, 4, 5] (by kernel_rfl) ?_
  refine wpr_run (l₂ := [4, 5]) true [0, 1, 2, 3] [2, 0] [(5, Value.slice a bs.length c), (1, Value.pointer (some { block := u, off := 0 }))] [Ch.blk d 46 [Value.bool true, Value.slice a bs.length c, Value.int IntKind.i64 s], row 5 1 a bs.length c (u8s bs), Ch.blk t 23 [Value.pointer (some { block := d, off := 0 })], Ch.blk u 22 [Value.slice none 0 0]] [] (by kernel_rfl) (by kernel_rfl) trivial ?_
  refine wpr_call (dst := some 6) (rest := [Ch.blk d 46 [Value.bool true, Value.slice a bs.length c, Value.int IntKind.i64 s], row 5 1 a bs.length c (u8s bs), Ch.blk t 23 [Value.pointer (some { block := d, off := 0 })], Ch.blk u 22 [Value.slice none 0 0]]) (by kernel_rfl) (Clone_spec a c bs (fun h => by simpa [u8s] using ha h) hl) (Give.view (c := (row 5 1 a bs.length c (u8s bs))) (give (pre := []) (rest := [Ch.blk d 46 [Value.bool true, Value.slice a bs.length c, Value.int IntKind.i64 s], row 5 1 a bs.length c (u8s bs), Ch.blk t 23 [Value.pointer (some { block := d, off := 0 })], Ch.blk u 22 [Value.slice none 0 0]]) [] (by kernel_rfl)) 1 (by kernel_rfl) view_row) ?_
  rintro v hp' ⟨a', c', rfl, rfl⟩
  refine wpr_run (l₂ := []) true [5] [4] [] [row 5 1 a' bs.length c' (u8s bs), Ch.blk d 46 [Value.bool true, Value.slice a bs.length c, Value.int IntKind.i64 s], row 5 1 a bs.length c (u8s bs), Ch.blk t 23 [Value.pointer (some { block := d, off := 0 })], Ch.blk u 22 [Value.slice a' bs.length c']] [] (by kernel_rfl) (by kernel_rfl) trivial ?_
  refine wpr_nil ?_
  refine nx_end (hp' := [Ch.blk d 46 [Value.bool true, Value.slice a bs.length c, Value.int IntKind.i64 s], row 5 1 a bs.length c (u8s bs), Ch.blk u 22 [Value.slice a' bs.length c'], row 5 1 a' bs.length c' (u8s bs)]) (rest := [Ch.blk t 23 [Value.pointer (some { block := d, off := 0 })]]) [] ((Value.tuple #[])) (by kernel_rfl) (by kernel_rfl) (give [1, 1, 2, 0] (by kernel_rfl)) (by first | ((repeat (first | exact trivial | refine ⟨trivial, ?_⟩)); done) | assumption) ?_ (.inl rfl)
  exact ⟨rfl, a', c', rfl⟩
theorem copy1 (d t u : Nat) (a : Option Addr) (c : Nat) (s : Int) (bs : List UInt8) (hl : bs.length ≤ 140737488351232) :
    Does Try.prog 27 [.pointer (some ⟨t, 0, none⟩), .pointer (some ⟨u, 0, none⟩)] [dblk d a bs.length c s, row 5 1 a bs.length c (u8s bs), .blk t 23 [.pointer (some ⟨d, 0, none⟩)], .blk u 23 [.pointer none]]
      (fun v hp' => v = .tuple #[] ∧ ∃ d' a' c', hp' = DH d a c bs s ++ [.blk u 23 [.pointer (some ⟨d', 0, none⟩)]] ++ DH d' a' c' bs s) := by
  refine fn_enter Try.func27 rfl 13 rfl fun w0 h0 => ?_
  have ha := row_none h0 1 rfl
  unfold dblk
  refine wpc_draw (by kernel_rfl) [Ch.blk d 46 [Value.bool true, Value.slice a bs.length c, Value.int IntKind.i64 s], Ch.blk t 23 [Value.pointer (some { block := d, off := 0 })]] (sub_of [0, 2] (by kernel_rfl)) 12 (by kernel_rfl) ?_
  refine wpa_take true [(0, [1]), (1, []), (2, []), (3, [0]), (5, [1]), (6, []), (7, []), (8, [0])] [(10, Value.int IntKind.i64 s), (5, Value.slice a bs.length c), (1, Value.pointer (some { block := u, off := 0 }))] (#[true, true, true, true, false, true, true, true, true, false, false, false]) [] (n := 4) (by kernel_rfl) (by kernel_rfl) (by kernel_rfl) trivial ?_
  refine wpa_call (i := 4) (n := 3) (dst := some 6) (rest := [Ch.blk d 46 [Value.bool true, Value.slice a bs.length c, Value.int IntKind.i64 s], row 5 1 a bs.length c (u8s bs), Ch.blk t 23 [Value.pointer (some { block := d, off := 0 })], Ch.blk u 23 [Value.pointer none]]) (by kernel_rfl) (by kernel_rfl) (Clone_spec a c bs (fun h => by simpa [u8s] using ha h) hl) (Give.view (c := (row 5 1 a bs.length c (u8s bs))) (give (pre := []) (rest := [Ch.blk d 46 [Value.bool true, Value.slice a bs.length c, Value.int IntKind.i64 s], row 5 1 a bs.length c (u8s bs), Ch.blk t 23 [Value.pointer (some { block := d, off := 0 })], Ch.blk u 23 [Value.pointer none]]) [] (by kernel_rfl)) 1 (by kernel_rfl) view_row) (sub_of [0, 2] (by kernel_rfl)) ?_
  rintro v hp' ⟨a', c', rfl, rfl⟩
  refine wpa_take true [(9, [])] [(11, Value.agg #[Value.bool true, Value.slice a' bs.length c', Value.int IntKind.i64 s]), (1, Value.pointer (some { block := u, off := 0 }))] (#[true, true, true, true, true, true, true, true, true, true, false, false]) [] (n := 2) (by kernel_rfl) (by kernel_rfl) (by kernel_rfl) trivial ?_
  refine wpa_new (n := 1) true 10 [] (fun g1 => [(12, Value.pointer (some { block := g1, off := 0 })), (1, Value.pointer (some { block := u, off := 0 }))]) (fun g1 => [row 5 1 a' bs.length c' (u8s bs), Ch.blk d 46 [Value.bool true, Value.slice a bs.length c, Value.int IntKind.i64 s], row 5 1 a bs.length c (u8s bs), Ch.blk t 23 [Value.pointer (some { block := d, off := 0 })], Ch.blk u 23 [Value.pointer none], Ch.blk g1 46 [Value.bool true, Value.slice a' bs.length c', Value.int IntKind.i64 s]]) (fun g1 => []) (by kernel_rfl) (fun g1 => by kernel_rfl) (fun g1 => by kernel_rfl) (fun g1 => trivial) (fun g1 => sub_of [1, 3] (by kernel_rfl)) fun g1 => ?_
  refine wpa_one (n := 0) true 11 [4] [] [row 5 1 a' bs.length c' (u8s bs), Ch.blk d 46 [Value.bool true, Value.slice a bs.length c, Value.int IntKind.i64 s], row 5 1 a bs.length c (u8s bs), Ch.blk t 23 [Value.pointer (some { block := d, off := 0 })], Ch.blk u 23 [Value.pointer (some { block := g1, off := 0 })], Ch.blk g1 46 [Value.bool true, Value.slice a' bs.length c', Value.int IntKind.i64 s]] [] (by kernel_rfl) (by kernel_rfl) (by kernel_rfl) trivial (sub_of [1, 3] (by kernel_rfl)) ?_
  refine wpa_done 0 (by kernel_rfl) ?_
  refine nx_end (hp' := [Ch.blk d 46 [Value.bool true, Value.slice a bs.length c, Value.int IntKind.i64 s], row 5 1 a bs.length c (u8s bs), Ch.blk u 23 [Value.pointer (some { block := g1, off := 0 })], Ch.blk g1 46 [Value.bool true, Value.slice a' bs.length c', Value.int IntKind.i64 s], row 5 1 a' bs.length c' (u8s bs)]) (rest := [Ch.blk t 23 [Value.pointer (some { block := d, off := 0 })]]) [] ((Value.tuple #[])) (by kernel_rfl) (by kernel_rfl) (give [1, 1, 2, 2, 0] (by kernel_rfl)) (by first | ((repeat (first | exact trivial | refine ⟨trivial, ?_⟩)); done) | assumption) ?_ (.inl rfl)
  exact ⟨rfl, g1, a', c', rfl⟩

/-! ### the methods -/
theorem Append_spec (d : Nat) (a b : Option Addr) (c cb : Nat) (s : Int) (bs xs : List UInt8) (hb : b = none → xs = []) (hl : bs.length + xs.length ≤ 140737488351232) :
    Does Try.prog 8 [.pointer (some ⟨d, 0, none⟩), .slice b xs.length cb] [dblk d a bs.length c s, row 5 1 a bs.length c (u8s bs), ro b (u8s xs)]
      (fun v hp' => v = .int .i64 0 ∧ ∃ a' c', hp' = DH d a' c' (bs ++ xs) s) := by
  refine fn_enter Try.func8 rfl 8 rfl fun w0 h0 => ?_
  refine wpc_seq ?_
  refine wpc_region [0, 1, 2] (by kernel_rfl) ?_
  refine wpr_new (l₂ := [1, 2]) true [0] [] (fun g1 => [(2, Value.pointer (some { block := g1, off := 0 })), (1, Value.slice b xs.length cb)]) (fun g1 => [Ch.blk d 46 [Value.bool true, Value.slice a bs.length c, Value.int IntKind.i64 s], row 5 1 a bs.length c (u8s bs), ro b (u8s xs), Ch.blk g1 23 [Value.pointer (some { block := d, off := 0 })]]) (fun g1 => []) (fun g1 => by kernel_rfl) (fun g1 => by kernel_rfl) (fun g1 => trivial) fun g1 => ?_
  refine wpr_new (l₂ := [2]) true [1] [] (fun g2 => [(3, Value.pointer (some { block := g2, off := 0 })), (2, Value.pointer (some { block := g1, off := 0 }))]) (fun g2 => [Ch.blk d 46 [Value.bool true, Value.slice a bs.length c, Value.int IntKind.i64 s], row 5 1 a bs.length c (u8s bs), ro b (u8s xs), Ch.blk g1 23 [Value.pointer (some { block := d, off := 0 })], Ch.blk g2 22 [Value.slice b xs.length cb]]) (fun g2 => []) (fun g2 => by kernel_rfl) (fun g2 => by kernel_rfl) (fun g2 => trivial) fun g2 => ?_
  refine wpr_run (l₂ := []) true [2] [] [(4, Value.int IntKind.i64 0), (3, Value.pointer (some { block := g2, off := 0 })), (2, Value.pointer (some { block := g1, off := 0 }))] [Ch.blk d 46 [Value.bool true, Value.slice a bs.length c, Value.int IntKind.i64 s], row 5 1 a bs.length c (u8s bs), ro b (u8s xs), Ch.blk g1 23 [Value.pointer (some { block := d, off := 0 })], Ch.blk g2 22 [Value.slice b xs.length cb]] [] (by kernel_rfl) (by kernel_rfl) trivial ?_
  refine wpr_nil ?_
  refine nx_then ?_
  refine wpc_seq ?_
  refine wpc_region [0, 1, 2, 3] (by kernel_rfl) ?_
  refine wpr_run (l₂ := [2, 3]) true [0, 1] [3] [(6, Value.func (Fn.func 22) #[] #[Value.pointer (some { block := g1, off := 0 }), Value.pointer (some { block := g2, off := 0 })]), (5, Value.pointer (some { block := d, off := 0 })), (4, Value.int IntKind.i64 0)] [Ch.blk d 46 [Value.bool true, Value.slice a bs.length c, Value.int IntKind.i64 s], row 5 1 a bs.length c (u8s bs), ro b (u8s xs), Ch.blk g1 23 [Value.pointer (some { block := d, off := 0 })], Ch.blk g2 22 [Value.slice b xs.length cb]] [] (by kernel_rfl) (by kernel_rfl) trivial ?_
  refine wpr_call (dst := some 7) (rest := [ro b (u8s xs)]) (by kernel_rfl) (with22 d a bs.length c s g1 g2 [row 5 1 a bs.length c (u8s bs), .blk g1 23 [.pointer (some ⟨d, 0, none⟩)], .blk g2 22 [.slice b xs.length cb], ro b (u8s xs)] (fun hp' => ∃ a' c', hp' = DH d a' c' (bs ++ xs) s) (by rintro _ ⟨a', c', rfl⟩; exact ⟨trivial, trivial, trivial⟩) (app1 d g1 g2 a b c cb s bs xs hb hl)) (Give.reorder (Give.view (c := (ro b (u8s xs))) (give (pre := [Ch.blk d 46 [Value.bool true, Value.slice a bs.length c, Value.int IntKind.i64 s], row 5 1 a bs.length c (u8s bs), Ch.blk g1 23 [Value.pointer (some { block := d, off := 0 })], Ch.blk g2 22 [Value.slice b xs.length cb]]) (rest := [ro b (u8s xs)]) [0, 0, 1, 1] (by kernel_rfl)) 0 (by kernel_rfl) view_ro) [1, 1, 1, 1, 0] (by kernel_rfl)) ?_
  rintro v hp' ⟨rfl, a', c', rfl⟩
  refine wpr_run (l₂ := []) true [3] [] [(4, Value.int IntKind.i64 0)] ([Ch.blk d 46 [Value.bool true, Value.slice a' (bs ++ xs).length c', Value.int IntKind.i64 s], row 5 1 a' (bs ++ xs).length c' (u8s (bs ++ xs)), ro b (u8s xs)]) [] (by kernel_rfl) (by kernel_rfl) trivial ?_
  refine wpr_nil ?_
  refine nx_then ?_
  refine wpc_ret ?_
  refine nx_end (hp' := ([Ch.blk d 46 [Value.bool true, Value.slice a' (bs ++ xs).length c', Value.int IntKind.i64 s], row 5 1 a' (bs ++ xs).length c' (u8s (bs ++ xs))])) (rest := [ro b (u8s xs)]) [] ((Value.int IntKind.i64 0)) (by kernel_rfl) (by kernel_rfl) (give [0, 0] (by kernel_rfl)) (by first | ((repeat (first | exact trivial | refine ⟨trivial, ?_⟩)); done) | assumption) ?_ (.inr rfl)
  exact ⟨rfl, a', c', rfl⟩
end Go.Proofs.Ytolmjhhldbnkdaa
