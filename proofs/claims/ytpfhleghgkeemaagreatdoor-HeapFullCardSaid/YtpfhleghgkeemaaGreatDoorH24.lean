import Derived.Test.YtpfhleghgkeemaaGreatDoorH23
import Derived.Test.YtpfhleghgkeemaaGreatDoorX16
namespace Go.Proofs.YtpfhleghgkeemaaGreatDoor
open Go Go.Sx
set_option linter.unusedSimpArgs false

theorem value_succ (g : Nat) (most : Int) (used : Nat) (a : Option Addr) (c : Nat) (l : List Ob) (d : Nat) (hd9 : d ≤ 9) (hl4 : l.length ≤ 4096) (hV : ∀ v, showV l.length v → ValS g most used a c l d v) (hL : okHeap (l.map Ob.o)) (v : V) (hv : showV l.length v) (hk : v.k = 4) : ValS g most used a c l (d + 1) v := by
  intro gw ad aw cw bs had hb
  obtain ⟨hs, hi, hr⟩ := hv
  obtain ⟨hn0, hnl⟩ := right_ref hr hk
  have hq : v.n.toNat < l.length := by omega
  have hok := hL (l[v.n.toNat].o) (List.mem_map.2 ⟨_, List.getElem_mem hq, rfl⟩)
  rw [List.length_map] at hok
  have hw := wobj_spec g most used a c l d hV hL l[v.n.toNat].tag l[v.n.toNat].cells l[v.n.toNat].a l[v.n.toNat].c hok.1 hok.2.1 hok.2.2 gw ad aw cw bs had hb
  have htx : txt (l.map Ob.o) (d + 1) v = objT (txt (l.map Ob.o) d) (l[v.n.toNat].tag, l[v.n.toNat].cells) := by
    rw [txt_k, if_neg (by omega), if_neg (by omega), if_neg (by omega), if_neg (by omega)]
    show objT _ (objAt _ _) = _
    rw [objAt_map hq]; rfl
  rw [htx]
  unfold wrH hctx at hw ⊢
  simp only [List.cons_append, List.nil_append] at hw ⊢
  unfold valV
  rw [hk]
  refine fn_enter Tryz.func54 rfl 67 rfl fun w0 h0 => ?_
  refine wpc_seq ?_
  refine wpc_region [0] (by kernel_rfl) ?_
  refine wpr_new (l₂ := []) true [0] [] (fun g1 => ([(4, .pointer (some ⟨g1, 0, none⟩)), (0, .pointer (some ⟨gw, 0, none⟩)), (2, .int .i64 (↑(d + 1) : Int))])) (fun g1 => [.blk gw 105 [.pointer ad, .slice aw (List.length bs) cw, .pointer (some ⟨g, 0, none⟩)], row 5 1 aw (List.length bs) cw (u8s bs), ro (some ⟨g, 0, none⟩) [.bool true, .int .i64 most, .int .i64 (↑used : Int), .slice a (List.length l) c], ro a (List.flatMap objC l), gBag l, gPow, .blk g1 28 [.int .i64 4, .int .i64 (V.n v), .string (mkS (V.s v))]]) (fun g1 => []) (fun g1 => by kernel_rfl) (fun g1 => by kernel_rfl) (fun g1 => trivial) fun g1 => ?_
  refine wpr_nil (nx_then (wpc_seq ?_))
  refine wpc_region [0, 1] (by kernel_rfl) ?_
  refine wpr_run (l₂ := []) true [0, 1] [6] ([(9, .int .i64 4), (4, .pointer (some ⟨g1, 0, none⟩)), (0, .pointer (some ⟨gw, 0, none⟩)), (2, .int .i64 (↑(d + 1) : Int))]) [.blk gw 105 [.pointer ad, .slice aw (List.length bs) cw, .pointer (some ⟨g, 0, none⟩)], row 5 1 aw (List.length bs) cw (u8s bs), ro (some ⟨g, 0, none⟩) [.bool true, .int .i64 most, .int .i64 (↑used : Int), .slice a (List.length l) c], ro a (List.flatMap objC l), gBag l, gPow, .blk g1 28 [.int .i64 4, .int .i64 (V.n v), .string (mkS (V.s v))]] [] (by kernel_rfl) (by kernel_rfl) trivial ?_
  refine wpr_nil (nx_then ?_)
  refine wpc_block ?_
  refine wpc_seq ?_
  refine wpc_region [0, 1] (by kernel_rfl) ?_
  refine wpr_run (l₂ := []) true [0, 1] [] ([(10, .bool false), (9, .int .i64 4), (4, .pointer (some ⟨g1, 0, none⟩)), (0, .pointer (some ⟨gw, 0, none⟩)), (2, .int .i64 (↑(d + 1) : Int))]) [.blk gw 105 [.pointer ad, .slice aw (List.length bs) cw, .pointer (some ⟨g, 0, none⟩)], row 5 1 aw (List.length bs) cw (u8s bs), ro (some ⟨g, 0, none⟩) [.bool true, .int .i64 most, .int .i64 (↑used : Int), .slice a (List.length l) c], ro a (List.flatMap objC l), gBag l, gPow, .blk g1 28 [.int .i64 4, .int .i64 (V.n v), .string (mkS (V.s v))]] [] (by kernel_rfl) (by kernel_rfl) trivial ?_
  refine wpr_nil (nx_then ?_)
  refine wpc_false (by kernel_rfl) ?_
  refine wpc_seq ?_
  refine wpc_region [0, 1] (by kernel_rfl) ?_
  refine wpr_run (l₂ := []) true [0, 1] [] ([(15, .bool false), (9, .int .i64 4), (4, .pointer (some ⟨g1, 0, none⟩)), (0, .pointer (some ⟨gw, 0, none⟩)), (2, .int .i64 (↑(d + 1) : Int))]) [.blk gw 105 [.pointer ad, .slice aw (List.length bs) cw, .pointer (some ⟨g, 0, none⟩)], row 5 1 aw (List.length bs) cw (u8s bs), ro (some ⟨g, 0, none⟩) [.bool true, .int .i64 most, .int .i64 (↑used : Int), .slice a (List.length l) c], ro a (List.flatMap objC l), gBag l, gPow, .blk g1 28 [.int .i64 4, .int .i64 (V.n v), .string (mkS (V.s v))]] [] (by kernel_rfl) (by kernel_rfl) trivial ?_
  refine wpr_nil (nx_then ?_)
  refine wpc_false (by kernel_rfl) ?_
  refine wpc_seq ?_
  refine wpc_region [0, 1] (by kernel_rfl) ?_
  refine wpr_run (l₂ := []) true [0, 1] [] ([(23, .bool false), (9, .int .i64 4), (4, .pointer (some ⟨g1, 0, none⟩)), (0, .pointer (some ⟨gw, 0, none⟩)), (2, .int .i64 (↑(d + 1) : Int))]) [.blk gw 105 [.pointer ad, .slice aw (List.length bs) cw, .pointer (some ⟨g, 0, none⟩)], row 5 1 aw (List.length bs) cw (u8s bs), ro (some ⟨g, 0, none⟩) [.bool true, .int .i64 most, .int .i64 (↑used : Int), .slice a (List.length l) c], ro a (List.flatMap objC l), gBag l, gPow, .blk g1 28 [.int .i64 4, .int .i64 (V.n v), .string (mkS (V.s v))]] [] (by kernel_rfl) (by kernel_rfl) trivial ?_
  refine wpr_nil (nx_then ?_)
  refine wpc_false (by kernel_rfl) ?_
  refine wpc_seq ?_
  refine wpc_region [0, 1] (by kernel_rfl) ?_
  refine wpr_run (l₂ := []) true [0, 1] [] ([(32, .bool false), (9, .int .i64 4), (4, .pointer (some ⟨g1, 0, none⟩)), (0, .pointer (some ⟨gw, 0, none⟩)), (2, .int .i64 (↑(d + 1) : Int))]) [.blk gw 105 [.pointer ad, .slice aw (List.length bs) cw, .pointer (some ⟨g, 0, none⟩)], row 5 1 aw (List.length bs) cw (u8s bs), ro (some ⟨g, 0, none⟩) [.bool true, .int .i64 most, .int .i64 (↑used : Int), .slice a (List.length l) c], ro a (List.flatMap objC l), gBag l, gPow, .blk g1 28 [.int .i64 4, .int .i64 (V.n v), .string (mkS (V.s v))]] [] (by kernel_rfl) (by kernel_rfl) trivial ?_
  refine wpr_nil (nx_then ?_)
  refine wpc_false (by kernel_rfl) ?_
  refine wpc_seq ?_
  refine wpc_region [0, 1] (by kernel_rfl) ?_
  refine wpr_run (l₂ := []) true [0, 1] [] ([(45, .bool true), (4, .pointer (some ⟨g1, 0, none⟩)), (0, .pointer (some ⟨gw, 0, none⟩)), (2, .int .i64 (↑(d + 1) : Int))]) [.blk gw 105 [.pointer ad, .slice aw (List.length bs) cw, .pointer (some ⟨g, 0, none⟩)], row 5 1 aw (List.length bs) cw (u8s bs), ro (some ⟨g, 0, none⟩) [.bool true, .int .i64 most, .int .i64 (↑used : Int), .slice a (List.length l) c], ro a (List.flatMap objC l), gBag l, gPow, .blk g1 28 [.int .i64 4, .int .i64 (V.n v), .string (mkS (V.s v))]] [] (by kernel_rfl) (by kernel_rfl) trivial ?_
  refine wpr_nil (nx_then ?_)
  refine wpc_true (by kernel_rfl) ?_
  refine wpc_seq (wpc_seq ?_)
  refine wpc_region [0, 1] (by kernel_rfl) ?_
  refine wpr_run (l₂ := []) true [0, 1] [] ([(48, .bool false), (4, .pointer (some ⟨g1, 0, none⟩)), (0, .pointer (some ⟨gw, 0, none⟩)), (2, .int .i64 (↑(d + 1) : Int))]) [.blk gw 105 [.pointer ad, .slice aw (List.length bs) cw, .pointer (some ⟨g, 0, none⟩)], row 5 1 aw (List.length bs) cw (u8s bs), ro (some ⟨g, 0, none⟩) [.bool true, .int .i64 most, .int .i64 (↑used : Int), .slice a (List.length l) c], ro a (List.flatMap objC l), gBag l, gPow, .blk g1 28 [.int .i64 4, .int .i64 (V.n v), .string (mkS (V.s v))]] [] (by kernel_rfl) (by kernel_rfl) trivial ?_
  refine wpr_nil (nx_then ?_)
  refine wpc_false (by kernel_rfl) ?_
  refine wpc_skip ?_
  refine nx_then ?_
  refine wpc_fact (fun w h => ro_addr h 3 rfl (by rw [objs_len]; omega)) ?_
  rintro ⟨g0, o0, rfl⟩
  refine wpc_ent (ent_copy 4 (ro l[v.n.toNat].a (l[v.n.toNat].cells.flatMap valC)) rfl (fun h => h) (view_in (obRo_in hq) view_ro)) ?_
  have hdd : ((d + 1 : Nat) : Int) - 1 = d := by omega
  rw [← hdd] at hw
  refine wpc_draw (by kernel_rfl) [ro (some ⟨g, 0, none⟩) [.bool true, .int .i64 most, .int .i64 (↑used : Int), .slice (some ⟨g0, o0, none⟩) (List.length l) c], ro (some ⟨g0, o0, none⟩) (List.flatMap objC l), .blk g1 28 [.int .i64 4, .int .i64 (V.n v), .string (mkS (V.s v))]] (sub_of [3, 4, 7] (by kernel_rfl)) 15 (by kernel_rfl) ?_
  refine wpa_take true [(0, []), (1, []), (2, []), (3, []), (8, []), (9, [2]), (12, []), (13, [])] ([(65, .int .i64 ((↑(d + 1) : Int) - 1)), (61, .int .i64 (V.n v)), (55, .pointer (some ⟨gw, 2, none⟩)), (52, .pointer (some ⟨gw, 0, none⟩))]) (#[true, true, true, true, false, false, false, false, true, true, false, false, true, true, false]) ([inI64 ((↑(d + (1 : Nat)) : Int) - (1 : Int))]) (n := 7) (by kernel_rfl) (by kernel_rfl) (by kernel_rfl) ⟨by unfold inI64; omega, trivial⟩ ?_
  refine wpa_one (n := 6) true 4 [1] ([(56, .pointer (some ⟨g, 0, none⟩)), (65, .int .i64 ((↑(d + 1) : Int) - 1)), (61, .int .i64 (V.n v)), (52, .pointer (some ⟨gw, 0, none⟩))]) [ro (Ob.a l[Int.toNat (V.n v)]) (List.flatMap valC (Ob.cells l[Int.toNat (V.n v)])), .blk gw 105 [.pointer ad, .slice aw (List.length bs) cw, .pointer (some ⟨g, 0, none⟩)], row 5 1 aw (List.length bs) cw (u8s bs), ro (some ⟨g, 0, none⟩) [.bool true, .int .i64 most, .int .i64 (↑used : Int), .slice (some ⟨g0, o0, none⟩) (List.length l) c], ro (some ⟨g0, o0, none⟩) (List.flatMap objC l), gBag l, gPow, .blk g1 28 [.int .i64 4, .int .i64 (V.n v), .string (mkS (V.s v))]] [] (by kernel_rfl) (by kernel_rfl) (by kernel_rfl) trivial (sub_of [3, 4, 7] (by kernel_rfl)) ?_
  refine wpa_take true [(5, []), (6, [])] ([(58, .pointer (some ⟨g, 3, none⟩)), (65, .int .i64 ((↑(d + 1) : Int) - 1)), (61, .int .i64 (V.n v)), (52, .pointer (some ⟨gw, 0, none⟩))]) (#[true, true, true, true, true, true, true, false, true, true, false, false, true, true, false]) [] (n := 4) (by kernel_rfl) (by kernel_rfl) (by kernel_rfl) trivial ?_
  refine wpa_qld (i := 7) (n := 3) (by kernel_rfl) (by kernel_rfl) (by kernel_rfl) (t := 37) (a := ⟨g, 3, none⟩) (dst := some 59) (by kernel_rfl) false 1 (by kernel_rfl) (by simp) [.slice (some ⟨g0, o0, none⟩) l.length c] rfl (fun w h => ld_roL h 0 rfl 3 rfl) ?_
  refine wpa_take true [(10, [])] ([(62, .pointer (some (Addr.mk g0 (o0 + Int.toNat (V.n v) * 2) none))), (65, .int .i64 ((↑(d + 1) : Int) - 1)), (52, .pointer (some ⟨gw, 0, none⟩))]) (#[true, true, true, true, true, true, true, true, true, true, true, false, true, true, false]) [(0 : Int) ≤ V.n v ∧ V.n v < (↑(List.length l) : Int)] (n := 2) (by kernel_rfl) (by kernel_rfl) (by kernel_rfl) ⟨by first | omega | decide | (simp; done), trivial⟩ ?_
  refine wpa_qld (i := 11) (n := 1) (by kernel_rfl) (by kernel_rfl) (by kernel_rfl) (t := 43) (a := (Addr.mk g0 (o0 + Int.toNat (V.n v) * 2) none)) (dst := some 63) (by kernel_rfl) true 2 (by kernel_rfl) (by simp) [.string (mkS l[v.n.toNat].tag), .slice l[v.n.toNat].a l[v.n.toNat].cells.length l[v.n.toNat].c] rfl (fun w h => ld_roL h 1 rfl (v.n.toNat * 2) (objs_at hq)) ?_
  refine wpa_call (i := 14) (n := 0) (dst := some 66) (rest := [ro (Ob.a l[Int.toNat (V.n v)]) (List.flatMap valC (Ob.cells l[Int.toNat (V.n v)])), ro (some ⟨g, 0, none⟩) [.bool true, .int .i64 most, .int .i64 (↑used : Int), .slice (some ⟨g0, o0, none⟩) (List.length l) c], ro (some ⟨g0, o0, none⟩) (List.flatMap objC l), gBag l, gPow, .blk g1 28 [.int .i64 4, .int .i64 (V.n v), .string (mkS (V.s v))]]) (by kernel_rfl) (by kernel_rfl) (hw) (Give.reorder (Give.view (c := (ro (some ⟨g, 0, none⟩) [.bool true, .int .i64 most, .int .i64 (↑used : Int), .slice (some ⟨g0, o0, none⟩) (List.length l) c])) (Give.view (c := (ro (some ⟨g0, o0, none⟩) (List.flatMap objC l))) (Give.view (c := (gBag l)) (Give.view (c := gPow) (Give.view (c := (ro (Ob.a l[Int.toNat (V.n v)]) (List.flatMap valC (Ob.cells l[Int.toNat (V.n v)])))) (give (pre := [.blk gw 105 [.pointer ad, .slice aw (List.length bs) cw, .pointer (some ⟨g, 0, none⟩)], row 5 1 aw (List.length bs) cw (u8s bs)]) (rest := [ro (Ob.a l[Int.toNat (V.n v)]) (List.flatMap valC (Ob.cells l[Int.toNat (V.n v)])), ro (some ⟨g, 0, none⟩) [.bool true, .int .i64 most, .int .i64 (↑used : Int), .slice (some ⟨g0, o0, none⟩) (List.length l) c], ro (some ⟨g0, o0, none⟩) (List.flatMap objC l), gBag l, gPow, .blk g1 28 [.int .i64 4, .int .i64 (V.n v), .string (mkS (V.s v))]]) [1, 1] (by kernel_rfl)) 0 (by kernel_rfl) view_ro) 4 (by kernel_rfl) view_gPow) 3 (by kernel_rfl) view_self) 2 (by kernel_rfl) view_ro) 1 (by kernel_rfl) view_ro) [5, 5, 0, 0, 0, 0, 0] (by kernel_rfl)) (sub_of [1, 2, 5] (by kernel_rfl)) ?_
  rintro u _ ⟨a2, c2, rfl, rfl⟩
  refine wpa_done 0 (by kernel_rfl) ?_
  refine nx_block ?_
  refine nx_end (hp' := ([.blk gw 105 [.pointer (some ⟨gw, 0, none⟩), .slice a2 (List.length (bs ++ objT (txt (List.map Ob.o l) d) (Ob.tag l[Int.toNat (V.n v)], Ob.cells l[Int.toNat (V.n v)]))) c2, .pointer (some ⟨g, 0, none⟩)], row 5 1 a2 (List.length (bs ++ objT (txt (List.map Ob.o l) d) (Ob.tag l[Int.toNat (V.n v)], Ob.cells l[Int.toNat (V.n v)]))) c2 (u8s (bs ++ objT (txt (List.map Ob.o l) d) (Ob.tag l[Int.toNat (V.n v)], Ob.cells l[Int.toNat (V.n v)])))])) (rest := [ro (Ob.a l[Int.toNat (V.n v)]) (List.flatMap valC (Ob.cells l[Int.toNat (V.n v)])), ro (some ⟨g, 0, none⟩) [.bool true, .int .i64 most, .int .i64 (↑used : Int), .slice (some ⟨g0, o0, none⟩) (List.length l) c], ro (some ⟨g0, o0, none⟩) (List.flatMap objC l), gBag l, gPow, .blk g1 28 [.int .i64 4, .int .i64 (V.n v), .string (mkS (V.s v))]]) [] ((Value.tuple #[])) (by kernel_rfl) (by kernel_rfl) (give [0, 0] (by kernel_rfl)) (by first | ((repeat (first | exact trivial | refine ⟨trivial, ?_⟩)); done) | assumption) ?_ (.inl rfl)
  exact ⟨a2, c2, rfl, rfl⟩
theorem value_spec (g : Nat) (most : Int) (used : Nat) (a : Option Addr) (c : Nat) (l : List Ob) (hl4 : l.length ≤ 4096) (hL : okHeap (l.map Ob.o)) : ∀ d, d ≤ 3 → ∀ v, showV l.length v → ValS g most used a c l d v
  | 0, _, v, hv => by
    by_cases hk : v.k = 4
    · exact value_zero g most used a c l v hk
    · exact value_low g most used a c l 0 v hv hk
  | d + 1, hd, v, hv => by
    by_cases hk : v.k = 4
    · exact value_succ g most used a c l d (by omega) hl4 (value_spec g most used a c l hl4 hL d (by omega)) hL v hv hk
    · exact value_low g most used a c l (d + 1) v hv hk
def cutT (s : List UInt8) : List UInt8 := if 200 < s.length then s.take 197 ++ [46, 46, 46] else s
def showT (L : List O) (v : V) : List UInt8 := if rightB v L.length then cutT (txt L 2 v) else []
theorem txt_ne' {T : List UInt8} (h : 0 < T.length) : T ≠ [] := fun e => by rw [e] at h; cases h
theorem itoa_pos (n : Int) : 0 < (Lib.itoa n).length := by
  have hd : ∀ m : Nat, 0 < (Lib.decDigits m).length := fun m => by
    rw [Lib.decDigits]; split <;> simp
  unfold Lib.itoa
  split
  · simp
  · exact hd _
theorem txt_pos {L : List O} {d : Nat} {v : V} : 0 < (txt L d v).length := by
  rw [txt_k]
  split
  · simp
  split
  · exact itoa_pos _
  split
  · split <;> simp
  split
  · simp [quoL]
  · cases d with
    | zero => simp
    | succ d => show 0 < (objT _ _).length; unfold objT; split <;> simp <;> omega
theorem Show_spec (g : Nat) (most : Int) (used : Nat) (a : Option Addr) (c : Nat) (l : List Ob) (hl4 : l.length ≤ 4096) (hL : okHeap (l.map Ob.o)) (v : V) (hs : v.sm) (hi : v.i64) :
    Does Tryz.prog 26 [.pointer (some ⟨g, 0, none⟩), valV v] [ro (some ⟨g, 0, none⟩) [.bool true, .int .i64 most, .int .i64 used, .slice a l.length c], ro a (l.flatMap objC), gBag l, gPow]
    (fun u hp' => u = .string (mkS (showT (l.map Ob.o) v)) ∧ hp' = []) := by
  have hck := Check_spec v l.length hs
  unfold showT
  rw [List.length_map]
  refine fn_enter Tryz.func26 rfl 37 rfl fun w0 h0 => ?_
  refine wpc_seq ?_
  refine wpc_region [0, 1] (by kernel_rfl) ?_
  refine wpr_new (l₂ := [1]) true [0] [] (fun g1 => [(3, .pointer (some ⟨g1, 0, none⟩)), (0, .pointer (some ⟨g, 0, none⟩))]) (fun g1 => [ro (some ⟨g, 0, none⟩) [.bool true, .int .i64 most, .int .i64 (↑used : Int), .slice a (List.length l) c], ro a (List.flatMap objC l), gBag l, gPow, .blk g1 28 [.int .i64 (V.k v), .int .i64 (V.n v), .string (mkS (V.s v))]]) (fun g1 => []) (fun g1 => by kernel_rfl) (fun g1 => by kernel_rfl) (fun g1 => trivial) fun g1 => ?_
  refine wpr_run (l₂ := []) true [1] [] [(4, .string ⟨#[]⟩), (3, .pointer (some ⟨g1, 0, none⟩)), (0, .pointer (some ⟨g, 0, none⟩))] [ro (some ⟨g, 0, none⟩) [.bool true, .int .i64 most, .int .i64 (↑used : Int), .slice a (List.length l) c], ro a (List.flatMap objC l), gBag l, gPow, .blk g1 28 [.int .i64 (V.k v), .int .i64 (V.n v), .string (mkS (V.s v))]] [] (by kernel_rfl) (by kernel_rfl) trivial ?_
  refine wpr_nil (nx_then (wpc_seq (wpc_seq ?_)))
  refine wpc_draw (by kernel_rfl) [ro (some ⟨g, 0, none⟩) [.bool true, .int .i64 most, .int .i64 (↑used : Int), .slice a (List.length l) c], .blk g1 28 [.int .i64 (V.k v), .int .i64 (V.n v), .string (mkS (V.s v))]] (sub_of [0, 4] (by kernel_rfl)) 13 (by kernel_rfl) ?_
  refine wpa_take true [(0, [])] [(7, .pointer (some ⟨g, 0, none⟩)), (4, .string ⟨#[]⟩), (3, .pointer (some ⟨g1, 0, none⟩)), (0, .pointer (some ⟨g, 0, none⟩))] (#[true, false, false, false, false, false, false, false, false, false, false, false, false]) [] (n := 12) (by kernel_rfl) (by kernel_rfl) (by kernel_rfl) trivial ?_
  refine wpa_call (i := 1) (n := 11) (dst := some 8) (rest := [ro (some ⟨g, 0, none⟩) [.bool true, .int .i64 most, .int .i64 (↑used : Int), .slice a (List.length l) c], ro a (List.flatMap objC l), gBag l, gPow, .blk g1 28 [.int .i64 (V.k v), .int .i64 (V.n v), .string (mkS (V.s v))]]) (by kernel_rfl) (by kernel_rfl) (isRo_spec g (.int .i64 most) (.int .i64 used) (.slice a l.length c)) (Give.view (c := (ro (some ⟨g, 0, none⟩) [.bool true, .int .i64 most, .int .i64 (↑used : Int), .slice a (List.length l) c])) (give (pre := []) (rest := [ro (some ⟨g, 0, none⟩) [.bool true, .int .i64 most, .int .i64 (↑used : Int), .slice a (List.length l) c], ro a (List.flatMap objC l), gBag l, gPow, .blk g1 28 [.int .i64 (V.k v), .int .i64 (V.n v), .string (mkS (V.s v))]]) [] (by kernel_rfl)) 0 (by kernel_rfl) view_ro) (sub_of [0, 4] (by kernel_rfl)) ?_
  rintro u _ ⟨rfl, rfl⟩
  refine wpa_take true [(2, []), (3, []), (4, [1, 1, 1]), (5, []), (6, []), (7, [])] [(14, .pointer (some ⟨g, 3, none⟩)), (11, .agg #[.int .i64 (V.k v), .int .i64 (V.n v), .string (mkS (V.s v))]), (10, .bool false), (4, .string ⟨#[]⟩), (3, .pointer (some ⟨g1, 0, none⟩)), (0, .pointer (some ⟨g, 0, none⟩))] (#[true, true, true, true, true, true, true, true, false, false, false, false, false]) [] (n := 5) (by kernel_rfl) (by kernel_rfl) (by kernel_rfl) trivial ?_
  refine wpa_qld (i := 8) (n := 4) (by kernel_rfl) (by kernel_rfl) (by kernel_rfl) (t := 37) (a := ⟨g, 3, none⟩) (dst := some 15) (by kernel_rfl) false 1 (by kernel_rfl) (by simp) [.slice a l.length c] rfl (fun w h => ld_roL h 0 rfl 3 rfl) ?_
  refine wpa_take true [(9, [])] [(16, .int .i64 (↑(List.length l) : Int)), (11, .agg #[.int .i64 (V.k v), .int .i64 (V.n v), .string (mkS (V.s v))]), (10, .bool false), (4, .string ⟨#[]⟩), (3, .pointer (some ⟨g1, 0, none⟩)), (0, .pointer (some ⟨g, 0, none⟩))] (#[true, true, true, true, true, true, true, true, true, true, false, false, false]) [] (n := 3) (by kernel_rfl) (by kernel_rfl) (by kernel_rfl) trivial ?_
  refine wpa_call (i := 10) (n := 2) (dst := some 17) (rest := [ro (some ⟨g, 0, none⟩) [.bool true, .int .i64 most, .int .i64 (↑used : Int), .slice a (List.length l) c], ro a (List.flatMap objC l), gBag l, gPow, .blk g1 28 [.int .i64 (V.k v), .int .i64 (V.n v), .string (mkS (V.s v))]]) (by kernel_rfl) (by kernel_rfl) (hck) (give [] (by kernel_rfl)) (sub_of [0, 4] (by kernel_rfl)) ?_
  rintro u _ ⟨rfl, rfl⟩
  cases hr : rightB v l.length with
  | false =>
    refine wpa_take true [(11, []), (12, [])] [(19, .bool true), (4, .string ⟨#[]⟩), (3, .pointer (some ⟨g1, 0, none⟩)), (0, .pointer (some ⟨g, 0, none⟩))] (#[true, true, true, true, true, true, true, true, true, true, true, true, true]) [] (n := 0) (by kernel_rfl) (by kernel_rfl) (by kernel_rfl) trivial ?_
    refine wpa_done 0 (by kernel_rfl) ?_
    refine nx_then ?_
    refine wpc_true (by kernel_rfl) ?_
    refine wpc_seq ?_
    refine wpc_region [0] (by kernel_rfl) ?_
    refine wpr_run (l₂ := []) true [0] [] [(4, .string ⟨#[]⟩), (3, .pointer (some ⟨g1, 0, none⟩)), (0, .pointer (some ⟨g, 0, none⟩))] [ro (some ⟨g, 0, none⟩) [.bool true, .int .i64 most, .int .i64 (↑used : Int), .slice a (List.length l) c], ro a (List.flatMap objC l), gBag l, gPow, .blk g1 28 [.int .i64 (V.k v), .int .i64 (V.n v), .string (mkS (V.s v))]] [] (by kernel_rfl) (by kernel_rfl) trivial ?_
    refine wpr_nil (nx_then ?_)
    refine wpc_ret ?_
    refine nx_then_ret ?_
    refine nx_end (hp' := []) (rest := [ro (some ⟨g, 0, none⟩) [.bool true, .int .i64 most, .int .i64 (↑used : Int), .slice a (List.length l) c], ro a (List.flatMap objC l), gBag l, gPow, .blk g1 28 [.int .i64 (V.k v), .int .i64 (V.n v), .string (mkS (V.s v))]]) [] ((.string ⟨#[]⟩)) (by kernel_rfl) (by kernel_rfl) (give [] (by kernel_rfl)) (by first | ((repeat (first | exact trivial | refine ⟨trivial, ?_⟩)); done) | assumption) ?_ (.inr rfl)
    exact ⟨rfl, rfl⟩
  | true =>
    have hval := fun gw => value_spec g most used a c l hl4 hL 2 (by omega) v ⟨hs, hi, hr⟩ gw none none 0 [] (.inl rfl) (by simp [tB])
    unfold wrH hctx valV at hval
    simp only [List.cons_append, List.nil_append] at hval
    obtain ⟨T, hT⟩ : ∃ T, T = txt (l.map Ob.o) 2 v := ⟨_, rfl⟩
    have hpos : 0 < T.length := by rw [hT]; exact txt_pos
    have hlen : T.length ≤ 200000000 := by
      rw [hT]
      have := txt_len hL 2 v ⟨hs, hi, by rw [List.length_map]; exact hr⟩
      simp only [tB] at this; omega
    have hTs : (mkS T).size = T.length := mkS_size _
    rw [← hT] at hval ⊢
    refine wpa_take true [(11, []), (12, [])] [(19, .bool false), (4, .string ⟨#[]⟩), (3, .pointer (some ⟨g1, 0, none⟩)), (0, .pointer (some ⟨g, 0, none⟩))] (#[true, true, true, true, true, true, true, true, true, true, true, true, true]) [] (n := 0) (by kernel_rfl) (by kernel_rfl) (by kernel_rfl) trivial ?_
    refine wpa_done 0 (by kernel_rfl) ?_
    refine nx_then ?_
    refine wpc_false (by kernel_rfl) ?_
    refine wpc_skip ?_
    refine nx_then (wpc_seq ?_)
    refine wpc_region [0, 1, 2, 3] (by kernel_rfl) ?_
    refine wpr_new (l₂ := [3]) true [0, 1, 2] [] (fun g2 => [(22, .pointer (some ⟨g2, 0, none⟩)), (4, .string ⟨#[]⟩), (3, .pointer (some ⟨g1, 0, none⟩))]) (fun g2 => [ro (some ⟨g, 0, none⟩) [.bool true, .int .i64 most, .int .i64 (↑used : Int), .slice a (List.length l) c], ro a (List.flatMap objC l), gBag l, gPow, .blk g1 28 [.int .i64 (V.k v), .int .i64 (V.n v), .string (mkS (V.s v))], .blk g2 105 [.pointer none, .slice none 0 0, .pointer (some ⟨g, 0, none⟩)]]) (fun g2 => []) (fun g2 => by kernel_rfl) (fun g2 => by kernel_rfl) (fun g2 => trivial) fun g2 => ?_
    refine wpr_run (l₂ := []) true [3] [] [(5, .pointer (some ⟨g2, 0, none⟩)), (4, .string ⟨#[]⟩), (3, .pointer (some ⟨g1, 0, none⟩))] [ro (some ⟨g, 0, none⟩) [.bool true, .int .i64 most, .int .i64 (↑used : Int), .slice a (List.length l) c], ro a (List.flatMap objC l), gBag l, gPow, .blk g1 28 [.int .i64 (V.k v), .int .i64 (V.n v), .string (mkS (V.s v))], .blk g2 105 [.pointer none, .slice none 0 0, .pointer (some ⟨g, 0, none⟩)]] [] (by kernel_rfl) (by kernel_rfl) trivial ?_
    refine wpr_nil (nx_then (wpc_seq ?_))
    refine wpc_region [0, 1, 2] (by kernel_rfl) ?_
    refine wpr_run (l₂ := [2]) true [0, 1] [4, 4, 4] [(24, .agg #[.int .i64 (V.k v), .int .i64 (V.n v), .string (mkS (V.s v))]), (23, .pointer (some ⟨g2, 0, none⟩)), (5, .pointer (some ⟨g2, 0, none⟩)), (4, .string ⟨#[]⟩)] [ro (some ⟨g, 0, none⟩) [.bool true, .int .i64 most, .int .i64 (↑used : Int), .slice a (List.length l) c], ro a (List.flatMap objC l), gBag l, gPow, .blk g1 28 [.int .i64 (V.k v), .int .i64 (V.n v), .string (mkS (V.s v))], .blk g2 105 [.pointer none, .slice none 0 0, .pointer (some ⟨g, 0, none⟩)]] [] (by kernel_rfl) (by kernel_rfl) trivial ?_
    refine wpr_ent (ent_nil 5 1) ?_
    refine wpr_call (dst := some 25) (rest := [ro (some ⟨g, 0, none⟩) [.bool true, .int .i64 most, .int .i64 (↑used : Int), .slice a (List.length l) c], ro a (List.flatMap objC l), gBag l, gPow, .blk g1 28 [.int .i64 (V.k v), .int .i64 (V.n v), .string (mkS (V.s v))]]) (by kernel_rfl) (hval g2) (Give.reorder (Give.view (c := (ro (some ⟨g, 0, none⟩) [.bool true, .int .i64 most, .int .i64 (↑used : Int), .slice a (List.length l) c])) (Give.view (c := (ro a (List.flatMap objC l))) (Give.view (c := (gBag l)) (Give.view (c := gPow) (give (pre := [.blk g2 105 [.pointer none, .slice none 0 0, .pointer (some ⟨g, 0, none⟩)], row 5 1 none 0 0 (u8s [])]) (rest := [ro (some ⟨g, 0, none⟩) [.bool true, .int .i64 most, .int .i64 (↑used : Int), .slice a (List.length l) c], ro a (List.flatMap objC l), gBag l, gPow, .blk g1 28 [.int .i64 (V.k v), .int .i64 (V.n v), .string (mkS (V.s v))]]) [6, 0] (by kernel_rfl)) 3 (by kernel_rfl) view_gPow) 2 (by kernel_rfl) view_self) 1 (by kernel_rfl) view_ro) 0 (by kernel_rfl) view_ro) [4, 4, 0, 0, 0, 0] (by kernel_rfl)) ?_
    rintro u _ ⟨a2, c2, rfl, rfl⟩
    refine wpr_nil (nx_then (wpc_seq ?_))
    refine wpc_region [0, 1, 2, 3, 4] (by kernel_rfl) ?_
    refine wpr_run (l₂ := [3, 4]) true [0, 1, 2] [] [(28, .pointer (some ⟨g2, 0, none⟩)), (4, .string ⟨#[]⟩)] [.blk g2 105 [.pointer (some ⟨g2, 0, none⟩), .slice a2 (List.length T) c2, .pointer (some ⟨g, 0, none⟩)], row 5 1 a2 (List.length T) c2 (u8s T), ro (some ⟨g, 0, none⟩) [.bool true, .int .i64 most, .int .i64 (↑used : Int), .slice a (List.length l) c], ro a (List.flatMap objC l), gBag l, gPow, .blk g1 28 [.int .i64 (V.k v), .int .i64 (V.n v), .string (mkS (V.s v))]] [] (by kernel_rfl) (by kernel_rfl) trivial ?_
    refine wpr_call (dst := some 29) (rest := [ro (some ⟨g, 0, none⟩) [.bool true, .int .i64 most, .int .i64 (↑used : Int), .slice a (List.length l) c], ro a (List.flatMap objC l), gBag l, gPow, .blk g1 28 [.int .i64 (V.k v), .int .i64 (V.n v), .string (mkS (V.s v))]]) (by kernel_rfl) (BString_spec g2 (.pointer (some ⟨g2, 0, none⟩)) a2 c2 T (.pointer (some ⟨g, 0, none⟩)) (txt_ne' hpos)) (give [0, 0] (by kernel_rfl)) ?_
    rintro u _ ⟨rfl, rfl⟩
    have hs46 : (ByteArray.mk #[46, 46, 46]).size = 3 := rfl
    have hs47 : (mkS (List.take (Int.toNat (197 - 0)) (List.drop (Int.toNat 0) T))).size ≤ 197 := by rw [mkS_size]; exact List.length_take_le _ _
    have hs48 : (List.take (Int.toNat (197 - 0)) (List.drop (Int.toNat 0) T)).length ≤ 197 := List.length_take_le _ _
    by_cases h200 : 200 < T.length
    · refine wpr_run (l₂ := []) true [4] [] [(6, .string (mkS T)), (4, .string ⟨#[]⟩)] [.blk g2 105 [.pointer (some ⟨g2, 0, none⟩), .slice a2 (List.length T) c2, .pointer (some ⟨g, 0, none⟩)], ro (some ⟨g, 0, none⟩) [.bool true, .int .i64 most, .int .i64 (↑used : Int), .slice a (List.length l) c], ro a (List.flatMap objC l), gBag l, gPow, .blk g1 28 [.int .i64 (V.k v), .int .i64 (V.n v), .string (mkS (V.s v))]] [] (by kernel_rfl) (by kernel_rfl) trivial ?_
      refine wpr_nil (nx_then (wpc_seq (wpc_seq ?_)))
      refine wpc_region [0, 1, 2] (by kernel_rfl) ?_
      refine wpr_run (l₂ := []) true [0, 1, 2] [] [(32, .bool (decide ((↑(List.length T) : Int) > 200))), (6, .string (mkS T)), (4, .string ⟨#[]⟩)] [.blk g2 105 [.pointer (some ⟨g2, 0, none⟩), .slice a2 (List.length T) c2, .pointer (some ⟨g, 0, none⟩)], ro (some ⟨g, 0, none⟩) [.bool true, .int .i64 most, .int .i64 (↑used : Int), .slice a (List.length l) c], ro a (List.flatMap objC l), gBag l, gPow, .blk g1 28 [.int .i64 (V.k v), .int .i64 (V.n v), .string (mkS (V.s v))]] [] (by kernel_rfl) (by kernel_rfl) trivial ?_
      refine wpr_nil (nx_then ?_)
      refine wpc_ent (ent_set 32 (.bool (decide ((↑(List.length T) : Int) > 200))) (.bool true) (by kernel_rfl) (congrArg _ (decide_eq_true (by omega)))) ?_
      refine wpc_true (by kernel_rfl) ?_
      refine wpc_seq ?_
      refine wpc_region [0, 1, 2, 3] (by kernel_rfl) ?_
      refine wpr_run (l₂ := []) true [0, 1, 2, 3] [] ([(4, .string (mkS (List.take (Int.toNat (197 - 0)) (List.drop (Int.toNat 0) T) ++ [46, 46, 46]))), (6, .string (mkS T))]) [.blk g2 105 [.pointer (some ⟨g2, 0, none⟩), .slice a2 (List.length T) c2, .pointer (some ⟨g, 0, none⟩)], ro (some ⟨g, 0, none⟩) [.bool true, .int .i64 most, .int .i64 (↑used : Int), .slice a (List.length l) c], ro a (List.flatMap objC l), gBag l, gPow, .blk g1 28 [.int .i64 (V.k v), .int .i64 (V.n v), .string (mkS (V.s v))]] ([(0 : Int) ≤ (197 : Int) ∧ (197 : Int) ≤ (↑(List.length T) : Int), List.length (List.take (Int.toNat ((197 : Int) - (0 : Int))) (List.drop (Int.toNat (0 : Int)) T)) + ByteArray.size (ByteArray.mk #[(46 : UInt8), (46 : UInt8), (46 : UInt8)]) ≤ (9223372036854775807 : Nat)]) (by kernel_rfl) (by kernel_rfl) ⟨by first | omega | decide | (simp; done), by first | omega | decide | (simp; done), trivial⟩ ?_
      refine wpr_nil (nx_then ?_)
      refine wpc_ret ?_
      refine nx_then_ret ?_
      refine nx_end (hp' := []) (rest := [.blk g2 105 [.pointer (some ⟨g2, 0, none⟩), .slice a2 (List.length T) c2, .pointer (some ⟨g, 0, none⟩)], ro (some ⟨g, 0, none⟩) [.bool true, .int .i64 most, .int .i64 (↑used : Int), .slice a (List.length l) c], ro a (List.flatMap objC l), gBag l, gPow, .blk g1 28 [.int .i64 (V.k v), .int .i64 (V.n v), .string (mkS (V.s v))]]) [] ((.string (mkS (List.take (Int.toNat (197 - 0)) (List.drop (Int.toNat 0) T) ++ [46, 46, 46])))) (by kernel_rfl) (by kernel_rfl) (give [] (by kernel_rfl)) (by first | ((repeat (first | exact trivial | refine ⟨trivial, ?_⟩)); done) | assumption) ?_ (.inr rfl)
      refine ⟨?_, rfl⟩
      unfold cutT
      rw [if_pos rfl, if_pos h200]; rfl
    · refine wpr_run (l₂ := []) true [4] [] [(6, .string (mkS T)), (4, .string ⟨#[]⟩)] [.blk g2 105 [.pointer (some ⟨g2, 0, none⟩), .slice a2 (List.length T) c2, .pointer (some ⟨g, 0, none⟩)], ro (some ⟨g, 0, none⟩) [.bool true, .int .i64 most, .int .i64 (↑used : Int), .slice a (List.length l) c], ro a (List.flatMap objC l), gBag l, gPow, .blk g1 28 [.int .i64 (V.k v), .int .i64 (V.n v), .string (mkS (V.s v))]] [] (by kernel_rfl) (by kernel_rfl) trivial ?_
      refine wpr_nil (nx_then (wpc_seq (wpc_seq ?_)))
      refine wpc_region [0, 1, 2] (by kernel_rfl) ?_
      refine wpr_run (l₂ := []) true [0, 1, 2] [] [(32, .bool (decide ((↑(List.length T) : Int) > 200))), (6, .string (mkS T)), (4, .string ⟨#[]⟩)] [.blk g2 105 [.pointer (some ⟨g2, 0, none⟩), .slice a2 (List.length T) c2, .pointer (some ⟨g, 0, none⟩)], ro (some ⟨g, 0, none⟩) [.bool true, .int .i64 most, .int .i64 (↑used : Int), .slice a (List.length l) c], ro a (List.flatMap objC l), gBag l, gPow, .blk g1 28 [.int .i64 (V.k v), .int .i64 (V.n v), .string (mkS (V.s v))]] [] (by kernel_rfl) (by kernel_rfl) trivial ?_
      refine wpr_nil (nx_then ?_)
      refine wpc_ent (ent_set 32 (.bool (decide ((↑(List.length T) : Int) > 200))) (.bool false) (by kernel_rfl) (congrArg _ (decide_eq_false (by omega)))) ?_
      refine wpc_false (by kernel_rfl) ?_
      refine wpc_skip ?_
      refine nx_then (wpc_seq ?_)
      refine wpc_region [0, 1] (by kernel_rfl) ?_
      refine wpr_run (l₂ := []) true [0, 1] [] [(4, .string (mkS T))] [.blk g2 105 [.pointer (some ⟨g2, 0, none⟩), .slice a2 (List.length T) c2, .pointer (some ⟨g, 0, none⟩)], ro (some ⟨g, 0, none⟩) [.bool true, .int .i64 most, .int .i64 (↑used : Int), .slice a (List.length l) c], ro a (List.flatMap objC l), gBag l, gPow, .blk g1 28 [.int .i64 (V.k v), .int .i64 (V.n v), .string (mkS (V.s v))]] [] (by kernel_rfl) (by kernel_rfl) trivial ?_
      refine wpr_nil (nx_then ?_)
      refine wpc_ret ?_
      refine nx_end (hp' := []) (rest := [.blk g2 105 [.pointer (some ⟨g2, 0, none⟩), .slice a2 (List.length T) c2, .pointer (some ⟨g, 0, none⟩)], ro (some ⟨g, 0, none⟩) [.bool true, .int .i64 most, .int .i64 (↑used : Int), .slice a (List.length l) c], ro a (List.flatMap objC l), gBag l, gPow, .blk g1 28 [.int .i64 (V.k v), .int .i64 (V.n v), .string (mkS (V.s v))]]) [] ((.string (mkS T))) (by kernel_rfl) (by kernel_rfl) (give [] (by kernel_rfl)) (by first | ((repeat (first | exact trivial | refine ⟨trivial, ?_⟩)); done) | assumption) ?_ (.inr rfl)
      refine ⟨?_, rfl⟩
      unfold cutT
      rw [if_pos rfl, if_neg h200]
end Go.Proofs.YtpfhleghgkeemaaGreatDoor
