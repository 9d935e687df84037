import Derived.Test.YtpfhleghgkeemaaGreatDoorH23
import Derived.Test.YtpfhleghgkeemaaGreatDoorY2
namespace Go.Proofs.YtpfhleghgkeemaaGreatDoor
open Go Go.Sx
set_option linter.unusedVariables false
set_option linter.unusedSimpArgs false

theorem value_succ (g : Nat) (most : Int) (used : Nat) (a : Option Addr) (c : Nat) (l : List Ob) (d : Nat) (hd9 : d ≤ 9) (hl4 : l.length ≤ 4096) (hV : ∀ v, showV l.length v → ValS g most used a c l d v) (hL : okHeap (l.map Ob.o)) (v : V) (hv : showV l.length v) (hk : v.k = 4) : ValS g most used a c l (d + 1) v := by
  intro gw ad aw cw bs had hb
  obtain ⟨hs, hi, hr⟩ := hv
  obtain ⟨hn0, hnl⟩ := right_ref hr hk
  have hq : v.n.toNat < l.length := by omega
  have hok := hL (l[v.n.toNat].o) (List.mem_map.2 ⟨_, List.getElem_mem hq, rfl⟩)
  rw [List.length_map] at hok
  have hw := wobj_spec g most used a c l d hV hL l[v.n.toNat].tag l[v.n.toNat].cells l[v.n.toNat].a l[v.n.toNat].c hok.1 hok.2.1 hok.2.2 gw ad aw cw bs had hb
  have htx : txt (l.map Ob.o) (d + 1) v = objT (txt (l.map Ob.o) d) (l[v.n.toNat].tag, l[v.n.toNat].cells) := by
    rw [txt_k, if_neg (by omega), if_neg (by omega), if_neg (by omega), if_neg (by omega)]
    show objT _ (objAt _ _) = _
    rw [objAt_map hq]; rfl
  rw [htx]
  unfold wrH hctx at hw ⊢
  simp only [List.cons_append, List.nil_append] at hw ⊢
  unfold valV
  rw [hk]
  refine fn_enter Tryz.func54 rfl 67 rfl fun w0 h0 => ?_
  refine SQ (RG ?_)
  refine RP [] .z 4 (.k (.d (.k .a))) (.i (.blk gw 105 [.pointer ad, .slice aw (List.length bs) cw, .pointer (some ⟨g, 0, none⟩)]) (.d (.k .a))) 28 [.int .i64 4, .int .i64 (V.n v), .string (mkS (V.s v))] fun g1 => ?_
  refine RZ (NT (SQ (RG ?_)))
  refine RR [6] .z (.i 9 (.int .i64 4) .a) (.i (.blk gw 105 [.pointer ad, .slice aw (List.length bs) cw, .pointer (some ⟨g, 0, none⟩)]) (.d (.k (.k (.k (.k (.k (.i (.blk g1 28 [.int .i64 4, .int .i64 (V.n v), .string (mkS (V.s v))]) .z)))))))) ?_
  refine RZ (NT (BK (SQ (RG ?_))))
  refine RR [] .z (.i 10 (.bool false) .a) (.i (.blk gw 105 [.pointer ad, .slice aw (List.length bs) cw, .pointer (some ⟨g, 0, none⟩)]) (.d (.k (.k (.k (.k (.k (.i (.blk g1 28 [.int .i64 4, .int .i64 (V.n v), .string (mkS (V.s v))]) .z)))))))) ?_
  refine RZ (NT (CF (SQ (RG ?_))))
  refine RR [] .z (.i 15 (.bool false) (.d (.k .a))) (.i (.blk gw 105 [.pointer ad, .slice aw (List.length bs) cw, .pointer (some ⟨g, 0, none⟩)]) (.d (.k (.k (.k (.k (.k (.i (.blk g1 28 [.int .i64 4, .int .i64 (V.n v), .string (mkS (V.s v))]) .z)))))))) ?_
  refine RZ (NT (CF (SQ (RG ?_))))
  refine RR [] .z (.i 23 (.bool false) (.d (.k .a))) (.i (.blk gw 105 [.pointer ad, .slice aw (List.length bs) cw, .pointer (some ⟨g, 0, none⟩)]) (.d (.k (.k (.k (.k (.k (.i (.blk g1 28 [.int .i64 4, .int .i64 (V.n v), .string (mkS (V.s v))]) .z)))))))) ?_
  refine RZ (NT (CF (SQ (RG ?_))))
  refine RR [] .z (.i 32 (.bool false) (.d (.k .a))) (.i (.blk gw 105 [.pointer ad, .slice aw (List.length bs) cw, .pointer (some ⟨g, 0, none⟩)]) (.d (.k (.k (.k (.k (.k (.i (.blk g1 28 [.int .i64 4, .int .i64 (V.n v), .string (mkS (V.s v))]) .z)))))))) ?_
  refine RZ (NT (CF (SQ (RG ?_))))
  refine RR [] .z (.i 45 (.bool true) (.d (.d (.k .a)))) (.i (.blk gw 105 [.pointer ad, .slice aw (List.length bs) cw, .pointer (some ⟨g, 0, none⟩)]) (.d (.k (.k (.k (.k (.k (.i (.blk g1 28 [.int .i64 4, .int .i64 (V.n v), .string (mkS (V.s v))]) .z)))))))) ?_
  refine RZ (NT (CT (SQ (SQ (RG ?_)))))
  refine RR [] .z (.i 48 (.bool false) (.d (.k .a))) (.i (.blk gw 105 [.pointer ad, .slice aw (List.length bs) cw, .pointer (some ⟨g, 0, none⟩)]) (.d (.k (.k (.k (.k (.k (.i (.blk g1 28 [.int .i64 4, .int .i64 (V.n v), .string (mkS (V.s v))]) .z)))))))) ?_
  refine RZ (NT (CF (SK (NT ?_))))
  refine wpc_fact (fun w h => ro_addr h 3 rfl (by rw [objs_len]; omega)) ?_
  rintro ⟨g0, o0, rfl⟩
  refine wpc_ent (ent_copy 4 (ro l[v.n.toNat].a (l[v.n.toNat].cells.flatMap valC)) rfl (fun h => h) (view_in (obRo_in hq) view_ro)) ?_
  have hdd : ((d + 1 : Nat) : Int) - 1 = d := by omega
  rw [← hdd] at hw
  refine wpc_draw (by kernel_rfl) [ro (some ⟨g, 0, none⟩) [.bool true, .int .i64 most, .int .i64 (↑used : Int), .slice (some ⟨g0, o0, none⟩) (List.length l) c], ro (some ⟨g0, o0, none⟩) (List.flatMap objC l), .blk g1 28 [.int .i64 4, .int .i64 (V.n v), .string (mkS (V.s v))]] (sub_of [3, 4, 7] (by kernel_rfl)) 15 (by kernel_rfl) ?_
  refine wpa_take true [(0, []), (1, []), (2, []), (3, []), (8, []), (9, [2]), (12, []), (13, [])] ([(65, .int .i64 ((↑(d + 1) : Int) - 1)), (61, .int .i64 (V.n v)), (55, .pointer (some ⟨gw, 2, none⟩)), (52, .pointer (some ⟨gw, 0, none⟩))]) (#[true, true, true, true, false, false, false, false, true, true, false, false, true, true, false]) ([inI64 ((↑(d + (1 : Nat)) : Int) - (1 : Int))]) (n := 7) (by kernel_rfl) (by kernel_rfl) (by kernel_rfl) ⟨by unfold inI64; omega, trivial⟩ ?_
  refine AO 6 4 [1] (.i 56 (.pointer (some ⟨g, 0, none⟩)) (.k (.k (.d (.k .a))))) (.k (.i (.blk gw 105 [.pointer ad, .slice aw (List.length bs) cw, .pointer (some ⟨g, 0, none⟩)]) (.d (.k (.k (.k (.k (.k (.i (.blk g1 28 [.int .i64 4, .int .i64 (V.n v), .string (mkS (V.s v))]) .z))))))))) [3, 4, 7] ?_
  refine TK 4 [(5, []), (6, [])] (.i 58 (.pointer (some ⟨g, 3, none⟩)) (.d (.k .a))) (#[true, true, true, true, true, true, true, false, true, true, false, false, true, true, false]) ?_
  refine wpa_qld (i := 7) (n := 3) (by kernel_rfl) (by kernel_rfl) (by kernel_rfl) (t := 37) (a := ⟨g, 3, none⟩) (dst := some 59) (by kernel_rfl) false 1 (by kernel_rfl) (by simp) [.slice (some ⟨g0, o0, none⟩) l.length c] rfl (fun w h => ld_roL h 0 rfl 3 rfl) ?_
  refine wpa_take true [(10, [])] ([(62, .pointer (some (Addr.mk g0 (o0 + Int.toNat (V.n v) * 2) none))), (65, .int .i64 ((↑(d + 1) : Int) - 1)), (52, .pointer (some ⟨gw, 0, none⟩))]) (#[true, true, true, true, true, true, true, true, true, true, true, false, true, true, false]) [(0 : Int) ≤ V.n v ∧ V.n v < (↑(List.length l) : Int)] (n := 2) (by kernel_rfl) (by kernel_rfl) (by kernel_rfl) ⟨by first | omega | decide | (simp; done), trivial⟩ ?_
  refine wpa_qld (i := 11) (n := 1) (by kernel_rfl) (by kernel_rfl) (by kernel_rfl) (t := 43) (a := (Addr.mk g0 (o0 + Int.toNat (V.n v) * 2) none)) (dst := some 63) (by kernel_rfl) true 2 (by kernel_rfl) (by simp) [.string (mkS l[v.n.toNat].tag), .slice l[v.n.toNat].a l[v.n.toNat].cells.length l[v.n.toNat].c] rfl (fun w h => ld_roL h 1 rfl (v.n.toNat * 2) (objs_at hq)) ?_
  refine AC (dst := some 66) 0 14 (.k (.d (.d (.k (.k (.k (.k (.i (.blk g1 28 [.int .i64 4, .int .i64 (V.n v), .string (mkS (V.s v))]) .z)))))))) (hw) (GO (GV (GV (GV (GV (GV (GJ [1, 1]) 0 view_ro) 4 view_gPow) 3 view_self) 2 view_ro) 1 view_ro) [5, 5, 0, 0, 0, 0, 0]) [1, 2, 5] ?_
  rintro u _ ⟨a2, c2, rfl, rfl⟩
  refine wpa_done 0 (by kernel_rfl) ?_
  refine BN ?_
  refine NE [0, 0] (.i (.blk gw 105 [.pointer (some ⟨gw, 0, none⟩), .slice a2 (List.length (bs ++ objT (txt (List.map Ob.o l) d) (Ob.tag l[Int.toNat (V.n v)], Ob.cells l[Int.toNat (V.n v)]))) c2, .pointer (some ⟨g, 0, none⟩)]) (.d (.k .z))) (.d (.d (.k (.k (.k (.k (.k (.i (.blk g1 28 [.int .i64 4, .int .i64 (V.n v), .string (mkS (V.s v))]) .z)))))))) [] (.tuple #[]) ?_
  exact ⟨a2, c2, rfl, rfl⟩
theorem value_spec (g : Nat) (most : Int) (used : Nat) (a : Option Addr) (c : Nat) (l : List Ob) (hl4 : l.length ≤ 4096) (hL : okHeap (l.map Ob.o)) : ∀ d, d ≤ 3 → ∀ v, showV l.length v → ValS g most used a c l d v
  | 0, _, v, hv => by
    by_cases hk : v.k = 4
    · exact value_zero g most used a c l v hk
    · exact value_low g most used a c l 0 v hv hk
  | d + 1, hd, v, hv => by
    by_cases hk : v.k = 4
    · exact value_succ g most used a c l d (by omega) hl4 (value_spec g most used a c l hl4 hL d (by omega)) hL v hv hk
    · exact value_low g most used a c l (d + 1) v hv hk
def cutT (s : List UInt8) : List UInt8 := if 200 < s.length then s.take 197 ++ [46, 46, 46] else s
def showT (L : List O) (v : V) : List UInt8 := if rightB v L.length then cutT (txt L 2 v) else []
theorem txt_ne' {T : List UInt8} (h : 0 < T.length) : T ≠ [] := fun e => by rw [e] at h; cases h
theorem itoa_pos (n : Int) : 0 < (Lib.itoa n).length := by
  have hd : ∀ m : Nat, 0 < (Lib.decDigits m).length := fun m => by
    rw [Lib.decDigits]; split <;> simp
  unfold Lib.itoa
  split
  · simp
  · exact hd _
theorem txt_pos {L : List O} {d : Nat} {v : V} : 0 < (txt L d v).length := by
  rw [txt_k]
  split
  · simp
  split
  · exact itoa_pos _
  split
  · split <;> simp
  split
  · simp [quoL]
  · cases d with
    | zero => simp
    | succ d => show 0 < (objT _ _).length; unfold objT; split <;> simp <;> omega
theorem Show_spec (g : Nat) (most : Int) (used : Nat) (a : Option Addr) (c : Nat) (l : List Ob) (hl4 : l.length ≤ 4096) (hL : okHeap (l.map Ob.o)) (v : V) (hs : v.sm) (hi : v.i64) :
    Does Tryz.prog 26 [.pointer (some ⟨g, 0, none⟩), valV v] [ro (some ⟨g, 0, none⟩) [.bool true, .int .i64 most, .int .i64 used, .slice a l.length c], ro a (l.flatMap objC), gBag l, gPow]
    (fun u hp' => u = .string (mkS (showT (l.map Ob.o) v)) ∧ hp' = []) := by
  have hck := Check_spec v l.length hs
  unfold showT
  rw [List.length_map]
  refine fn_enter Tryz.func26 rfl 37 rfl fun w0 h0 => ?_
  refine SQ (RG ?_)
  refine RP [] (.d .a) 3 (.k .z) .a 28 [.int .i64 (V.k v), .int .i64 (V.n v), .string (mkS (V.s v))] fun g1 => ?_
  refine RR [] .z (.i 4 (.string ⟨#[]⟩) .a) (.k (.k (.k (.k (.i (.blk g1 28 [.int .i64 (V.k v), .int .i64 (V.n v), .string (mkS (V.s v))]) .z))))) ?_
  refine RZ (NT (SQ (SQ ?_)))
  refine wpc_draw (by kernel_rfl) [ro (some ⟨g, 0, none⟩) [.bool true, .int .i64 most, .int .i64 (↑used : Int), .slice a (List.length l) c], .blk g1 28 [.int .i64 (V.k v), .int .i64 (V.n v), .string (mkS (V.s v))]] (sub_of [0, 4] (by kernel_rfl)) 13 (by kernel_rfl) ?_
  refine TK 12 [(0, [])] (.i 7 (.pointer (some ⟨g, 0, none⟩)) .a) (#[true, false, false, false, false, false, false, false, false, false, false, false, false]) ?_
  refine AC (dst := some 8) 11 1 (.k (.k (.k (.k (.i (.blk g1 28 [.int .i64 (V.k v), .int .i64 (V.n v), .string (mkS (V.s v))]) .z))))) (isRo_spec g (.int .i64 most) (.int .i64 used) (.slice a l.length c)) (GV (GI []) 0 view_ro) [0, 4] ?_
  rintro u _ ⟨rfl, rfl⟩
  refine TK 5 [(2, []), (3, []), (4, [1, 1, 1]), (5, []), (6, []), (7, [])] (.i 14 (.pointer (some ⟨g, 3, none⟩)) (.i 11 (.agg #[.int .i64 (V.k v), .int .i64 (V.n v), .string (mkS (V.s v))]) (.i 10 (.bool false) (.d (.d (.k .a)))))) (#[true, true, true, true, true, true, true, true, false, false, false, false, false]) ?_
  refine wpa_qld (i := 8) (n := 4) (by kernel_rfl) (by kernel_rfl) (by kernel_rfl) (t := 37) (a := ⟨g, 3, none⟩) (dst := some 15) (by kernel_rfl) false 1 (by kernel_rfl) (by simp) [.slice a l.length c] rfl (fun w h => ld_roL h 0 rfl 3 rfl) ?_
  refine TK 3 [(9, [])] (.i 16 (.int .i64 (↑(List.length l) : Int)) (.d (.d (.k .a)))) (#[true, true, true, true, true, true, true, true, true, true, false, false, false]) ?_
  refine AC (dst := some 17) 2 10 (.k (.k (.k (.k (.i (.blk g1 28 [.int .i64 (V.k v), .int .i64 (V.n v), .string (mkS (V.s v))]) .z))))) (hck) (GI []) [0, 4] ?_
  rintro u _ ⟨rfl, rfl⟩
  cases hr : rightB v l.length with
  | false =>
    refine TK 0 [(11, []), (12, [])] (.i 19 (.bool true) (.d (.d (.d (.d (.k .a)))))) (#[true, true, true, true, true, true, true, true, true, true, true, true, true]) ?_
    refine wpa_done 0 (by kernel_rfl) ?_
    refine NT (CT (SQ (RG ?_)))
    refine RR [] .z (.d (.k .a)) (.k (.k (.k (.k (.i (.blk g1 28 [.int .i64 (V.k v), .int .i64 (V.n v), .string (mkS (V.s v))]) .z))))) ?_
    refine RZ (NT (RE (TR ?_)))
    refine NE [] .z (.k (.k (.k (.k (.i (.blk g1 28 [.int .i64 (V.k v), .int .i64 (V.n v), .string (mkS (V.s v))]) .z))))) [] (.string ⟨#[]⟩) ?_
    exact ⟨rfl, rfl⟩
  | true =>
    have hval := fun gw => value_spec g most used a c l hl4 hL 2 (by omega) v ⟨hs, hi, hr⟩ gw none none 0 [] (.inl rfl) (by simp [tB])
    unfold wrH hctx valV at hval
    simp only [List.cons_append, List.nil_append] at hval
    obtain ⟨T, hT⟩ : ∃ T, T = txt (l.map Ob.o) 2 v := ⟨_, rfl⟩
    have hpos : 0 < T.length := by rw [hT]; exact txt_pos
    have hlen : T.length ≤ 200000000 := by
      rw [hT]
      have := txt_len hL 2 v ⟨hs, hi, by rw [List.length_map]; exact hr⟩
      simp only [tB] at this; omega
    have hTs : (mkS T).size = T.length := mkS_size _
    rw [← hT] at hval ⊢
    refine TK 0 [(11, []), (12, [])] (.i 19 (.bool false) (.d (.d (.d (.d (.k .a)))))) (#[true, true, true, true, true, true, true, true, true, true, true, true, true]) ?_
    refine wpa_done 0 (by kernel_rfl) ?_
    refine NT (CF (SK (NT (SQ (RG ?_)))))
    refine RP [] (.d (.d (.d .a))) 22 (.d (.k (.k .z))) (.k (.k (.k (.k (.i (.blk g1 28 [.int .i64 (V.k v), .int .i64 (V.n v), .string (mkS (V.s v))]) .z))))) 105 [.pointer none, .slice none 0 0, .pointer (some ⟨g, 0, none⟩)] fun g2 => ?_
    refine RR [] .z (.i 5 (.pointer (some ⟨g2, 0, none⟩)) (.d (.k .a))) (.k (.k (.k (.k (.i (.blk g1 28 [.int .i64 (V.k v), .int .i64 (V.n v), .string (mkS (V.s v))]) (.i (.blk g2 105 [.pointer none, .slice none 0 0, .pointer (some ⟨g, 0, none⟩)]) .z)))))) ?_
    refine RZ (NT (SQ (RG ?_)))
    refine RR [4, 4, 4] (.d (.d .a)) (.i 24 (.agg #[.int .i64 (V.k v), .int .i64 (V.n v), .string (mkS (V.s v))]) (.i 23 (.pointer (some ⟨g2, 0, none⟩)) (.k (.k .z)))) (.k (.k (.k (.k (.i (.blk g1 28 [.int .i64 (V.k v), .int .i64 (V.n v), .string (mkS (V.s v))]) (.i (.blk g2 105 [.pointer none, .slice none 0 0, .pointer (some ⟨g, 0, none⟩)]) .z)))))) ?_
    refine wpr_ent (ent_nil 5 1) ?_
    refine RCG (dst := some 25) (.d (.k (.k (.k (.k (.i (.blk g1 28 [.int .i64 (V.k v), .int .i64 (V.n v), .string (mkS (V.s v))]) .z)))))) (hval g2) (GO (GV (GV (GV (GV (GJ [6, 0]) 3 view_gPow) 2 view_self) 1 view_ro) 0 view_ro) [4, 4, 0, 0, 0, 0]) ?_
    rintro u _ ⟨a2, c2, rfl, rfl⟩
    refine RZ (NT (SQ (RG ?_)))
    refine RR [] (.d (.d (.d .a))) (.i 28 (.pointer (some ⟨g2, 0, none⟩)) (.d (.d (.d (.d (.k .a)))))) (.i (.blk g2 105 [.pointer (some ⟨g2, 0, none⟩), .slice a2 (List.length T) c2, .pointer (some ⟨g, 0, none⟩)]) (.d (.k (.k (.k (.k (.k (.i (.blk g1 28 [.int .i64 (V.k v), .int .i64 (V.n v), .string (mkS (V.s v))]) .z)))))))) ?_
    refine RC (dst := some 29) [0, 0] (.d (.d (.k (.k (.k (.k (.i (.blk g1 28 [.int .i64 (V.k v), .int .i64 (V.n v), .string (mkS (V.s v))]) .z))))))) (BString_spec g2 (.pointer (some ⟨g2, 0, none⟩)) a2 c2 T (.pointer (some ⟨g, 0, none⟩)) (txt_ne' hpos)) ?_
    rintro u _ ⟨rfl, rfl⟩
    have hs46 : (ByteArray.mk #[46, 46, 46]).size = 3 := rfl
    have hs47 : (mkS (List.take (Int.toNat (197 - 0)) (List.drop (Int.toNat 0) T))).size ≤ 197 := by rw [mkS_size]; exact List.length_take_le _ _
    have hs48 : (List.take (Int.toNat (197 - 0)) (List.drop (Int.toNat 0) T)).length ≤ 197 := List.length_take_le _ _
    by_cases h200 : 200 < T.length
    · refine RR [] .z (.i 6 (.string (mkS T)) (.d (.d (.k .a)))) (.i (.blk g2 105 [.pointer (some ⟨g2, 0, none⟩), .slice a2 (List.length T) c2, .pointer (some ⟨g, 0, none⟩)]) (.d (.k (.k (.k (.k (.i (.blk g1 28 [.int .i64 (V.k v), .int .i64 (V.n v), .string (mkS (V.s v))]) .z))))))) ?_
      refine RZ (NT (SQ (SQ (RG ?_))))
      refine RR [] .z (.i 32 (.bool (decide ((↑(List.length T) : Int) > 200))) .a) (.i (.blk g2 105 [.pointer (some ⟨g2, 0, none⟩), .slice a2 (List.length T) c2, .pointer (some ⟨g, 0, none⟩)]) (.d (.k (.k (.k (.k (.i (.blk g1 28 [.int .i64 (V.k v), .int .i64 (V.n v), .string (mkS (V.s v))]) .z))))))) ?_
      refine RZ (NT ?_)
      refine SC 32 (decide ((↑(List.length T) : Int) > 200)) true (decide_eq_true (by omega)) ?_
      refine CT (SQ (RG ?_))
      refine RV true [] .z (.i 4 (.string (mkS (List.take (Int.toNat (197 - 0)) (List.drop (Int.toNat 0) T) ++ [46, 46, 46]))) (.d (.d (.k .z)))) (.i (.blk g2 105 [.pointer (some ⟨g2, 0, none⟩), .slice a2 (List.length T) c2, .pointer (some ⟨g, 0, none⟩)]) (.d (.k (.k (.k (.k (.i (.blk g1 28 [.int .i64 (V.k v), .int .i64 (V.n v), .string (mkS (V.s v))]) .z))))))) ([(0 : Int) ≤ (197 : Int) ∧ (197 : Int) ≤ (↑(List.length T) : Int), List.length (List.take (Int.toNat ((197 : Int) - (0 : Int))) (List.drop (Int.toNat (0 : Int)) T)) + ByteArray.size (ByteArray.mk #[(46 : UInt8), (46 : UInt8), (46 : UInt8)]) ≤ (9223372036854775807 : Nat)]) ⟨by first | omega | decide | (simp; done), by first | omega | decide | (simp; done), trivial⟩ ?_
      refine RZ (NT (RE (TR ?_)))
      refine NE [] .z (.i (.blk g2 105 [.pointer (some ⟨g2, 0, none⟩), .slice a2 (List.length T) c2, .pointer (some ⟨g, 0, none⟩)]) (.d (.k (.k (.k (.k (.i (.blk g1 28 [.int .i64 (V.k v), .int .i64 (V.n v), .string (mkS (V.s v))]) .z))))))) [] (.string (mkS (List.take (Int.toNat (197 - 0)) (List.drop (Int.toNat 0) T) ++ [46, 46, 46]))) ?_
      refine ⟨?_, rfl⟩
      unfold cutT
      rw [if_pos rfl, if_pos h200]; rfl
    · refine RR [] .z (.i 6 (.string (mkS T)) (.d (.d (.k .a)))) (.i (.blk g2 105 [.pointer (some ⟨g2, 0, none⟩), .slice a2 (List.length T) c2, .pointer (some ⟨g, 0, none⟩)]) (.d (.k (.k (.k (.k (.i (.blk g1 28 [.int .i64 (V.k v), .int .i64 (V.n v), .string (mkS (V.s v))]) .z))))))) ?_
      refine RZ (NT (SQ (SQ (RG ?_))))
      refine RR [] .z (.i 32 (.bool (decide ((↑(List.length T) : Int) > 200))) .a) (.i (.blk g2 105 [.pointer (some ⟨g2, 0, none⟩), .slice a2 (List.length T) c2, .pointer (some ⟨g, 0, none⟩)]) (.d (.k (.k (.k (.k (.i (.blk g1 28 [.int .i64 (V.k v), .int .i64 (V.n v), .string (mkS (V.s v))]) .z))))))) ?_
      refine RZ (NT ?_)
      refine SC 32 (decide ((↑(List.length T) : Int) > 200)) false (decide_eq_false (by omega)) ?_
      refine CF (SK (NT (SQ (RG ?_))))
      refine RR [] .z (.i 4 (.string (mkS T)) .z) (.i (.blk g2 105 [.pointer (some ⟨g2, 0, none⟩), .slice a2 (List.length T) c2, .pointer (some ⟨g, 0, none⟩)]) (.d (.k (.k (.k (.k (.i (.blk g1 28 [.int .i64 (V.k v), .int .i64 (V.n v), .string (mkS (V.s v))]) .z))))))) ?_
      refine RZ (NT (RE ?_))
      refine NE [] .z (.i (.blk g2 105 [.pointer (some ⟨g2, 0, none⟩), .slice a2 (List.length T) c2, .pointer (some ⟨g, 0, none⟩)]) (.d (.k (.k (.k (.k (.i (.blk g1 28 [.int .i64 (V.k v), .int .i64 (V.n v), .string (mkS (V.s v))]) .z))))))) [] (.string (mkS T)) ?_
      refine ⟨?_, rfl⟩
      unfold cutT
      rw [if_pos rfl, if_neg h200]
end Go.Proofs.YtpfhleghgkeemaaGreatDoor
