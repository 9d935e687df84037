import Derived.Test.YtpfhleghgkeemaaGreatDoorH21
import Derived.Test.YtpfhleghgkeemaaGreatDoorY2
namespace Go.Proofs.YtpfhleghgkeemaaGreatDoor
open Go Go.Sx
set_option linter.unusedVariables false
set_option linter.unusedSimpArgs false

def wrH (gw : Nat) (ad aw : Option Addr) (cw : Nat) (bs : List UInt8) (g : Nat) : Hp := [.blk gw 105 [.pointer ad, .slice aw bs.length cw, .pointer (some ⟨g, 0, none⟩)], row 5 1 aw bs.length cw (u8s bs)]
def hctx (g : Nat) (most : Int) (used : Nat) (a : Option Addr) (c : Nat) (l : List Ob) : Hp := [ro (some ⟨g, 0, none⟩) [.bool true, .int .i64 most, .int .i64 used, .slice a l.length c], ro a (l.flatMap objC), gBag l, gPow]
def ValS (g : Nat) (most : Int) (used : Nat) (a : Option Addr) (c : Nat) (l : List Ob) (d : Nat) (v : V) : Prop := ∀ (gw : Nat) (ad aw : Option Addr) (cw : Nat) (bs : List UInt8), (ad = none ∨ ad = some ⟨gw, 0, none⟩) → bs.length + tB d ≤ 68719476736 →
  Does Tryz.prog 54 [.pointer (some ⟨gw, 0, none⟩), valV v, .int .i64 d] (wrH gw ad aw cw bs g ++ hctx g most used a c l)
    (fun u hp' => ∃ a' c', u = .tuple #[] ∧ hp' = wrH gw (some ⟨gw, 0, none⟩) a' c' (bs ++ txt (l.map Ob.o) d v) g)
theorem txt_k {L : List O} {d : Nat} {v : V} : txt L d v = if v.k = 0 then [110, 111, 110, 101] else if v.k = 1 then Lib.itoa v.n else if v.k = 2 then (if v.n = 1 then [116, 114, 117, 101] else [102, 97, 108, 115, 101]) else if v.k = 3 then quoL v.s else match d with
    | 0 => [46, 46, 46]
    | d + 1 => objT (txt L d) (objAt L v) := by
  cases d <;> (conv => lhs; unfold txt)
theorem one_str (t : List UInt8) : Sx.One [Value.string (mkS t)] := fun u hu => by cases List.mem_singleton.1 hu; rfl
theorem tB_ge (d : Nat) : 1100 ≤ tB d := by cases d <;> simp [tB] <;> omega
theorem value_low (g : Nat) (most : Int) (used : Nat) (a : Option Addr) (c : Nat) (l : List Ob) (d : Nat) (v : V) (hv : showV l.length v) (hk : v.k ≠ 4) : ValS g most used a c l d v := by
  intro gw ad aw cw bs had hb
  have hd := tB_ge d
  obtain ⟨hs, hi, hr⟩ := hv
  unfold wrH hctx
  by_cases h0 : v.k = 0
  · have htx : txt (l.map Ob.o) d v = [110, 111, 110, 101] := by rw [txt_k, if_pos h0]
    have hput := fun p => wr_put_spec gw ad had aw cw bs (.pointer (some ⟨g, 0, none⟩)) p 1 [[110, 111, 110, 101]] (by omega) (by simp) (by simp) (by simp)
    rw [htx]
    unfold valV
    rw [h0]
    refine fn_enter Tryz.func54 rfl 67 rfl fun w0 h0 => ?_
    refine SQ (RG ?_)
    refine RP [] .z 4 (.k (.d (.k .a))) (.i (.blk gw 105 [.pointer ad, .slice aw bs.length cw, .pointer (some ⟨g, 0, none⟩)]) (.d (.k .a))) 28 [.int .i64 0, .int .i64 v.n, .string (mkS v.s)] fun g1 => ?_
    refine RZ (NT (SQ (RG ?_)))
    refine RR [6] .z (.i 9 (.int .i64 0) .a) (.i (.blk gw 105 [.pointer ad, .slice aw bs.length cw, .pointer (some ⟨g, 0, none⟩)]) (.d (.k (.k (.k (.k (.k (.i (.blk g1 28 [.int .i64 0, .int .i64 v.n, .string (mkS v.s)]) .z)))))))) ?_
    refine RZ (NT (BK (SQ (RG ?_))))
    refine RR [] .z (.i 10 (.bool true) .a) (.i (.blk gw 105 [.pointer ad, .slice aw bs.length cw, .pointer (some ⟨g, 0, none⟩)]) (.d (.k (.k (.k (.k (.k (.i (.blk g1 28 [.int .i64 0, .int .i64 v.n, .string (mkS v.s)]) .z)))))))) ?_
    refine RZ (NT (CT (RG ?_)))
    refine RN [] (.d (.d .a)) 13 (fun g2 => (.slice (some ⟨g2, 0, none⟩) 1 1)) (.i 12 (.pointer (some ⟨gw, 0, none⟩)) .z) (.i (.blk gw 105 [.pointer ad, .slice aw bs.length cw, .pointer (some ⟨g, 0, none⟩)]) (.d (.k (.k (.k (.k (.k (.i (.blk g1 28 [.int .i64 0, .int .i64 v.n, .string (mkS v.s)]) .z)))))))) 9 [.string (ByteArray.mk #[110, 111, 110, 101])] fun g2 => ?_
    refine wpr_ent (ent_turn (c := .blk g2 9 [.string (mkS [110, 111, 110, 101])]) 7 (ro (some ⟨g2, 0, none⟩) ([[110, 111, 110, 101]].map strV)) rfl (turn_rblk (one_str _)) rfl) ?_
    refine RCG (dst := some 14) (.d (.d (.k (.k (.k (.k (.i (.blk g1 28 [.int .i64 0, .int .i64 v.n, .string (mkS v.s)]) (.d (.k .a))))))))) (hput (some ⟨g2, 0, none⟩)) (GO (GV (GJ [0, 0]) 5 view_ro) [1, 1, 0]) ?_
    rintro u _ ⟨a2, c2, rfl, rfl⟩
    refine RZ (BN ?_)
    refine NE [0, 0] (.i (.blk gw 105 [.pointer (some ⟨gw, 0, none⟩), .slice a2 (bs ++ [[110, 111, 110, 101]].flatten).length c2, .pointer (some ⟨g, 0, none⟩)]) (.d (.k .z))) (.d (.d (.k (.k (.k (.k (.i (.blk g1 28 [.int .i64 0, .int .i64 v.n, .string (mkS v.s)]) (.d (.k .a))))))))) [] (.tuple #[]) ?_
    exact ⟨a2, c2, rfl, rfl⟩
  by_cases h1 : v.k = 1
  · have htx : txt (l.map Ob.o) d v = Lib.itoa v.n := by rw [txt_k, if_neg h0, if_pos h1]
    have hil := itoa_len hi
    have hput := fun p => wr_put_spec gw ad had aw cw bs (.pointer (some ⟨g, 0, none⟩)) p 1 [Lib.itoa v.n] (by omega) (by simp) (by simp) (by simp; omega)
    have hfl : [Lib.itoa v.n].flatten = Lib.itoa v.n := by simp
    rw [hfl] at hput
    rw [htx]
    unfold valV
    rw [h1]
    refine fn_enter Tryz.func54 rfl 67 rfl fun w0 h0 => ?_
    refine SQ (RG ?_)
    refine RP [] .z 4 (.k (.d (.k .a))) (.i (.blk gw 105 [.pointer ad, .slice aw bs.length cw, .pointer (some ⟨g, 0, none⟩)]) (.d (.k .a))) 28 [.int .i64 1, .int .i64 v.n, .string (mkS v.s)] fun g1 => ?_
    refine RZ (NT (SQ (RG ?_)))
    refine RR [6] .z (.i 9 (.int .i64 1) .a) (.i (.blk gw 105 [.pointer ad, .slice aw bs.length cw, .pointer (some ⟨g, 0, none⟩)]) (.d (.k (.k (.k (.k (.k (.i (.blk g1 28 [.int .i64 1, .int .i64 v.n, .string (mkS v.s)]) .z)))))))) ?_
    refine RZ (NT (BK (SQ (RG ?_))))
    refine RR [] .z (.i 10 (.bool false) .a) (.i (.blk gw 105 [.pointer ad, .slice aw bs.length cw, .pointer (some ⟨g, 0, none⟩)]) (.d (.k (.k (.k (.k (.k (.i (.blk g1 28 [.int .i64 1, .int .i64 v.n, .string (mkS v.s)]) .z)))))))) ?_
    refine RZ (NT (CF (SQ (RG ?_))))
    refine RR [] .z (.i 15 (.bool true) (.d (.k .a))) (.i (.blk gw 105 [.pointer ad, .slice aw bs.length cw, .pointer (some ⟨g, 0, none⟩)]) (.d (.k (.k (.k (.k (.k (.i (.blk g1 28 [.int .i64 1, .int .i64 v.n, .string (mkS v.s)]) .z)))))))) ?_
    refine RZ (NT (CT (RG ?_)))
    refine RR [6] (.d (.d (.d .a))) (.i 19 (.int .i64 v.n) (.i 17 (.pointer (some ⟨gw, 0, none⟩)) .z)) (.i (.blk gw 105 [.pointer ad, .slice aw bs.length cw, .pointer (some ⟨g, 0, none⟩)]) (.d (.k (.k (.k (.k (.k (.i (.blk g1 28 [.int .i64 1, .int .i64 v.n, .string (mkS v.s)]) .z)))))))) ?_
    refine RCG (dst := some 20) (.i (.blk gw 105 [.pointer ad, .slice aw bs.length cw, .pointer (some ⟨g, 0, none⟩)]) (.d (.k (.k (.k (.k (.k (.i (.blk g1 28 [.int .i64 1, .int .i64 v.n, .string (mkS v.s)]) .z)))))))) (Itoa_spec v.n hi.1 hi.2) (GV (GI []) 5 view_gPow) ?_
    rintro u _ ⟨rfl, rfl⟩
    refine RN [] (.d .a) 21 (fun g2 => (.slice (some ⟨g2, 0, none⟩) 1 1)) (.d (.d (.k .a))) (.i (.blk gw 105 [.pointer ad, .slice aw bs.length cw, .pointer (some ⟨g, 0, none⟩)]) (.d (.k (.k (.k (.k (.k (.i (.blk g1 28 [.int .i64 1, .int .i64 v.n, .string (mkS v.s)]) .z)))))))) 9 [.string (mkS (Lib.itoa v.n))] fun g2 => ?_
    refine wpr_ent (ent_turn (c := .blk g2 9 [.string (mkS (Lib.itoa v.n))]) 7 (ro (some ⟨g2, 0, none⟩) ([Lib.itoa v.n].map strV)) rfl (turn_rblk (one_str _)) rfl) ?_
    refine RCG (dst := some 22) (.d (.d (.k (.k (.k (.k (.i (.blk g1 28 [.int .i64 1, .int .i64 v.n, .string (mkS v.s)]) (.d (.k .a))))))))) (hput (some ⟨g2, 0, none⟩)) (GO (GV (GJ [0, 0]) 5 view_ro) [1, 1, 0]) ?_
    rintro u _ ⟨a2, c2, rfl, rfl⟩
    refine RZ (BN ?_)
    refine NE [0, 0] (.i (.blk gw 105 [.pointer (some ⟨gw, 0, none⟩), .slice a2 (bs ++ Lib.itoa v.n).length c2, .pointer (some ⟨g, 0, none⟩)]) (.d (.k .z))) (.d (.d (.k (.k (.k (.k (.i (.blk g1 28 [.int .i64 1, .int .i64 v.n, .string (mkS v.s)]) (.d (.k .a))))))))) [] (.tuple #[]) ?_
    exact ⟨a2, c2, rfl, rfl⟩
  by_cases h2 : v.k = 2
  · obtain ⟨T, hT⟩ : ∃ T, T = (if (v.n == 1) = true then [116, 114, 117, 101] else [102, 97, 108, 115, 101] : List UInt8) := ⟨_, rfl⟩
    have hTl : T.length ≤ 5 := by rw [hT]; split <;> simp
    have htx : txt (l.map Ob.o) d v = T := by rw [txt_k, if_neg h0, if_neg h1, if_pos h2, hT]; simp
    have hput := fun p => wr_put_spec gw ad had aw cw bs (.pointer (some ⟨g, 0, none⟩)) p 1 [T] (by omega) (by simp) (by simp) (by simp; omega)
    have hfl : [T].flatten = T := by simp
    rw [hfl] at hput
    rw [htx]
    have hfb := FormatBool_spec (v.n == 1)
    rw [← hT] at hfb
    unfold valV
    rw [h2]
    refine fn_enter Tryz.func54 rfl 67 rfl fun w0 h0 => ?_
    refine SQ (RG ?_)
    refine RP [] .z 4 (.k (.d (.k .a))) (.i (.blk gw 105 [.pointer ad, .slice aw bs.length cw, .pointer (some ⟨g, 0, none⟩)]) (.d (.k .a))) 28 [.int .i64 2, .int .i64 v.n, .string (mkS v.s)] fun g1 => ?_
    refine RZ (NT (SQ (RG ?_)))
    refine RR [6] .z (.i 9 (.int .i64 2) .a) (.i (.blk gw 105 [.pointer ad, .slice aw bs.length cw, .pointer (some ⟨g, 0, none⟩)]) (.d (.k (.k (.k (.k (.k (.i (.blk g1 28 [.int .i64 2, .int .i64 v.n, .string (mkS v.s)]) .z)))))))) ?_
    refine RZ (NT (BK (SQ (RG ?_))))
    refine RR [] .z (.i 10 (.bool false) .a) (.i (.blk gw 105 [.pointer ad, .slice aw bs.length cw, .pointer (some ⟨g, 0, none⟩)]) (.d (.k (.k (.k (.k (.k (.i (.blk g1 28 [.int .i64 2, .int .i64 v.n, .string (mkS v.s)]) .z)))))))) ?_
    refine RZ (NT (CF (SQ (RG ?_))))
    refine RR [] .z (.i 15 (.bool false) (.d (.k .a))) (.i (.blk gw 105 [.pointer ad, .slice aw bs.length cw, .pointer (some ⟨g, 0, none⟩)]) (.d (.k (.k (.k (.k (.k (.i (.blk g1 28 [.int .i64 2, .int .i64 v.n, .string (mkS v.s)]) .z)))))))) ?_
    refine RZ (NT (CF (SQ (RG ?_))))
    refine RR [] .z (.i 23 (.bool true) (.d (.k .a))) (.i (.blk gw 105 [.pointer ad, .slice aw bs.length cw, .pointer (some ⟨g, 0, none⟩)]) (.d (.k (.k (.k (.k (.k (.i (.blk g1 28 [.int .i64 2, .int .i64 v.n, .string (mkS v.s)]) .z)))))))) ?_
    refine RZ (NT (CT (RG ?_)))
    refine RR [6] (.d (.d (.d (.d .a)))) (.i 28 (.bool (v.n == 1)) (.i 25 (.pointer (some ⟨gw, 0, none⟩)) .z)) (.i (.blk gw 105 [.pointer ad, .slice aw bs.length cw, .pointer (some ⟨g, 0, none⟩)]) (.d (.k (.k (.k (.k (.k (.i (.blk g1 28 [.int .i64 2, .int .i64 v.n, .string (mkS v.s)]) .z)))))))) ?_
    refine RC (dst := some 29) [] (.i (.blk gw 105 [.pointer ad, .slice aw bs.length cw, .pointer (some ⟨g, 0, none⟩)]) (.d (.k (.k (.k (.k (.k (.i (.blk g1 28 [.int .i64 2, .int .i64 v.n, .string (mkS v.s)]) .z)))))))) (hfb) ?_
    rintro u _ ⟨rfl, rfl⟩
    refine RN [] (.d .a) 30 (fun g2 => (.slice (some ⟨g2, 0, none⟩) 1 1)) (.d (.d (.k .a))) (.i (.blk gw 105 [.pointer ad, .slice aw bs.length cw, .pointer (some ⟨g, 0, none⟩)]) (.d (.k (.k (.k (.k (.k (.i (.blk g1 28 [.int .i64 2, .int .i64 v.n, .string (mkS v.s)]) .z)))))))) 9 [.string (mkS T)] fun g2 => ?_
    refine wpr_ent (ent_turn (c := .blk g2 9 [.string (mkS T)]) 7 (ro (some ⟨g2, 0, none⟩) ([T].map strV)) rfl (turn_rblk (one_str _)) rfl) ?_
    refine RCG (dst := some 31) (.d (.d (.k (.k (.k (.k (.i (.blk g1 28 [.int .i64 2, .int .i64 v.n, .string (mkS v.s)]) (.d (.k .a))))))))) (hput (some ⟨g2, 0, none⟩)) (GO (GV (GJ [0, 0]) 5 view_ro) [1, 1, 0]) ?_
    rintro u _ ⟨a2, c2, rfl, rfl⟩
    refine RZ (BN ?_)
    refine NE [0, 0] (.i (.blk gw 105 [.pointer (some ⟨gw, 0, none⟩), .slice a2 (bs ++ T).length c2, .pointer (some ⟨g, 0, none⟩)]) (.d (.k .z))) (.d (.d (.k (.k (.k (.k (.i (.blk g1 28 [.int .i64 2, .int .i64 v.n, .string (mkS v.s)]) (.d (.k .a))))))))) [] (.tuple #[]) ?_
    exact ⟨a2, c2, rfl, rfl⟩
  by_cases h3 : v.k = 3
  · have hpl := right_plain hr h3
    have hql := quo_len hpl
    have htx : txt (l.map Ob.o) d v = quoL v.s := by rw [txt_k, if_neg h0, if_neg h1, if_neg h2, if_pos h3]
    have hput := fun p => wr_put_spec gw ad had aw cw bs (.pointer (some ⟨g, 0, none⟩)) p 1 [quoL v.s] (by omega) (by simp) (by simp) (by simp; omega)
    have hfl : [quoL v.s].flatten = quoL v.s := by simp
    rw [hfl] at hput
    rw [htx]
    have htt := TextStr_spec v.s hs
    rw [hpl, if_pos rfl, if_pos rfl] at htt
    unfold tokV at htt
    unfold valV
    rw [h3]
    refine fn_enter Tryz.func54 rfl 67 rfl fun w0 h0 => ?_
    refine SQ (RG ?_)
    refine RP [] .z 4 (.k (.d (.k .a))) (.i (.blk gw 105 [.pointer ad, .slice aw bs.length cw, .pointer (some ⟨g, 0, none⟩)]) (.d (.k .a))) 28 [.int .i64 3, .int .i64 v.n, .string (mkS v.s)] fun g1 => ?_
    refine RZ (NT (SQ (RG ?_)))
    refine RR [6] .z (.i 9 (.int .i64 3) .a) (.i (.blk gw 105 [.pointer ad, .slice aw bs.length cw, .pointer (some ⟨g, 0, none⟩)]) (.d (.k (.k (.k (.k (.k (.i (.blk g1 28 [.int .i64 3, .int .i64 v.n, .string (mkS v.s)]) .z)))))))) ?_
    refine RZ (NT (BK (SQ (RG ?_))))
    refine RR [] .z (.i 10 (.bool false) .a) (.i (.blk gw 105 [.pointer ad, .slice aw bs.length cw, .pointer (some ⟨g, 0, none⟩)]) (.d (.k (.k (.k (.k (.k (.i (.blk g1 28 [.int .i64 3, .int .i64 v.n, .string (mkS v.s)]) .z)))))))) ?_
    refine RZ (NT (CF (SQ (RG ?_))))
    refine RR [] .z (.i 15 (.bool false) (.d (.k .a))) (.i (.blk gw 105 [.pointer ad, .slice aw bs.length cw, .pointer (some ⟨g, 0, none⟩)]) (.d (.k (.k (.k (.k (.k (.i (.blk g1 28 [.int .i64 3, .int .i64 v.n, .string (mkS v.s)]) .z)))))))) ?_
    refine RZ (NT (CF (SQ (RG ?_))))
    refine RR [] .z (.i 23 (.bool false) (.d (.k .a))) (.i (.blk gw 105 [.pointer ad, .slice aw bs.length cw, .pointer (some ⟨g, 0, none⟩)]) (.d (.k (.k (.k (.k (.k (.i (.blk g1 28 [.int .i64 3, .int .i64 v.n, .string (mkS v.s)]) .z)))))))) ?_
    refine RZ (NT (CF (SQ (RG ?_))))
    refine RR [] .z (.i 32 (.bool true) (.d (.k .a))) (.i (.blk gw 105 [.pointer ad, .slice aw bs.length cw, .pointer (some ⟨g, 0, none⟩)]) (.d (.k (.k (.k (.k (.k (.i (.blk g1 28 [.int .i64 3, .int .i64 v.n, .string (mkS v.s)]) .z)))))))) ?_
    refine RZ (NT (CT (SQ (RG ?_))))
    refine RR [6] (.d (.d (.d .a))) (.i 37 (.agg #[.int .i64 3, .string (mkS v.s), .int .i64 0, .int .i64 0, .int .i64 0]) (.d (.d (.d (.k .z))))) (.i (.blk gw 105 [.pointer ad, .slice aw bs.length cw, .pointer (some ⟨g, 0, none⟩)]) (.d (.k (.k (.k (.k (.k (.i (.blk g1 28 [.int .i64 3, .int .i64 v.n, .string (mkS v.s)]) .z)))))))) ?_
    refine RC (dst := some 38) [] (.i (.blk gw 105 [.pointer ad, .slice aw bs.length cw, .pointer (some ⟨g, 0, none⟩)]) (.d (.k (.k (.k (.k (.k (.i (.blk g1 28 [.int .i64 3, .int .i64 v.n, .string (mkS v.s)]) .z)))))))) (htt) ?_
    rintro u _ ⟨rfl, rfl⟩
    refine RR [] .z (.i 6 (.string (mkS (quoL v.s))) (.d (.d (.k .a)))) (.i (.blk gw 105 [.pointer ad, .slice aw bs.length cw, .pointer (some ⟨g, 0, none⟩)]) (.d (.k (.k (.k (.k (.k (.i (.blk g1 28 [.int .i64 3, .int .i64 v.n, .string (mkS v.s)]) .z)))))))) ?_
    refine RZ (NT (RG ?_))
    refine RN [] (.d (.d (.d .a))) 43 (fun g2 => (.slice (some ⟨g2, 0, none⟩) 1 1)) (.i 41 (.pointer (some ⟨gw, 0, none⟩)) .z) (.i (.blk gw 105 [.pointer ad, .slice aw bs.length cw, .pointer (some ⟨g, 0, none⟩)]) (.d (.k (.k (.k (.k (.k (.i (.blk g1 28 [.int .i64 3, .int .i64 v.n, .string (mkS v.s)]) .z)))))))) 9 [.string (mkS (quoL v.s))] fun g2 => ?_
    refine wpr_ent (ent_turn (c := .blk g2 9 [.string (mkS (quoL v.s))]) 7 (ro (some ⟨g2, 0, none⟩) ([quoL v.s].map strV)) rfl (turn_rblk (one_str _)) rfl) ?_
    refine RCG (dst := some 44) (.d (.d (.k (.k (.k (.k (.i (.blk g1 28 [.int .i64 3, .int .i64 v.n, .string (mkS v.s)]) (.d (.k .a))))))))) (hput (some ⟨g2, 0, none⟩)) (GO (GV (GJ [0, 0]) 5 view_ro) [1, 1, 0]) ?_
    rintro u _ ⟨a2, c2, rfl, rfl⟩
    refine RZ (BN ?_)
    refine NE [0, 0] (.i (.blk gw 105 [.pointer (some ⟨gw, 0, none⟩), .slice a2 (bs ++ quoL v.s).length c2, .pointer (some ⟨g, 0, none⟩)]) (.d (.k .z))) (.d (.d (.k (.k (.k (.k (.i (.blk g1 28 [.int .i64 3, .int .i64 v.n, .string (mkS v.s)]) (.d (.k .a))))))))) [] (.tuple #[]) ?_
    exact ⟨a2, c2, rfl, rfl⟩
  exact absurd hk (by rcases right_kind hr with h | h | h | h | h <;> first | exact fun hk => hk h | exact absurd h (by assumption))
theorem value_zero (g : Nat) (most : Int) (used : Nat) (a : Option Addr) (c : Nat) (l : List Ob) (v : V) (hk : v.k = 4) : ValS g most used a c l 0 v := by
  intro gw ad aw cw bs had hb
  have hd := tB_ge 0
  unfold wrH hctx
  have htx : txt (l.map Ob.o) 0 v = [46, 46, 46] := by rw [txt_k, if_neg (by omega), if_neg (by omega), if_neg (by omega), if_neg (by omega)]
  have hput := fun p => wr_put_spec gw ad had aw cw bs (.pointer (some ⟨g, 0, none⟩)) p 1 [[46, 46, 46]] (by omega) (by simp) (by simp) (by simp)
  rw [htx]
  unfold valV
  rw [hk]
  refine fn_enter Tryz.func54 rfl 67 rfl fun w0 h0 => ?_
  refine SQ (RG ?_)
  refine RP [] .z 4 (.k (.i 2 (.int .i64 0) .z)) (.i (.blk gw 105 [.pointer ad, .slice aw bs.length cw, .pointer (some ⟨g, 0, none⟩)]) (.d (.k .a))) 28 [.int .i64 4, .int .i64 v.n, .string (mkS v.s)] fun g1 => ?_
  refine RZ (NT (SQ (RG ?_)))
  refine RR [6] .z (.i 9 (.int .i64 4) .a) (.i (.blk gw 105 [.pointer ad, .slice aw bs.length cw, .pointer (some ⟨g, 0, none⟩)]) (.d (.k (.k (.k (.k (.k (.i (.blk g1 28 [.int .i64 4, .int .i64 v.n, .string (mkS v.s)]) .z)))))))) ?_
  refine RZ (NT (BK (SQ (RG ?_))))
  refine RR [] .z (.i 10 (.bool false) .a) (.i (.blk gw 105 [.pointer ad, .slice aw bs.length cw, .pointer (some ⟨g, 0, none⟩)]) (.d (.k (.k (.k (.k (.k (.i (.blk g1 28 [.int .i64 4, .int .i64 v.n, .string (mkS v.s)]) .z)))))))) ?_
  refine RZ (NT (CF (SQ (RG ?_))))
  refine RR [] .z (.i 15 (.bool false) (.d (.k .a))) (.i (.blk gw 105 [.pointer ad, .slice aw bs.length cw, .pointer (some ⟨g, 0, none⟩)]) (.d (.k (.k (.k (.k (.k (.i (.blk g1 28 [.int .i64 4, .int .i64 v.n, .string (mkS v.s)]) .z)))))))) ?_
  refine RZ (NT (CF (SQ (RG ?_))))
  refine RR [] .z (.i 23 (.bool false) (.d (.k .a))) (.i (.blk gw 105 [.pointer ad, .slice aw bs.length cw, .pointer (some ⟨g, 0, none⟩)]) (.d (.k (.k (.k (.k (.k (.i (.blk g1 28 [.int .i64 4, .int .i64 v.n, .string (mkS v.s)]) .z)))))))) ?_
  refine RZ (NT (CF (SQ (RG ?_))))
  refine RR [] .z (.i 32 (.bool false) (.d (.k .a))) (.i (.blk gw 105 [.pointer ad, .slice aw bs.length cw, .pointer (some ⟨g, 0, none⟩)]) (.d (.k (.k (.k (.k (.k (.i (.blk g1 28 [.int .i64 4, .int .i64 v.n, .string (mkS v.s)]) .z)))))))) ?_
  refine RZ (NT (CF (SQ (RG ?_))))
  refine RR [] .z (.i 45 (.bool true) (.d (.d (.k .a)))) (.i (.blk gw 105 [.pointer ad, .slice aw bs.length cw, .pointer (some ⟨g, 0, none⟩)]) (.d (.k (.k (.k (.k (.k (.i (.blk g1 28 [.int .i64 4, .int .i64 v.n, .string (mkS v.s)]) .z)))))))) ?_
  refine RZ (NT (CT (SQ (SQ (RG ?_)))))
  refine RR [] .z (.i 48 (.bool true) (.d (.k .a))) (.i (.blk gw 105 [.pointer ad, .slice aw bs.length cw, .pointer (some ⟨g, 0, none⟩)]) (.d (.k (.k (.k (.k (.k (.i (.blk g1 28 [.int .i64 4, .int .i64 v.n, .string (mkS v.s)]) .z)))))))) ?_
  refine RZ (NT (CT (SQ (RG ?_))))
  refine RN [] (.d (.d .a)) 50 (fun g2 => (.slice (some ⟨g2, 0, none⟩) 1 1)) (.i 49 (.pointer (some ⟨gw, 0, none⟩)) (.d (.k .a))) (.i (.blk gw 105 [.pointer ad, .slice aw bs.length cw, .pointer (some ⟨g, 0, none⟩)]) (.d (.k (.k (.k (.k (.k (.i (.blk g1 28 [.int .i64 4, .int .i64 v.n, .string (mkS v.s)]) .z)))))))) 9 [.string (ByteArray.mk #[46, 46, 46])] fun g2 => ?_
  refine wpr_ent (ent_turn (c := .blk g2 9 [.string (mkS [46, 46, 46])]) 7 (ro (some ⟨g2, 0, none⟩) ([[46, 46, 46]].map strV)) rfl (turn_rblk (one_str _)) rfl) ?_
  refine RCG (dst := some 51) (.d (.d (.k (.k (.k (.k (.i (.blk g1 28 [.int .i64 4, .int .i64 v.n, .string (mkS v.s)]) (.d (.k .a))))))))) (hput (some ⟨g2, 0, none⟩)) (GO (GV (GJ [0, 0]) 5 view_ro) [1, 1, 0]) ?_
  rintro u _ ⟨a2, c2, rfl, rfl⟩
  refine RZ (NT (RE (TR (BR ?_))))
  refine NE [0, 0] (.i (.blk gw 105 [.pointer (some ⟨gw, 0, none⟩), .slice a2 (bs ++ [[46, 46, 46]].flatten).length c2, .pointer (some ⟨g, 0, none⟩)]) (.d (.k .z))) (.d (.d (.k (.k (.k (.k (.i (.blk g1 28 [.int .i64 4, .int .i64 v.n, .string (mkS v.s)]) (.d (.k .a))))))))) [] (.tuple #[]) ?_
  exact ⟨a2, c2, rfl, rfl⟩
end Go.Proofs.YtpfhleghgkeemaaGreatDoor
