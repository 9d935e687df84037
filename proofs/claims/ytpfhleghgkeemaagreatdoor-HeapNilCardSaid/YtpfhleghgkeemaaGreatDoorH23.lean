import Derived.Test.YtpfhleghgkeemaaGreatDoorH22
import Derived.Test.YtpfhleghgkeemaaGreatDoorY2
namespace Go.Proofs.YtpfhleghgkeemaaGreatDoor
open Go Go.Sx
set_option linter.unusedVariables false
set_option linter.unusedSimpArgs false

theorem two_str (s t : List UInt8) : Sx.One [Value.string (mkS s), Value.string (mkS t)] := fun u hu => by
  simp only [List.mem_cons, List.not_mem_nil, or_false] at hu
  rcases hu with rfl | rfl <;> rfl
theorem wobj_spec (g : Nat) (most : Int) (used : Nat) (a : Option Addr) (c : Nat) (l : List Ob) (d : Nat) (hV : ∀ v, showV l.length v → ValS g most used a c l d v) (hL : okHeap (l.map Ob.o))
    (tg : List UInt8) (cs : List V) (oa : Option Addr) (oc : Nat) (htl : tg.length ≤ 1048576) (hcl : cs.length ≤ 1048576) (hcs : ∀ v ∈ cs, showV l.length v)
    (gw : Nat) (ad aw : Option Addr) (cw : Nat) (bs : List UInt8) (had : ad = none ∨ ad = some ⟨gw, 0, none⟩) (hb : bs.length + tB (d + 1) ≤ 68719476736) :
    Does Tryz.prog 95 [.pointer (some ⟨gw, 0, none⟩), .agg #[.string (mkS tg), .slice oa cs.length oc], .int .i64 d] (wrH gw ad aw cw bs g ++ hctx g most used a c l ++ [ro oa (cs.flatMap valC)])
    (fun u hp' => ∃ a' c', u = .tuple #[] ∧ hp' = wrH gw (some ⟨gw, 0, none⟩) a' c' (bs ++ objT (txt (l.map Ob.o) d) (tg, cs)) g) := by
  have hf : ∀ v ∈ cs, (txt (l.map Ob.o) d v).length ≤ tB d := fun v hv => txt_len hL d v (by rw [List.length_map]; exact hcs v hv)
  have htB : tB (d + 1) = 1048600 + 9 * (tB d + 2) := rfl
  obtain ⟨f, hfe⟩ : ∃ f, f = txt (l.map Ob.o) d := ⟨_, rfl⟩
  rw [← hfe] at hf ⊢
  have hVal : ∀ v ∈ cs, ValS g most used a c l d v := fun v hv => hV v (hcs v hv)
  unfold ValS wrH hctx at hVal
  rw [← hfe] at hVal
  simp only [List.cons_append, List.nil_append] at hVal
  unfold wrH hctx
  simp only [List.cons_append, List.nil_append]
  have hput := fun (ad : Option Addr) (had : ad = none ∨ ad = some ⟨gw, 0, none⟩) (aw : Option Addr) (cw : Nat) (bs : List UInt8) (p : Option Addr) (t : List UInt8) (h1 : bs.length ≤ 549755813888) (h2 : t.length ≤ 549755813000) => wr_put_spec gw ad had aw cw bs (.pointer (some ⟨g, 0, none⟩)) p 1 [t] h1 (by simp) (by simp) (by simpa using h2)
  simp only [List.flatten_singleton, List.length_singleton] at hput
  cases tg with
  | nil =>
    have hobj : objT f ([], cs) = [91] ++ cellsT f cs ++ [93] := rfl
    rw [hobj]
    refine fn_enter Tryz.func95 rfl 46 rfl fun w0 h0 => ?_
    refine SQ (RG ?_)
    refine RP [] .z 4 (.k (.d (.k .a))) (.i (.blk gw 105 [.pointer ad, .slice aw bs.length cw, .pointer (some ⟨g, 0, none⟩)]) (.d (.k .a))) 43 [.string (mkS []), .slice oa cs.length oc] fun g1 => ?_
    refine RZ (NT (SQ (RG ?_)))
    refine RR [] .z (.i 7 (.string (ByteArray.mk #[93])) (.i 6 (.string (ByteArray.mk #[91])) .a)) (.i (.blk gw 105 [.pointer ad, .slice aw bs.length cw, .pointer (some ⟨g, 0, none⟩)]) (.d (.k (.k (.k (.k (.k (.k (.i (.blk g1 43 [.string (mkS []), .slice oa cs.length oc]) .z))))))))) ?_
    refine RZ (NT (SQ (SQ (RG ?_))))
    refine RR [7] .z (.i 12 (.bool false) .a) (.i (.blk gw 105 [.pointer ad, .slice aw bs.length cw, .pointer (some ⟨g, 0, none⟩)]) (.d (.k (.k (.k (.k (.k (.k (.i (.blk g1 43 [.string (mkS []), .slice oa cs.length oc]) .z))))))))) ?_
    refine RZ (NT (CF (SK (NT (SQ (RG ?_))))))
    refine RN [7] (.d (.d (.d (.d (.d .a))))) 17 (fun g2 => (.slice (some ⟨g2, 0, none⟩) 2 2)) (.i 13 (.pointer (some ⟨gw, 0, none⟩)) (.d (.k (.d (.k .a))))) (.i (.blk gw 105 [.pointer ad, .slice aw bs.length cw, .pointer (some ⟨g, 0, none⟩)]) (.d (.k (.k (.k (.k (.k (.k (.i (.blk g1 43 [.string (mkS []), .slice oa cs.length oc]) .z))))))))) 9 [.string (mkS []), .string (ByteArray.mk #[91])] fun g2 => ?_
    refine wpr_ent (ent_turn (c := .blk g2 9 [.string (mkS ([])), .string (mkS [91])]) 8 (ro (some ⟨g2, 0, none⟩) ([[], [91]].map strV)) rfl (turn_rblk (two_str _ _)) rfl) ?_
    refine RCG (dst := some 18) (.d (.d (.k (.k (.k (.k (.k (.i (.blk g1 43 [.string (mkS []), .slice oa cs.length oc]) (.d (.k .a)))))))))) (wr_put_spec gw ad had aw cw bs (.pointer (some ⟨g, 0, none⟩)) (some ⟨g2, 0, none⟩) 2 [[], [91]] (by omega) (by simp) (by simp) (by simp; try (simp only [List.length_cons] at htl; omega))) (GO (GV (GJ [0, 0]) 6 view_ro) [1, 1, 0]) ?_
    rintro u _ ⟨a2, c2, rfl, rfl⟩
    obtain ⟨B1, hB1⟩ : ∃ B1, B1 = bs ++ [[], [91]].flatten := ⟨_, rfl⟩
    rw [← hB1]
    have hB1l : B1.length ≤ bs.length + 1048577 := by rw [hB1]; simp only [List.length_append, List.flatten_cons, List.flatten_nil, List.length_nil, List.length_cons] at htl ⊢; omega
    have hS : ∀ i, i ≤ cs.length → i ≤ 8 → (B1 ++ sepP f cs i).length ≤ B1.length + 8 * (tB d + 2) := fun i h1 h2 => by
      have h3 := sepP_len hf i h1
      have h4 : i * (tB d + 2) ≤ 8 * (tB d + 2) := Nat.mul_le_mul_right _ h2
      rw [List.length_append]; omega
    refine RZ (NT (SQ (SQ (RG ?_))))
    refine RR [7] .z (.i 22 (.int .i64 0) (.i 21 (.int .i64 (↑cs.length : Int)) (.i 20 (.slice oa cs.length oc) (.d (.d (.d (.k (.d (.k .a))))))))) (.i (.blk gw 105 [.pointer (some ⟨gw, 0, none⟩), .slice a2 B1.length c2, .pointer (some ⟨g, 0, none⟩)]) (.d (.k (.k (.k (.k (.k (.k (.i (.blk g1 43 [.string (mkS []), .slice oa cs.length oc]) (.d (.k .a))))))))))) ?_
    refine RZ (NT (BK ?_))
    refine wpc_loop (X := {y : Nat × Option Addr × Nat // y.1 ≤ cs.length ∧ y.1 ≤ 8}) (fun y => St.mk [(22, .int .i64 (y.1.1 : Int)), (21, .int .i64 cs.length), (20, .slice oa cs.length oc), (7, .string (mkS [93])), (0, .pointer (some ⟨gw, 0, none⟩)), (2, .int .i64 d)]
      [.blk gw 105 [.pointer (some ⟨gw, 0, none⟩), .slice y.1.2.1 (B1 ++ sepP f cs y.1.1).length y.1.2.2, .pointer (some ⟨g, 0, none⟩)], row 5 1 y.1.2.1 (B1 ++ sepP f cs y.1.1).length y.1.2.2 (u8s (B1 ++ sepP f cs y.1.1)), ro (some ⟨g, 0, none⟩) [.bool true, .int .i64 most, .int .i64 used, .slice a l.length c], ro a (l.flatMap objC), gBag l, gPow, ro oa (cs.flatMap valC)]) (fun y => cs.length - y.1.1) ⟨(0, a2, c2), Nat.zero_le _, Nat.zero_le _⟩ ?_ ?_
    · show Ent _ _ (St.mk _ [.blk gw 105 [.pointer (some ⟨gw, 0, none⟩), .slice a2 (B1 ++ []).length c2, .pointer (some ⟨g, 0, none⟩)], row 5 1 a2 (B1 ++ []).length c2 (u8s (B1 ++ [])), ro (some ⟨g, 0, none⟩) [.bool true, .int .i64 most, .int .i64 used, .slice a l.length c], ro a (l.flatMap objC), gBag l, gPow, ro oa (cs.flatMap valC)])
      rw [List.append_nil]
      exact Ent.trans (ent_fr (by kernel_rfl)) (ent_hp [0, 0, 0, 0, 0, 0, 0] rfl)
    rintro ⟨⟨i, a3, c3⟩, hi, hi8⟩
    dsimp only at hi hi8 ⊢
    have hSi := hS i hi hi8
    by_cases hlt : i < cs.length
    · refine wpc_fact (fun w h => ro_addr h 6 rfl (by rw [vals_len]; omega)) ?_
      rintro ⟨go, oo, rfl⟩
      have hvi := hVal cs[i] (List.getElem_mem hlt) gw (some ⟨gw, 0, none⟩)
      have hsc := sepP_succ f cs i hlt
      have hfi := hf cs[i] (List.getElem_mem hlt)
      obtain ⟨S, hSe⟩ : ∃ S, S = B1 ++ sepP f cs i := ⟨_, rfl⟩
      rw [← hSe] at hSi ⊢
      have hS2 : (S ++ [44, 32]).length = S.length + 2 := by simp
      have hS3 : (S ++ [44, 32] ++ [46, 46, 46]).length = S.length + 5 := by simp
      by_cases h0 : i = 0
      · have hT : S ++ f cs[i] = B1 ++ sepP f cs (i + 1) := by rw [hsc, if_pos h0, hSe]; simp
        have hvc := hvi a3 c3 S (.inr rfl) (by omega)
        unfold valV at hvc
        refine SQ (RG ?_)
        refine RR [] .z (.i 23 (.bool (decide ((↑i : Int) < (↑cs.length : Int)))) .a) (.i (.blk gw 105 [.pointer (some ⟨gw, 0, none⟩), .slice a3 S.length c3, .pointer (some ⟨g, 0, none⟩)]) (.d (.k .a))) ?_
        refine RZ (NT (SQ ?_))
        refine SC 23 (decide ((↑i : Int) < (↑cs.length : Int))) true (decide_eq_true (by omega)) ?_
        refine CT (SK (NT (SQ (BK (SQ (RG ?_))))))
        refine RV true [] (.d (.d .a)) (.i 25 (.pointer (some ⟨go, oo + i * 3, none⟩)) (.i 24 (.int .i64 (↑i : Int)) (.d (.d (.k .a))))) (.i (.blk gw 105 [.pointer (some ⟨gw, 0, none⟩), .slice a3 S.length c3, .pointer (some ⟨g, 0, none⟩)]) (.d (.k .a))) [(0 : Int) ≤ (↑i : Int) ∧ (↑i : Int) < (↑cs.length : Int)] ⟨by first | omega | decide | (simp; done), trivial⟩ ?_
        refine wpr_eq (ld (t := 28) (a := ⟨go, oo + i * 3, none⟩) (dst := some 26) (by kernel_rfl) true 3 (by kernel_rfl) (by simp) (valC cs[i]) rfl (fun w h => ld_ro h 6 rfl (i * 3) (vals_at hlt))) ?_
        refine RP [] (.d .a) 9 (.i 26 (.agg #[.int .i64 cs[i].k, .int .i64 cs[i].n, .string (mkS cs[i].s)]) (.d (.d (.k .a)))) (.i (.blk gw 105 [.pointer (some ⟨gw, 0, none⟩), .slice a3 S.length c3, .pointer (some ⟨g, 0, none⟩)]) (.d (.k .a))) 28 [.int .i64 0, .int .i64 0, .string ⟨#[]⟩] fun g3 => ?_
        refine RR [7, 7, 7] .z (.i 8 (.int .i64 (↑i : Int)) (.k (.d (.d (.k .a))))) (.i (.blk gw 105 [.pointer (some ⟨gw, 0, none⟩), .slice a3 S.length c3, .pointer (some ⟨g, 0, none⟩)]) (.d (.k (.k (.k (.k (.k (.k (.i (.blk g3 28 [.int .i64 cs[i].k, .int .i64 cs[i].n, .string (mkS cs[i].s)]) .z))))))))) ?_
        refine RZ (NT (SQ (SQ (RG ?_))))
        refine RR [] .z (.i 28 (.bool (decide ((↑i : Int) > 0))) .a) (.i (.blk gw 105 [.pointer (some ⟨gw, 0, none⟩), .slice a3 S.length c3, .pointer (some ⟨g, 0, none⟩)]) (.d (.k (.k (.k (.k (.k (.k (.i (.blk g3 28 [.int .i64 cs[i].k, .int .i64 cs[i].n, .string (mkS cs[i].s)]) .z))))))))) ?_
        refine RZ (NT ?_)
        refine SC 28 (decide ((↑i : Int) > 0)) false (decide_eq_false (by omega)) ?_
        refine CF (SK (NT (SQ (SQ (RG ?_)))))
        refine RR [] .z (.i 33 (.bool ((↑i : Int) == 8)) (.d (.d (.d (.k .a))))) (.i (.blk gw 105 [.pointer (some ⟨gw, 0, none⟩), .slice a3 S.length c3, .pointer (some ⟨g, 0, none⟩)]) (.d (.k (.k (.k (.k (.k (.k (.i (.blk g3 28 [.int .i64 cs[i].k, .int .i64 cs[i].n, .string (mkS cs[i].s)]) .z))))))))) ?_
        refine RZ (NT ?_)
        refine SC 33 ((↑i : Int) == 8) false (by simp only [bne_eq_false_iff_eq, beq_eq_false_iff_ne, ne_eq]; omega) ?_
        refine CF (SK (NT (RG ?_)))
        refine RR [7, 7, 7] (.d (.d (.d .a))) (.i 39 (.int .i64 (↑d : Int)) (.i 38 (.agg #[.int .i64 cs[i].k, .int .i64 cs[i].n, .string (mkS cs[i].s)]) (.i 37 (.pointer (some ⟨gw, 0, none⟩)) (.d (.d (.d (.k .a))))))) (.i (.blk gw 105 [.pointer (some ⟨gw, 0, none⟩), .slice a3 S.length c3, .pointer (some ⟨g, 0, none⟩)]) (.d (.k (.k (.k (.k (.k (.k (.i (.blk g3 28 [.int .i64 cs[i].k, .int .i64 cs[i].n, .string (mkS cs[i].s)]) .z))))))))) ?_
        refine RCG (dst := some 40) (.d (.d (.k (.k (.k (.k (.k (.i (.blk g3 28 [.int .i64 cs[i].k, .int .i64 cs[i].n, .string (mkS cs[i].s)]) .z)))))))) (hvc) (GO (GV (GV (GV (GV (GJ [0, 0]) 3 view_gPow) 2 view_self) 1 view_ro) 0 view_ro) [4, 4, 0, 0, 0, 0]) ?_
        rintro u _ ⟨a4, c4, rfl, rfl⟩
        rw [hT]
        refine RZ (BN (NT (RG ?_)))
        refine RV true [] .z (.i 22 (.int .i64 ((↑i : Int) + 1)) (.d (.d (.d (.d (.d (.k .a))))))) (.i (.blk gw 105 [.pointer (some ⟨gw, 0, none⟩), .slice a4 (B1 ++ sepP f cs (i + 1)).length c4, .pointer (some ⟨g, 0, none⟩)]) (.d (.k (.k (.k (.k (.k (.k (.i (.blk g3 28 [.int .i64 cs[i].k, .int .i64 cs[i].n, .string (mkS cs[i].s)]) .z))))))))) ([inI64 ((↑i : Int) + (1 : Int))]) ⟨by unfold inI64; omega, trivial⟩ ?_
        refine RZ ?_
        exact fun a' w' hS' => ⟨⟨(i + 1, a4, c4), hlt, by omega⟩, by dsimp only; omega, ent_fr (by kernel_rfl) _ _ (ent_hp [0, 0, 0, 0, 0, 0, 0] rfl _ _ hS')⟩
      · have hvc := fun a c => hvi a c (S ++ [44, 32]) (.inr rfl) (by omega)
        unfold valV at hvc
        have hT : S ++ [44, 32] ++ f cs[i] = B1 ++ sepP f cs (i + 1) := by rw [hsc, if_neg h0, hSe]; simp
        by_cases h8 : i = 8
        · refine SQ (RG ?_)
          refine RR [] .z (.i 23 (.bool (decide ((↑i : Int) < (↑cs.length : Int)))) .a) (.i (.blk gw 105 [.pointer (some ⟨gw, 0, none⟩), .slice a3 S.length c3, .pointer (some ⟨g, 0, none⟩)]) (.d (.k .a))) ?_
          refine RZ (NT (SQ ?_))
          refine SC 23 (decide ((↑i : Int) < (↑cs.length : Int))) true (decide_eq_true (by omega)) ?_
          refine CT (SK (NT (SQ (BK (SQ (RG ?_))))))
          refine RV true [] (.d (.d .a)) (.i 25 (.pointer (some ⟨go, oo + i * 3, none⟩)) (.i 24 (.int .i64 (↑i : Int)) (.d (.d (.k .a))))) (.i (.blk gw 105 [.pointer (some ⟨gw, 0, none⟩), .slice a3 S.length c3, .pointer (some ⟨g, 0, none⟩)]) (.d (.k .a))) [(0 : Int) ≤ (↑i : Int) ∧ (↑i : Int) < (↑cs.length : Int)] ⟨by first | omega | decide | (simp; done), trivial⟩ ?_
          refine wpr_eq (ld (t := 28) (a := ⟨go, oo + i * 3, none⟩) (dst := some 26) (by kernel_rfl) true 3 (by kernel_rfl) (by simp) (valC cs[i]) rfl (fun w h => ld_ro h 6 rfl (i * 3) (vals_at hlt))) ?_
          refine RP [] (.d .a) 9 (.i 26 (.agg #[.int .i64 cs[i].k, .int .i64 cs[i].n, .string (mkS cs[i].s)]) (.d (.d (.k .a)))) (.i (.blk gw 105 [.pointer (some ⟨gw, 0, none⟩), .slice a3 S.length c3, .pointer (some ⟨g, 0, none⟩)]) (.d (.k .a))) 28 [.int .i64 0, .int .i64 0, .string ⟨#[]⟩] fun g3 => ?_
          refine RR [7, 7, 7] .z (.i 8 (.int .i64 (↑i : Int)) (.k (.d (.d (.k .a))))) (.i (.blk gw 105 [.pointer (some ⟨gw, 0, none⟩), .slice a3 S.length c3, .pointer (some ⟨g, 0, none⟩)]) (.d (.k (.k (.k (.k (.k (.k (.i (.blk g3 28 [.int .i64 cs[i].k, .int .i64 cs[i].n, .string (mkS cs[i].s)]) .z))))))))) ?_
          refine RZ (NT (SQ (SQ (RG ?_))))
          refine RR [] .z (.i 28 (.bool (decide ((↑i : Int) > 0))) .a) (.i (.blk gw 105 [.pointer (some ⟨gw, 0, none⟩), .slice a3 S.length c3, .pointer (some ⟨g, 0, none⟩)]) (.d (.k (.k (.k (.k (.k (.k (.i (.blk g3 28 [.int .i64 cs[i].k, .int .i64 cs[i].n, .string (mkS cs[i].s)]) .z))))))))) ?_
          refine RZ (NT ?_)
          refine SC 28 (decide ((↑i : Int) > 0)) true (decide_eq_true (by omega)) ?_
          refine CT (RG ?_)
          refine RN [] (.d (.d .a)) 30 (fun g4 => (.slice (some ⟨g4, 0, none⟩) 1 1)) (.i 29 (.pointer (some ⟨gw, 0, none⟩)) (.d (.d (.k .a)))) (.i (.blk gw 105 [.pointer (some ⟨gw, 0, none⟩), .slice a3 S.length c3, .pointer (some ⟨g, 0, none⟩)]) (.d (.k (.k (.k (.k (.k (.k (.i (.blk g3 28 [.int .i64 cs[i].k, .int .i64 cs[i].n, .string (mkS cs[i].s)]) .z))))))))) 9 [.string (ByteArray.mk #[44, 32])] fun g4 => ?_
          refine wpr_ent (ent_turn (c := .blk g4 9 [.string (mkS [44, 32])]) 8 (ro (some ⟨g4, 0, none⟩) ([[44, 32]].map strV)) rfl (turn_rblk (one_str _)) rfl) ?_
          refine RCG (dst := some 31) (.d (.d (.k (.k (.k (.k (.k (.i (.blk g3 28 [.int .i64 cs[i].k, .int .i64 cs[i].n, .string (mkS cs[i].s)]) (.d (.k .a)))))))))) (hput (some ⟨gw, 0, none⟩) (.inr rfl) a3 c3 (S) (some ⟨g4, 0, none⟩) [44, 32] (by omega) (by simp)) (GO (GV (GJ [0, 0]) 6 view_ro) [1, 1, 0]) ?_
          rintro u _ ⟨xa, xc, rfl, rfl⟩
          refine RZ (NT (SQ (SQ (RG ?_))))
          refine RR [] .z (.i 33 (.bool ((↑i : Int) == 8)) (.d (.d (.d (.d (.k .a)))))) (.i (.blk gw 105 [.pointer (some ⟨gw, 0, none⟩), .slice xa (S ++ [44, 32]).length xc, .pointer (some ⟨g, 0, none⟩)]) (.d (.k (.k (.k (.k (.k (.k (.i (.blk g3 28 [.int .i64 cs[i].k, .int .i64 cs[i].n, .string (mkS cs[i].s)]) (.d (.k .a))))))))))) ?_
          refine RZ (NT ?_)
          refine SC 33 ((↑i : Int) == 8) true (by simp only [bne_iff_ne, beq_iff_eq, ne_eq]; omega) ?_
          refine CT (SQ (RG ?_))
          refine RN [] (.d (.d .a)) 35 (fun g5 => (.slice (some ⟨g5, 0, none⟩) 1 1)) (.i 34 (.pointer (some ⟨gw, 0, none⟩)) (.d (.d (.k .a)))) (.i (.blk gw 105 [.pointer (some ⟨gw, 0, none⟩), .slice xa (S ++ [44, 32]).length xc, .pointer (some ⟨g, 0, none⟩)]) (.d (.k (.k (.k (.k (.k (.k (.i (.blk g3 28 [.int .i64 cs[i].k, .int .i64 cs[i].n, .string (mkS cs[i].s)]) (.d (.k .a))))))))))) 9 [.string (ByteArray.mk #[46, 46, 46])] fun g5 => ?_
          refine wpr_ent (ent_turn (c := .blk g5 9 [.string (mkS [46, 46, 46])]) 9 (ro (some ⟨g5, 0, none⟩) ([[46, 46, 46]].map strV)) rfl (turn_rblk (one_str _)) rfl) ?_
          refine RCG (dst := some 36) (.d (.d (.k (.k (.k (.k (.k (.i (.blk g3 28 [.int .i64 cs[i].k, .int .i64 cs[i].n, .string (mkS cs[i].s)]) (.d (.k .a)))))))))) (hput (some ⟨gw, 0, none⟩) (.inr rfl) xa xc (S ++ [44, 32]) (some ⟨g5, 0, none⟩) [46, 46, 46] (by omega) (by simp)) (GO (GV (GJ [0, 0]) 7 view_ro) [1, 1, 0]) ?_
          rintro u _ ⟨ya, yc, rfl, rfl⟩
          refine RZ (NT (EX (TE (BF (TE (TE (BH (NT (RG ?_)))))))))
          refine RN [] (.d (.d (.d .a))) 44 (fun g6 => (.slice (some ⟨g6, 0, none⟩) 1 1)) (.i 42 (.pointer (some ⟨gw, 0, none⟩)) .z) (.i (.blk gw 105 [.pointer (some ⟨gw, 0, none⟩), .slice ya (S ++ [44, 32] ++ [46, 46, 46]).length yc, .pointer (some ⟨g, 0, none⟩)]) (.d (.k (.k (.k (.k (.k (.k (.i (.blk g3 28 [.int .i64 cs[i].k, .int .i64 cs[i].n, .string (mkS cs[i].s)]) (.d (.k .a))))))))))) 9 [.string (mkS [93])] fun g6 => ?_
          refine wpr_ent (ent_turn (c := .blk g6 9 [.string (mkS [93])]) 10 (ro (some ⟨g6, 0, none⟩) ([[93]].map strV)) rfl (turn_rblk (one_str _)) rfl) ?_
          refine RCG (dst := some 45) (.d (.d (.k (.k (.k (.k (.k (.i (.blk g3 28 [.int .i64 cs[i].k, .int .i64 cs[i].n, .string (mkS cs[i].s)]) (.d (.k .a)))))))))) (hput (some ⟨gw, 0, none⟩) (.inr rfl) ya yc (S ++ [44, 32] ++ [46, 46, 46]) (some ⟨g6, 0, none⟩) [93] (by omega) (by simp)) (GO (GV (GJ [0, 0]) 8 view_ro) [1, 1, 0]) ?_
          rintro u _ ⟨za, zc, rfl, rfl⟩
          refine RZ ?_
          refine NE [0, 0] (.i (.blk gw 105 [.pointer (some ⟨gw, 0, none⟩), .slice za (S ++ [44, 32] ++ [46, 46, 46] ++ [93]).length zc, .pointer (some ⟨g, 0, none⟩)]) (.d (.k .z))) (.d (.d (.k (.k (.k (.k (.k (.i (.blk g3 28 [.int .i64 cs[i].k, .int .i64 cs[i].n, .string (mkS cs[i].s)]) (.d (.k .a)))))))))) [] (.tuple #[]) ?_
          have hfin : S ++ [44, 32] ++ [46, 46, 46] ++ [93] = bs ++ ([91] ++ cellsT f cs ++ [93]) := by
            rw [hSe, hB1, h8]; unfold cellsT; rw [if_pos (by omega)]; simp
          rw [hfin]
          exact ⟨za, zc, rfl, rfl⟩
        · refine SQ (RG ?_)
          refine RR [] .z (.i 23 (.bool (decide ((↑i : Int) < (↑cs.length : Int)))) .a) (.i (.blk gw 105 [.pointer (some ⟨gw, 0, none⟩), .slice a3 S.length c3, .pointer (some ⟨g, 0, none⟩)]) (.d (.k .a))) ?_
          refine RZ (NT (SQ ?_))
          refine SC 23 (decide ((↑i : Int) < (↑cs.length : Int))) true (decide_eq_true (by omega)) ?_
          refine CT (SK (NT (SQ (BK (SQ (RG ?_))))))
          refine RV true [] (.d (.d .a)) (.i 25 (.pointer (some ⟨go, oo + i * 3, none⟩)) (.i 24 (.int .i64 (↑i : Int)) (.d (.d (.k .a))))) (.i (.blk gw 105 [.pointer (some ⟨gw, 0, none⟩), .slice a3 S.length c3, .pointer (some ⟨g, 0, none⟩)]) (.d (.k .a))) [(0 : Int) ≤ (↑i : Int) ∧ (↑i : Int) < (↑cs.length : Int)] ⟨by first | omega | decide | (simp; done), trivial⟩ ?_
          refine wpr_eq (ld (t := 28) (a := ⟨go, oo + i * 3, none⟩) (dst := some 26) (by kernel_rfl) true 3 (by kernel_rfl) (by simp) (valC cs[i]) rfl (fun w h => ld_ro h 6 rfl (i * 3) (vals_at hlt))) ?_
          refine RP [] (.d .a) 9 (.i 26 (.agg #[.int .i64 cs[i].k, .int .i64 cs[i].n, .string (mkS cs[i].s)]) (.d (.d (.k .a)))) (.i (.blk gw 105 [.pointer (some ⟨gw, 0, none⟩), .slice a3 S.length c3, .pointer (some ⟨g, 0, none⟩)]) (.d (.k .a))) 28 [.int .i64 0, .int .i64 0, .string ⟨#[]⟩] fun g3 => ?_
          refine RR [7, 7, 7] .z (.i 8 (.int .i64 (↑i : Int)) (.k (.d (.d (.k .a))))) (.i (.blk gw 105 [.pointer (some ⟨gw, 0, none⟩), .slice a3 S.length c3, .pointer (some ⟨g, 0, none⟩)]) (.d (.k (.k (.k (.k (.k (.k (.i (.blk g3 28 [.int .i64 cs[i].k, .int .i64 cs[i].n, .string (mkS cs[i].s)]) .z))))))))) ?_
          refine RZ (NT (SQ (SQ (RG ?_))))
          refine RR [] .z (.i 28 (.bool (decide ((↑i : Int) > 0))) .a) (.i (.blk gw 105 [.pointer (some ⟨gw, 0, none⟩), .slice a3 S.length c3, .pointer (some ⟨g, 0, none⟩)]) (.d (.k (.k (.k (.k (.k (.k (.i (.blk g3 28 [.int .i64 cs[i].k, .int .i64 cs[i].n, .string (mkS cs[i].s)]) .z))))))))) ?_
          refine RZ (NT ?_)
          refine SC 28 (decide ((↑i : Int) > 0)) true (decide_eq_true (by omega)) ?_
          refine CT (RG ?_)
          refine RN [] (.d (.d .a)) 30 (fun g4 => (.slice (some ⟨g4, 0, none⟩) 1 1)) (.i 29 (.pointer (some ⟨gw, 0, none⟩)) (.d (.d (.k .a)))) (.i (.blk gw 105 [.pointer (some ⟨gw, 0, none⟩), .slice a3 S.length c3, .pointer (some ⟨g, 0, none⟩)]) (.d (.k (.k (.k (.k (.k (.k (.i (.blk g3 28 [.int .i64 cs[i].k, .int .i64 cs[i].n, .string (mkS cs[i].s)]) .z))))))))) 9 [.string (ByteArray.mk #[44, 32])] fun g4 => ?_
          refine wpr_ent (ent_turn (c := .blk g4 9 [.string (mkS [44, 32])]) 8 (ro (some ⟨g4, 0, none⟩) ([[44, 32]].map strV)) rfl (turn_rblk (one_str _)) rfl) ?_
          refine RCG (dst := some 31) (.d (.d (.k (.k (.k (.k (.k (.i (.blk g3 28 [.int .i64 cs[i].k, .int .i64 cs[i].n, .string (mkS cs[i].s)]) (.d (.k .a)))))))))) (hput (some ⟨gw, 0, none⟩) (.inr rfl) a3 c3 (S) (some ⟨g4, 0, none⟩) [44, 32] (by omega) (by simp)) (GO (GV (GJ [0, 0]) 6 view_ro) [1, 1, 0]) ?_
          rintro u _ ⟨xa, xc, rfl, rfl⟩
          refine RZ (NT (SQ (SQ (RG ?_))))
          refine RR [] .z (.i 33 (.bool ((↑i : Int) == 8)) (.d (.d (.d (.d (.k .a)))))) (.i (.blk gw 105 [.pointer (some ⟨gw, 0, none⟩), .slice xa (S ++ [44, 32]).length xc, .pointer (some ⟨g, 0, none⟩)]) (.d (.k (.k (.k (.k (.k (.k (.i (.blk g3 28 [.int .i64 cs[i].k, .int .i64 cs[i].n, .string (mkS cs[i].s)]) (.d (.k .a))))))))))) ?_
          refine RZ (NT ?_)
          refine SC 33 ((↑i : Int) == 8) false (by simp only [bne_eq_false_iff_eq, beq_eq_false_iff_ne, ne_eq]; omega) ?_
          refine CF (SK (NT (RG ?_)))
          refine RR [7, 7, 7] (.d (.d (.d .a))) (.i 39 (.int .i64 (↑d : Int)) (.i 38 (.agg #[.int .i64 cs[i].k, .int .i64 cs[i].n, .string (mkS cs[i].s)]) (.i 37 (.pointer (some ⟨gw, 0, none⟩)) (.d (.d (.d (.k .a))))))) (.i (.blk gw 105 [.pointer (some ⟨gw, 0, none⟩), .slice xa (S ++ [44, 32]).length xc, .pointer (some ⟨g, 0, none⟩)]) (.d (.k (.k (.k (.k (.k (.k (.i (.blk g3 28 [.int .i64 cs[i].k, .int .i64 cs[i].n, .string (mkS cs[i].s)]) (.d (.k .a))))))))))) ?_
          refine RCG (dst := some 40) (.d (.d (.k (.k (.k (.k (.k (.i (.blk g3 28 [.int .i64 cs[i].k, .int .i64 cs[i].n, .string (mkS cs[i].s)]) (.d (.k .a)))))))))) (hvc xa xc) (GO (GV (GV (GV (GV (GJ [0, 0]) 3 view_gPow) 2 view_self) 1 view_ro) 0 view_ro) [4, 4, 0, 0, 0, 0]) ?_
          rintro u _ ⟨a4, c4, rfl, rfl⟩
          rw [hT]
          refine RZ (BN (NT (RG ?_)))
          refine RV true [] .z (.i 22 (.int .i64 ((↑i : Int) + 1)) (.d (.d (.d (.d (.d (.k .a))))))) (.i (.blk gw 105 [.pointer (some ⟨gw, 0, none⟩), .slice a4 (B1 ++ sepP f cs (i + 1)).length c4, .pointer (some ⟨g, 0, none⟩)]) (.d (.k (.k (.k (.k (.k (.k (.i (.blk g3 28 [.int .i64 cs[i].k, .int .i64 cs[i].n, .string (mkS cs[i].s)]) (.d (.k .a))))))))))) ([inI64 ((↑i : Int) + (1 : Int))]) ⟨by unfold inI64; omega, trivial⟩ ?_
          refine RZ ?_
          exact fun a' w' hS' => ⟨⟨(i + 1, a4, c4), hlt, by omega⟩, by dsimp only; omega, ent_fr (by kernel_rfl) _ _ (ent_hp [0, 0, 0, 0, 0, 0, 0] rfl _ _ hS')⟩
    · obtain rfl : i = cs.length := by omega
      refine SQ (RG ?_)
      refine RR [] .z (.i 23 (.bool (decide ((↑cs.length : Int) < (↑cs.length : Int)))) .a) (.i (.blk gw 105 [.pointer (some ⟨gw, 0, none⟩), .slice a3 (B1 ++ sepP f cs cs.length).length c3, .pointer (some ⟨g, 0, none⟩)]) (.d (.k .a))) ?_
      refine RZ (NT (SQ ?_))
      refine SC 23 (decide ((↑cs.length : Int) < (↑cs.length : Int))) false (by simp) ?_
      refine CF (EX (TE (TE (BH (NT (RG ?_))))))
      refine RN [] (.d (.d (.d .a))) 44 (fun g3 => (.slice (some ⟨g3, 0, none⟩) 1 1)) (.i 42 (.pointer (some ⟨gw, 0, none⟩)) .z) (.i (.blk gw 105 [.pointer (some ⟨gw, 0, none⟩), .slice a3 (B1 ++ sepP f cs cs.length).length c3, .pointer (some ⟨g, 0, none⟩)]) (.d (.k .a))) 9 [.string (mkS [93])] fun g3 => ?_
      refine wpr_ent (ent_turn (c := .blk g3 9 [.string (mkS [93])]) 7 (ro (some ⟨g3, 0, none⟩) ([[93]].map strV)) rfl (turn_rblk (one_str _)) rfl) ?_
      refine RCG (dst := some 45) (.d (.d (.k .a))) (hput (some ⟨gw, 0, none⟩) (.inr rfl) a3 c3 (B1 ++ sepP f cs cs.length) (some ⟨g3, 0, none⟩) [93] (by omega) (by simp)) (GO (GV (GJ [0, 0]) 5 view_ro) [1, 1, 0]) ?_
      rintro u _ ⟨za, zc, rfl, rfl⟩
      refine RZ ?_
      refine NE [0, 0] (.i (.blk gw 105 [.pointer (some ⟨gw, 0, none⟩), .slice za (B1 ++ sepP f cs cs.length ++ [93]).length zc, .pointer (some ⟨g, 0, none⟩)]) (.d (.k .z))) (.d (.d (.k .a))) [] (.tuple #[]) ?_
      have hfin : B1 ++ sepP f cs cs.length ++ [93] = bs ++ ([91] ++ cellsT f cs ++ [93]) := by
        rw [hB1]; unfold cellsT; rw [if_neg (by omega)]; simp
      rw [hfin]
      exact ⟨za, zc, rfl, rfl⟩
  | cons t0 tr =>
    have hobj : objT f (t0 :: tr, cs) = t0 :: tr ++ [40] ++ cellsT f cs ++ [41] := rfl
    rw [hobj]
    refine fn_enter Tryz.func95 rfl 46 rfl fun w0 h0 => ?_
    refine SQ (RG ?_)
    refine RP [] .z 4 (.k (.d (.k .a))) (.i (.blk gw 105 [.pointer ad, .slice aw bs.length cw, .pointer (some ⟨g, 0, none⟩)]) (.d (.k .a))) 43 [.string (mkS (t0 :: tr)), .slice oa cs.length oc] fun g1 => ?_
    refine RZ (NT (SQ (RG ?_)))
    refine RR [] .z (.i 7 (.string (ByteArray.mk #[93])) (.i 6 (.string (ByteArray.mk #[91])) .a)) (.i (.blk gw 105 [.pointer ad, .slice aw bs.length cw, .pointer (some ⟨g, 0, none⟩)]) (.d (.k (.k (.k (.k (.k (.k (.i (.blk g1 43 [.string (mkS (t0 :: tr)), .slice oa cs.length oc]) .z))))))))) ?_
    refine RZ (NT (SQ (SQ (RG ?_))))
    refine RR [7] .z (.i 12 (.bool true) .a) (.i (.blk gw 105 [.pointer ad, .slice aw bs.length cw, .pointer (some ⟨g, 0, none⟩)]) (.d (.k (.k (.k (.k (.k (.k (.i (.blk g1 43 [.string (mkS (t0 :: tr)), .slice oa cs.length oc]) .z))))))))) ?_
    refine RZ (NT (CT (RG ?_)))
    refine RR [] .z (.i 7 (.string (ByteArray.mk #[41])) (.i 6 (.string (ByteArray.mk #[40])) (.d (.d (.d (.k .a)))))) (.i (.blk gw 105 [.pointer ad, .slice aw bs.length cw, .pointer (some ⟨g, 0, none⟩)]) (.d (.k (.k (.k (.k (.k (.k (.i (.blk g1 43 [.string (mkS (t0 :: tr)), .slice oa cs.length oc]) .z))))))))) ?_
    refine RZ (NT (SQ (RG ?_)))
    refine RN [7] (.d (.d (.d (.d (.d .a))))) 17 (fun g2 => (.slice (some ⟨g2, 0, none⟩) 2 2)) (.i 13 (.pointer (some ⟨gw, 0, none⟩)) (.k (.d (.k .a)))) (.i (.blk gw 105 [.pointer ad, .slice aw bs.length cw, .pointer (some ⟨g, 0, none⟩)]) (.d (.k (.k (.k (.k (.k (.k (.i (.blk g1 43 [.string (mkS (t0 :: tr)), .slice oa cs.length oc]) .z))))))))) 9 [.string (mkS (t0 :: tr)), .string (ByteArray.mk #[40])] fun g2 => ?_
    refine wpr_ent (ent_turn (c := .blk g2 9 [.string (mkS (t0 :: tr)), .string (mkS [40])]) 8 (ro (some ⟨g2, 0, none⟩) ([t0 :: tr, [40]].map strV)) rfl (turn_rblk (two_str _ _)) rfl) ?_
    refine RCG (dst := some 18) (.d (.d (.k (.k (.k (.k (.k (.i (.blk g1 43 [.string (mkS (t0 :: tr)), .slice oa cs.length oc]) (.d (.k .a)))))))))) (wr_put_spec gw ad had aw cw bs (.pointer (some ⟨g, 0, none⟩)) (some ⟨g2, 0, none⟩) 2 [t0 :: tr, [40]] (by omega) (by simp) (by simp) (by simp; try (simp only [List.length_cons] at htl; omega))) (GO (GV (GJ [0, 0]) 6 view_ro) [1, 1, 0]) ?_
    rintro u _ ⟨a2, c2, rfl, rfl⟩
    obtain ⟨B1, hB1⟩ : ∃ B1, B1 = bs ++ [t0 :: tr, [40]].flatten := ⟨_, rfl⟩
    rw [← hB1]
    have hB1l : B1.length ≤ bs.length + 1048577 := by rw [hB1]; simp only [List.length_append, List.flatten_cons, List.flatten_nil, List.length_nil, List.length_cons] at htl ⊢; omega
    have hS : ∀ i, i ≤ cs.length → i ≤ 8 → (B1 ++ sepP f cs i).length ≤ B1.length + 8 * (tB d + 2) := fun i h1 h2 => by
      have h3 := sepP_len hf i h1
      have h4 : i * (tB d + 2) ≤ 8 * (tB d + 2) := Nat.mul_le_mul_right _ h2
      rw [List.length_append]; omega
    refine RZ (NT (SQ (SQ (RG ?_))))
    refine RR [7] .z (.i 22 (.int .i64 0) (.i 21 (.int .i64 (↑cs.length : Int)) (.i 20 (.slice oa cs.length oc) (.d (.d (.d (.k (.d (.k .a))))))))) (.i (.blk gw 105 [.pointer (some ⟨gw, 0, none⟩), .slice a2 B1.length c2, .pointer (some ⟨g, 0, none⟩)]) (.d (.k (.k (.k (.k (.k (.k (.i (.blk g1 43 [.string (mkS (t0 :: tr)), .slice oa cs.length oc]) (.d (.k .a))))))))))) ?_
    refine RZ (NT (BK ?_))
    refine wpc_loop (X := {y : Nat × Option Addr × Nat // y.1 ≤ cs.length ∧ y.1 ≤ 8}) (fun y => St.mk [(22, .int .i64 (y.1.1 : Int)), (21, .int .i64 cs.length), (20, .slice oa cs.length oc), (7, .string (mkS [41])), (0, .pointer (some ⟨gw, 0, none⟩)), (2, .int .i64 d)]
      [.blk gw 105 [.pointer (some ⟨gw, 0, none⟩), .slice y.1.2.1 (B1 ++ sepP f cs y.1.1).length y.1.2.2, .pointer (some ⟨g, 0, none⟩)], row 5 1 y.1.2.1 (B1 ++ sepP f cs y.1.1).length y.1.2.2 (u8s (B1 ++ sepP f cs y.1.1)), ro (some ⟨g, 0, none⟩) [.bool true, .int .i64 most, .int .i64 used, .slice a l.length c], ro a (l.flatMap objC), gBag l, gPow, ro oa (cs.flatMap valC)]) (fun y => cs.length - y.1.1) ⟨(0, a2, c2), Nat.zero_le _, Nat.zero_le _⟩ ?_ ?_
    · show Ent _ _ (St.mk _ [.blk gw 105 [.pointer (some ⟨gw, 0, none⟩), .slice a2 (B1 ++ []).length c2, .pointer (some ⟨g, 0, none⟩)], row 5 1 a2 (B1 ++ []).length c2 (u8s (B1 ++ [])), ro (some ⟨g, 0, none⟩) [.bool true, .int .i64 most, .int .i64 used, .slice a l.length c], ro a (l.flatMap objC), gBag l, gPow, ro oa (cs.flatMap valC)])
      rw [List.append_nil]
      exact Ent.trans (ent_fr (by kernel_rfl)) (ent_hp [0, 0, 0, 0, 0, 0, 0] rfl)
    rintro ⟨⟨i, a3, c3⟩, hi, hi8⟩
    dsimp only at hi hi8 ⊢
    have hSi := hS i hi hi8
    by_cases hlt : i < cs.length
    · refine wpc_fact (fun w h => ro_addr h 6 rfl (by rw [vals_len]; omega)) ?_
      rintro ⟨go, oo, rfl⟩
      have hvi := hVal cs[i] (List.getElem_mem hlt) gw (some ⟨gw, 0, none⟩)
      have hsc := sepP_succ f cs i hlt
      have hfi := hf cs[i] (List.getElem_mem hlt)
      obtain ⟨S, hSe⟩ : ∃ S, S = B1 ++ sepP f cs i := ⟨_, rfl⟩
      rw [← hSe] at hSi ⊢
      have hS2 : (S ++ [44, 32]).length = S.length + 2 := by simp
      have hS3 : (S ++ [44, 32] ++ [46, 46, 46]).length = S.length + 5 := by simp
      by_cases h0 : i = 0
      · have hT : S ++ f cs[i] = B1 ++ sepP f cs (i + 1) := by rw [hsc, if_pos h0, hSe]; simp
        have hvc := hvi a3 c3 S (.inr rfl) (by omega)
        unfold valV at hvc
        refine SQ (RG ?_)
        refine RR [] .z (.i 23 (.bool (decide ((↑i : Int) < (↑cs.length : Int)))) .a) (.i (.blk gw 105 [.pointer (some ⟨gw, 0, none⟩), .slice a3 S.length c3, .pointer (some ⟨g, 0, none⟩)]) (.d (.k .a))) ?_
        refine RZ (NT (SQ ?_))
        refine SC 23 (decide ((↑i : Int) < (↑cs.length : Int))) true (decide_eq_true (by omega)) ?_
        refine CT (SK (NT (SQ (BK (SQ (RG ?_))))))
        refine RV true [] (.d (.d .a)) (.i 25 (.pointer (some ⟨go, oo + i * 3, none⟩)) (.i 24 (.int .i64 (↑i : Int)) (.d (.d (.k .a))))) (.i (.blk gw 105 [.pointer (some ⟨gw, 0, none⟩), .slice a3 S.length c3, .pointer (some ⟨g, 0, none⟩)]) (.d (.k .a))) [(0 : Int) ≤ (↑i : Int) ∧ (↑i : Int) < (↑cs.length : Int)] ⟨by first | omega | decide | (simp; done), trivial⟩ ?_
        refine wpr_eq (ld (t := 28) (a := ⟨go, oo + i * 3, none⟩) (dst := some 26) (by kernel_rfl) true 3 (by kernel_rfl) (by simp) (valC cs[i]) rfl (fun w h => ld_ro h 6 rfl (i * 3) (vals_at hlt))) ?_
        refine RP [] (.d .a) 9 (.i 26 (.agg #[.int .i64 cs[i].k, .int .i64 cs[i].n, .string (mkS cs[i].s)]) (.d (.d (.k .a)))) (.i (.blk gw 105 [.pointer (some ⟨gw, 0, none⟩), .slice a3 S.length c3, .pointer (some ⟨g, 0, none⟩)]) (.d (.k .a))) 28 [.int .i64 0, .int .i64 0, .string ⟨#[]⟩] fun g3 => ?_
        refine RR [7, 7, 7] .z (.i 8 (.int .i64 (↑i : Int)) (.k (.d (.d (.k .a))))) (.i (.blk gw 105 [.pointer (some ⟨gw, 0, none⟩), .slice a3 S.length c3, .pointer (some ⟨g, 0, none⟩)]) (.d (.k (.k (.k (.k (.k (.k (.i (.blk g3 28 [.int .i64 cs[i].k, .int .i64 cs[i].n, .string (mkS cs[i].s)]) .z))))))))) ?_
        refine RZ (NT (SQ (SQ (RG ?_))))
        refine RR [] .z (.i 28 (.bool (decide ((↑i : Int) > 0))) .a) (.i (.blk gw 105 [.pointer (some ⟨gw, 0, none⟩), .slice a3 S.length c3, .pointer (some ⟨g, 0, none⟩)]) (.d (.k (.k (.k (.k (.k (.k (.i (.blk g3 28 [.int .i64 cs[i].k, .int .i64 cs[i].n, .string (mkS cs[i].s)]) .z))))))))) ?_
        refine RZ (NT ?_)
        refine SC 28 (decide ((↑i : Int) > 0)) false (decide_eq_false (by omega)) ?_
        refine CF (SK (NT (SQ (SQ (RG ?_)))))
        refine RR [] .z (.i 33 (.bool ((↑i : Int) == 8)) (.d (.d (.d (.k .a))))) (.i (.blk gw 105 [.pointer (some ⟨gw, 0, none⟩), .slice a3 S.length c3, .pointer (some ⟨g, 0, none⟩)]) (.d (.k (.k (.k (.k (.k (.k (.i (.blk g3 28 [.int .i64 cs[i].k, .int .i64 cs[i].n, .string (mkS cs[i].s)]) .z))))))))) ?_
        refine RZ (NT ?_)
        refine SC 33 ((↑i : Int) == 8) false (by simp only [bne_eq_false_iff_eq, beq_eq_false_iff_ne, ne_eq]; omega) ?_
        refine CF (SK (NT (RG ?_)))
        refine RR [7, 7, 7] (.d (.d (.d .a))) (.i 39 (.int .i64 (↑d : Int)) (.i 38 (.agg #[.int .i64 cs[i].k, .int .i64 cs[i].n, .string (mkS cs[i].s)]) (.i 37 (.pointer (some ⟨gw, 0, none⟩)) (.d (.d (.d (.k .a))))))) (.i (.blk gw 105 [.pointer (some ⟨gw, 0, none⟩), .slice a3 S.length c3, .pointer (some ⟨g, 0, none⟩)]) (.d (.k (.k (.k (.k (.k (.k (.i (.blk g3 28 [.int .i64 cs[i].k, .int .i64 cs[i].n, .string (mkS cs[i].s)]) .z))))))))) ?_
        refine RCG (dst := some 40) (.d (.d (.k (.k (.k (.k (.k (.i (.blk g3 28 [.int .i64 cs[i].k, .int .i64 cs[i].n, .string (mkS cs[i].s)]) .z)))))))) (hvc) (GO (GV (GV (GV (GV (GJ [0, 0]) 3 view_gPow) 2 view_self) 1 view_ro) 0 view_ro) [4, 4, 0, 0, 0, 0]) ?_
        rintro u _ ⟨a4, c4, rfl, rfl⟩
        rw [hT]
        refine RZ (BN (NT (RG ?_)))
        refine RV true [] .z (.i 22 (.int .i64 ((↑i : Int) + 1)) (.d (.d (.d (.d (.d (.k .a))))))) (.i (.blk gw 105 [.pointer (some ⟨gw, 0, none⟩), .slice a4 (B1 ++ sepP f cs (i + 1)).length c4, .pointer (some ⟨g, 0, none⟩)]) (.d (.k (.k (.k (.k (.k (.k (.i (.blk g3 28 [.int .i64 cs[i].k, .int .i64 cs[i].n, .string (mkS cs[i].s)]) .z))))))))) ([inI64 ((↑i : Int) + (1 : Int))]) ⟨by unfold inI64; omega, trivial⟩ ?_
        refine RZ ?_
        exact fun a' w' hS' => ⟨⟨(i + 1, a4, c4), hlt, by omega⟩, by dsimp only; omega, ent_fr (by kernel_rfl) _ _ (ent_hp [0, 0, 0, 0, 0, 0, 0] rfl _ _ hS')⟩
      · have hvc := fun a c => hvi a c (S ++ [44, 32]) (.inr rfl) (by omega)
        unfold valV at hvc
        have hT : S ++ [44, 32] ++ f cs[i] = B1 ++ sepP f cs (i + 1) := by rw [hsc, if_neg h0, hSe]; simp
        by_cases h8 : i = 8
        · refine SQ (RG ?_)
          refine RR [] .z (.i 23 (.bool (decide ((↑i : Int) < (↑cs.length : Int)))) .a) (.i (.blk gw 105 [.pointer (some ⟨gw, 0, none⟩), .slice a3 S.length c3, .pointer (some ⟨g, 0, none⟩)]) (.d (.k .a))) ?_
          refine RZ (NT (SQ ?_))
          refine SC 23 (decide ((↑i : Int) < (↑cs.length : Int))) true (decide_eq_true (by omega)) ?_
          refine CT (SK (NT (SQ (BK (SQ (RG ?_))))))
          refine RV true [] (.d (.d .a)) (.i 25 (.pointer (some ⟨go, oo + i * 3, none⟩)) (.i 24 (.int .i64 (↑i : Int)) (.d (.d (.k .a))))) (.i (.blk gw 105 [.pointer (some ⟨gw, 0, none⟩), .slice a3 S.length c3, .pointer (some ⟨g, 0, none⟩)]) (.d (.k .a))) [(0 : Int) ≤ (↑i : Int) ∧ (↑i : Int) < (↑cs.length : Int)] ⟨by first | omega | decide | (simp; done), trivial⟩ ?_
          refine wpr_eq (ld (t := 28) (a := ⟨go, oo + i * 3, none⟩) (dst := some 26) (by kernel_rfl) true 3 (by kernel_rfl) (by simp) (valC cs[i]) rfl (fun w h => ld_ro h 6 rfl (i * 3) (vals_at hlt))) ?_
          refine RP [] (.d .a) 9 (.i 26 (.agg #[.int .i64 cs[i].k, .int .i64 cs[i].n, .string (mkS cs[i].s)]) (.d (.d (.k .a)))) (.i (.blk gw 105 [.pointer (some ⟨gw, 0, none⟩), .slice a3 S.length c3, .pointer (some ⟨g, 0, none⟩)]) (.d (.k .a))) 28 [.int .i64 0, .int .i64 0, .string ⟨#[]⟩] fun g3 => ?_
          refine RR [7, 7, 7] .z (.i 8 (.int .i64 (↑i : Int)) (.k (.d (.d (.k .a))))) (.i (.blk gw 105 [.pointer (some ⟨gw, 0, none⟩), .slice a3 S.length c3, .pointer (some ⟨g, 0, none⟩)]) (.d (.k (.k (.k (.k (.k (.k (.i (.blk g3 28 [.int .i64 cs[i].k, .int .i64 cs[i].n, .string (mkS cs[i].s)]) .z))))))))) ?_
          refine RZ (NT (SQ (SQ (RG ?_))))
          refine RR [] .z (.i 28 (.bool (decide ((↑i : Int) > 0))) .a) (.i (.blk gw 105 [.pointer (some ⟨gw, 0, none⟩), .slice a3 S.length c3, .pointer (some ⟨g, 0, none⟩)]) (.d (.k (.k (.k (.k (.k (.k (.i (.blk g3 28 [.int .i64 cs[i].k, .int .i64 cs[i].n, .string (mkS cs[i].s)]) .z))))))))) ?_
          refine RZ (NT ?_)
          refine SC 28 (decide ((↑i : Int) > 0)) true (decide_eq_true (by omega)) ?_
          refine CT (RG ?_)
          refine RN [] (.d (.d .a)) 30 (fun g4 => (.slice (some ⟨g4, 0, none⟩) 1 1)) (.i 29 (.pointer (some ⟨gw, 0, none⟩)) (.d (.d (.k .a)))) (.i (.blk gw 105 [.pointer (some ⟨gw, 0, none⟩), .slice a3 S.length c3, .pointer (some ⟨g, 0, none⟩)]) (.d (.k (.k (.k (.k (.k (.k (.i (.blk g3 28 [.int .i64 cs[i].k, .int .i64 cs[i].n, .string (mkS cs[i].s)]) .z))))))))) 9 [.string (ByteArray.mk #[44, 32])] fun g4 => ?_
          refine wpr_ent (ent_turn (c := .blk g4 9 [.string (mkS [44, 32])]) 8 (ro (some ⟨g4, 0, none⟩) ([[44, 32]].map strV)) rfl (turn_rblk (one_str _)) rfl) ?_
          refine RCG (dst := some 31) (.d (.d (.k (.k (.k (.k (.k (.i (.blk g3 28 [.int .i64 cs[i].k, .int .i64 cs[i].n, .string (mkS cs[i].s)]) (.d (.k .a)))))))))) (hput (some ⟨gw, 0, none⟩) (.inr rfl) a3 c3 (S) (some ⟨g4, 0, none⟩) [44, 32] (by omega) (by simp)) (GO (GV (GJ [0, 0]) 6 view_ro) [1, 1, 0]) ?_
          rintro u _ ⟨xa, xc, rfl, rfl⟩
          refine RZ (NT (SQ (SQ (RG ?_))))
          refine RR [] .z (.i 33 (.bool ((↑i : Int) == 8)) (.d (.d (.d (.d (.k .a)))))) (.i (.blk gw 105 [.pointer (some ⟨gw, 0, none⟩), .slice xa (S ++ [44, 32]).length xc, .pointer (some ⟨g, 0, none⟩)]) (.d (.k (.k (.k (.k (.k (.k (.i (.blk g3 28 [.int .i64 cs[i].k, .int .i64 cs[i].n, .string (mkS cs[i].s)]) (.d (.k .a))))))))))) ?_
          refine RZ (NT ?_)
          refine SC 33 ((↑i : Int) == 8) true (by simp only [bne_iff_ne, beq_iff_eq, ne_eq]; omega) ?_
          refine CT (SQ (RG ?_))
          refine RN [] (.d (.d .a)) 35 (fun g5 => (.slice (some ⟨g5, 0, none⟩) 1 1)) (.i 34 (.pointer (some ⟨gw, 0, none⟩)) (.d (.d (.k .a)))) (.i (.blk gw 105 [.pointer (some ⟨gw, 0, none⟩), .slice xa (S ++ [44, 32]).length xc, .pointer (some ⟨g, 0, none⟩)]) (.d (.k (.k (.k (.k (.k (.k (.i (.blk g3 28 [.int .i64 cs[i].k, .int .i64 cs[i].n, .string (mkS cs[i].s)]) (.d (.k .a))))))))))) 9 [.string (ByteArray.mk #[46, 46, 46])] fun g5 => ?_
          refine wpr_ent (ent_turn (c := .blk g5 9 [.string (mkS [46, 46, 46])]) 9 (ro (some ⟨g5, 0, none⟩) ([[46, 46, 46]].map strV)) rfl (turn_rblk (one_str _)) rfl) ?_
          refine RCG (dst := some 36) (.d (.d (.k (.k (.k (.k (.k (.i (.blk g3 28 [.int .i64 cs[i].k, .int .i64 cs[i].n, .string (mkS cs[i].s)]) (.d (.k .a)))))))))) (hput (some ⟨gw, 0, none⟩) (.inr rfl) xa xc (S ++ [44, 32]) (some ⟨g5, 0, none⟩) [46, 46, 46] (by omega) (by simp)) (GO (GV (GJ [0, 0]) 7 view_ro) [1, 1, 0]) ?_
          rintro u _ ⟨ya, yc, rfl, rfl⟩
          refine RZ (NT (EX (TE (BF (TE (TE (BH (NT (RG ?_)))))))))
          refine RN [] (.d (.d (.d .a))) 44 (fun g6 => (.slice (some ⟨g6, 0, none⟩) 1 1)) (.i 42 (.pointer (some ⟨gw, 0, none⟩)) .z) (.i (.blk gw 105 [.pointer (some ⟨gw, 0, none⟩), .slice ya (S ++ [44, 32] ++ [46, 46, 46]).length yc, .pointer (some ⟨g, 0, none⟩)]) (.d (.k (.k (.k (.k (.k (.k (.i (.blk g3 28 [.int .i64 cs[i].k, .int .i64 cs[i].n, .string (mkS cs[i].s)]) (.d (.k .a))))))))))) 9 [.string (mkS [41])] fun g6 => ?_
          refine wpr_ent (ent_turn (c := .blk g6 9 [.string (mkS [41])]) 10 (ro (some ⟨g6, 0, none⟩) ([[41]].map strV)) rfl (turn_rblk (one_str _)) rfl) ?_
          refine RCG (dst := some 45) (.d (.d (.k (.k (.k (.k (.k (.i (.blk g3 28 [.int .i64 cs[i].k, .int .i64 cs[i].n, .string (mkS cs[i].s)]) (.d (.k .a)))))))))) (hput (some ⟨gw, 0, none⟩) (.inr rfl) ya yc (S ++ [44, 32] ++ [46, 46, 46]) (some ⟨g6, 0, none⟩) [41] (by omega) (by simp)) (GO (GV (GJ [0, 0]) 8 view_ro) [1, 1, 0]) ?_
          rintro u _ ⟨za, zc, rfl, rfl⟩
          refine RZ ?_
          refine NE [0, 0] (.i (.blk gw 105 [.pointer (some ⟨gw, 0, none⟩), .slice za (S ++ [44, 32] ++ [46, 46, 46] ++ [41]).length zc, .pointer (some ⟨g, 0, none⟩)]) (.d (.k .z))) (.d (.d (.k (.k (.k (.k (.k (.i (.blk g3 28 [.int .i64 cs[i].k, .int .i64 cs[i].n, .string (mkS cs[i].s)]) (.d (.k .a)))))))))) [] (.tuple #[]) ?_
          have hfin : S ++ [44, 32] ++ [46, 46, 46] ++ [41] = bs ++ (t0 :: tr ++ [40] ++ cellsT f cs ++ [41]) := by
            rw [hSe, hB1, h8]; unfold cellsT; rw [if_pos (by omega)]; simp
          rw [hfin]
          exact ⟨za, zc, rfl, rfl⟩
        · refine SQ (RG ?_)
          refine RR [] .z (.i 23 (.bool (decide ((↑i : Int) < (↑cs.length : Int)))) .a) (.i (.blk gw 105 [.pointer (some ⟨gw, 0, none⟩), .slice a3 S.length c3, .pointer (some ⟨g, 0, none⟩)]) (.d (.k .a))) ?_
          refine RZ (NT (SQ ?_))
          refine SC 23 (decide ((↑i : Int) < (↑cs.length : Int))) true (decide_eq_true (by omega)) ?_
          refine CT (SK (NT (SQ (BK (SQ (RG ?_))))))
          refine RV true [] (.d (.d .a)) (.i 25 (.pointer (some ⟨go, oo + i * 3, none⟩)) (.i 24 (.int .i64 (↑i : Int)) (.d (.d (.k .a))))) (.i (.blk gw 105 [.pointer (some ⟨gw, 0, none⟩), .slice a3 S.length c3, .pointer (some ⟨g, 0, none⟩)]) (.d (.k .a))) [(0 : Int) ≤ (↑i : Int) ∧ (↑i : Int) < (↑cs.length : Int)] ⟨by first | omega | decide | (simp; done), trivial⟩ ?_
          refine wpr_eq (ld (t := 28) (a := ⟨go, oo + i * 3, none⟩) (dst := some 26) (by kernel_rfl) true 3 (by kernel_rfl) (by simp) (valC cs[i]) rfl (fun w h => ld_ro h 6 rfl (i * 3) (vals_at hlt))) ?_
          refine RP [] (.d .a) 9 (.i 26 (.agg #[.int .i64 cs[i].k, .int .i64 cs[i].n, .string (mkS cs[i].s)]) (.d (.d (.k .a)))) (.i (.blk gw 105 [.pointer (some ⟨gw, 0, none⟩), .slice a3 S.length c3, .pointer (some ⟨g, 0, none⟩)]) (.d (.k .a))) 28 [.int .i64 0, .int .i64 0, .string ⟨#[]⟩] fun g3 => ?_
          refine RR [7, 7, 7] .z (.i 8 (.int .i64 (↑i : Int)) (.k (.d (.d (.k .a))))) (.i (.blk gw 105 [.pointer (some ⟨gw, 0, none⟩), .slice a3 S.length c3, .pointer (some ⟨g, 0, none⟩)]) (.d (.k (.k (.k (.k (.k (.k (.i (.blk g3 28 [.int .i64 cs[i].k, .int .i64 cs[i].n, .string (mkS cs[i].s)]) .z))))))))) ?_
          refine RZ (NT (SQ (SQ (RG ?_))))
          refine RR [] .z (.i 28 (.bool (decide ((↑i : Int) > 0))) .a) (.i (.blk gw 105 [.pointer (some ⟨gw, 0, none⟩), .slice a3 S.length c3, .pointer (some ⟨g, 0, none⟩)]) (.d (.k (.k (.k (.k (.k (.k (.i (.blk g3 28 [.int .i64 cs[i].k, .int .i64 cs[i].n, .string (mkS cs[i].s)]) .z))))))))) ?_
          refine RZ (NT ?_)
          refine SC 28 (decide ((↑i : Int) > 0)) true (decide_eq_true (by omega)) ?_
          refine CT (RG ?_)
          refine RN [] (.d (.d .a)) 30 (fun g4 => (.slice (some ⟨g4, 0, none⟩) 1 1)) (.i 29 (.pointer (some ⟨gw, 0, none⟩)) (.d (.d (.k .a)))) (.i (.blk gw 105 [.pointer (some ⟨gw, 0, none⟩), .slice a3 S.length c3, .pointer (some ⟨g, 0, none⟩)]) (.d (.k (.k (.k (.k (.k (.k (.i (.blk g3 28 [.int .i64 cs[i].k, .int .i64 cs[i].n, .string (mkS cs[i].s)]) .z))))))))) 9 [.string (ByteArray.mk #[44, 32])] fun g4 => ?_
          refine wpr_ent (ent_turn (c := .blk g4 9 [.string (mkS [44, 32])]) 8 (ro (some ⟨g4, 0, none⟩) ([[44, 32]].map strV)) rfl (turn_rblk (one_str _)) rfl) ?_
          refine RCG (dst := some 31) (.d (.d (.k (.k (.k (.k (.k (.i (.blk g3 28 [.int .i64 cs[i].k, .int .i64 cs[i].n, .string (mkS cs[i].s)]) (.d (.k .a)))))))))) (hput (some ⟨gw, 0, none⟩) (.inr rfl) a3 c3 (S) (some ⟨g4, 0, none⟩) [44, 32] (by omega) (by simp)) (GO (GV (GJ [0, 0]) 6 view_ro) [1, 1, 0]) ?_
          rintro u _ ⟨xa, xc, rfl, rfl⟩
          refine RZ (NT (SQ (SQ (RG ?_))))
          refine RR [] .z (.i 33 (.bool ((↑i : Int) == 8)) (.d (.d (.d (.d (.k .a)))))) (.i (.blk gw 105 [.pointer (some ⟨gw, 0, none⟩), .slice xa (S ++ [44, 32]).length xc, .pointer (some ⟨g, 0, none⟩)]) (.d (.k (.k (.k (.k (.k (.k (.i (.blk g3 28 [.int .i64 cs[i].k, .int .i64 cs[i].n, .string (mkS cs[i].s)]) (.d (.k .a))))))))))) ?_
          refine RZ (NT ?_)
          refine SC 33 ((↑i : Int) == 8) false (by simp only [bne_eq_false_iff_eq, beq_eq_false_iff_ne, ne_eq]; omega) ?_
          refine CF (SK (NT (RG ?_)))
          refine RR [7, 7, 7] (.d (.d (.d .a))) (.i 39 (.int .i64 (↑d : Int)) (.i 38 (.agg #[.int .i64 cs[i].k, .int .i64 cs[i].n, .string (mkS cs[i].s)]) (.i 37 (.pointer (some ⟨gw, 0, none⟩)) (.d (.d (.d (.k .a))))))) (.i (.blk gw 105 [.pointer (some ⟨gw, 0, none⟩), .slice xa (S ++ [44, 32]).length xc, .pointer (some ⟨g, 0, none⟩)]) (.d (.k (.k (.k (.k (.k (.k (.i (.blk g3 28 [.int .i64 cs[i].k, .int .i64 cs[i].n, .string (mkS cs[i].s)]) (.d (.k .a))))))))))) ?_
          refine RCG (dst := some 40) (.d (.d (.k (.k (.k (.k (.k (.i (.blk g3 28 [.int .i64 cs[i].k, .int .i64 cs[i].n, .string (mkS cs[i].s)]) (.d (.k .a)))))))))) (hvc xa xc) (GO (GV (GV (GV (GV (GJ [0, 0]) 3 view_gPow) 2 view_self) 1 view_ro) 0 view_ro) [4, 4, 0, 0, 0, 0]) ?_
          rintro u _ ⟨a4, c4, rfl, rfl⟩
          rw [hT]
          refine RZ (BN (NT (RG ?_)))
          refine RV true [] .z (.i 22 (.int .i64 ((↑i : Int) + 1)) (.d (.d (.d (.d (.d (.k .a))))))) (.i (.blk gw 105 [.pointer (some ⟨gw, 0, none⟩), .slice a4 (B1 ++ sepP f cs (i + 1)).length c4, .pointer (some ⟨g, 0, none⟩)]) (.d (.k (.k (.k (.k (.k (.k (.i (.blk g3 28 [.int .i64 cs[i].k, .int .i64 cs[i].n, .string (mkS cs[i].s)]) (.d (.k .a))))))))))) ([inI64 ((↑i : Int) + (1 : Int))]) ⟨by unfold inI64; omega, trivial⟩ ?_
          refine RZ ?_
          exact fun a' w' hS' => ⟨⟨(i + 1, a4, c4), hlt, by omega⟩, by dsimp only; omega, ent_fr (by kernel_rfl) _ _ (ent_hp [0, 0, 0, 0, 0, 0, 0] rfl _ _ hS')⟩
    · obtain rfl : i = cs.length := by omega
      refine SQ (RG ?_)
      refine RR [] .z (.i 23 (.bool (decide ((↑cs.length : Int) < (↑cs.length : Int)))) .a) (.i (.blk gw 105 [.pointer (some ⟨gw, 0, none⟩), .slice a3 (B1 ++ sepP f cs cs.length).length c3, .pointer (some ⟨g, 0, none⟩)]) (.d (.k .a))) ?_
      refine RZ (NT (SQ ?_))
      refine SC 23 (decide ((↑cs.length : Int) < (↑cs.length : Int))) false (by simp) ?_
      refine CF (EX (TE (TE (BH (NT (RG ?_))))))
      refine RN [] (.d (.d (.d .a))) 44 (fun g3 => (.slice (some ⟨g3, 0, none⟩) 1 1)) (.i 42 (.pointer (some ⟨gw, 0, none⟩)) .z) (.i (.blk gw 105 [.pointer (some ⟨gw, 0, none⟩), .slice a3 (B1 ++ sepP f cs cs.length).length c3, .pointer (some ⟨g, 0, none⟩)]) (.d (.k .a))) 9 [.string (mkS [41])] fun g3 => ?_
      refine wpr_ent (ent_turn (c := .blk g3 9 [.string (mkS [41])]) 7 (ro (some ⟨g3, 0, none⟩) ([[41]].map strV)) rfl (turn_rblk (one_str _)) rfl) ?_
      refine RCG (dst := some 45) (.d (.d (.k .a))) (hput (some ⟨gw, 0, none⟩) (.inr rfl) a3 c3 (B1 ++ sepP f cs cs.length) (some ⟨g3, 0, none⟩) [41] (by omega) (by simp)) (GO (GV (GJ [0, 0]) 5 view_ro) [1, 1, 0]) ?_
      rintro u _ ⟨za, zc, rfl, rfl⟩
      refine RZ ?_
      refine NE [0, 0] (.i (.blk gw 105 [.pointer (some ⟨gw, 0, none⟩), .slice za (B1 ++ sepP f cs cs.length ++ [41]).length zc, .pointer (some ⟨g, 0, none⟩)]) (.d (.k .z))) (.d (.d (.k .a))) [] (.tuple #[]) ?_
      have hfin : B1 ++ sepP f cs cs.length ++ [41] = bs ++ (t0 :: tr ++ [40] ++ cellsT f cs ++ [41]) := by
        rw [hB1]; unfold cellsT; rw [if_neg (by omega)]; simp
      rw [hfin]
      exact ⟨za, zc, rfl, rfl⟩
end Go.Proofs.YtpfhleghgkeemaaGreatDoor
