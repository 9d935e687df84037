import Derived.Shelf.Strings.OnBuilder
import Derived.Laws.Externs
import Derived.Laws.Strings3
import Derived.Test.YtgcfomhlgipllaaGreatDoorCg2
set_option linter.unusedVariables false
set_option linter.unusedSimpArgs false
namespace Go.Proofs.YtgcfomhlgipllaaGreatDoor
open Go Go.Sx
theorem two_str (s t : List UInt8) : Sx.One [Value.string (mkS s), Value.string (mkS t)] := fun u hu => by
  simp only [List.mem_cons, List.not_mem_nil, or_false] at hu
  rcases hu with rfl | rfl <;> rfl
theorem wobj_spec (g : Nat) (most : Int) (used : Nat) (a : Option Addr) (c : Nat) (l : List Ob) (d : Nat) (hV : ∀ v, showV l.length v → ValS g most used a c l d v) (hL : okHeap (l.map Ob.o))
    (tg : List UInt8) (cs : List V) (oa : Option Addr) (oc : Nat) (htl : tg.length ≤ 1048576) (hcl : cs.length ≤ 1048576) (hcs : ∀ v ∈ cs, showV l.length v)
    (gw : Nat) (ad aw : Option Addr) (cw : Nat) (bs : List UInt8) (had : ad = none ∨ ad = some ⟨gw, 0, none⟩) (hb : bs.length + tB (d + 1) ≤ 68719476736) :
    Does Tryz.prog 164 [.pointer (some ⟨gw, 0, none⟩), .agg #[.string (mkS tg), .slice oa cs.length oc], .int .i64 d] (wrH gw ad aw cw bs g ++ hctx g most used a c l ++ [ro oa (cs.flatMap valC)])
    (fun u hp' => ∃ a' c', u = .tuple #[] ∧ hp' = wrH gw (some ⟨gw, 0, none⟩) a' c' (bs ++ objT (txt (l.map Ob.o) d) (tg, cs)) g) := by
  have hf : ∀ v ∈ cs, (txt (l.map Ob.o) d v).length ≤ tB d := fun v hv => txt_len hL d v (by rw [List.length_map]; exact hcs v hv)
  have htB : tB (d + 1) = 1048600 + 9 * (tB d + 2) := rfl
  obtain ⟨f, hfe⟩ : ∃ f, f = txt (l.map Ob.o) d := ⟨_, rfl⟩
  rw [← hfe] at hf ⊢
  have hVal : ∀ v ∈ cs, ValS g most used a c l d v := fun v hv => hV v (hcs v hv)
  unfold ValS wrH hctx at hVal
  rw [← hfe] at hVal
  simp only [List.cons_append, List.nil_append] at hVal
  unfold wrH hctx
  simp only [List.cons_append, List.nil_append]
  have hput := fun (ad : Option Addr) (had : ad = none ∨ ad = some ⟨gw, 0, none⟩) (aw : Option Addr) (cw : Nat) (bs : List UInt8) (p : Option Addr) (t : List UInt8) (h1 : bs.length ≤ 549755813888) (h2 : t.length ≤ 549755813000) => wr_put_spec gw ad had aw cw bs (.pointer (some ⟨g, 0, none⟩)) p 1 [t] h1 (by simp) (by simp) (by simpa using h2)
  simp only [List.flatten_singleton, List.length_singleton] at hput
  cases tg with
  | nil =>
    have hobj : objT f ([], cs) = [91] ++ cellsT f cs ++ [93] := rfl
    rw [hobj]
    refine fn_enter Tryz.func164 rfl 46 rfl fun w0 h0 => ?_
    refine SQ (RG ?_)
    refine RP [] .z 4 (.k (.d (.k .a))) .a 83 [.string (mkS []), .slice oa cs.length oc] fun g1 => ?_
    refine RZ (NT (SQ (RG ?_)))
    refine RR [] .z (.i 7 (.string (ByteArray.mk #[93])) (.i 6 (.string (ByteArray.mk #[91])) .a)) .a ?_
    refine RZ (NT (SQ (SQ (RG ?_))))
    refine RR [7] .z (.i 12 (.bool false) .a) .a ?_
    refine RZ (NT (CF (SK (NT (SQ (RG ?_))))))
    refine RN [7] (.d (.d (.d (.d (.d .a))))) 17 (fun g2 => (.slice (some ⟨g2, 0, none⟩) 2 2)) (.i 13 (.pointer (some ⟨gw, 0, none⟩)) (.d (.k (.d (.k .a))))) .a 9 [.string (mkS []), .string (ByteArray.mk #[91])] fun g2 => ?_
    refine wpr_ent (ent_turn (c := .blk g2 9 [.string (mkS ([])), .string (mkS [91])]) 8 (ro (some ⟨g2, 0, none⟩) ([[], [91]].map strV)) rfl (turn_rblk (two_str _ _)) rfl) ?_
    refine RCG (dst := some 18) (.d (.d (.k .a))) (wr_put_spec gw ad had aw cw bs (.pointer (some ⟨g, 0, none⟩)) (some ⟨g2, 0, none⟩) 2 [[], [91]] (by omega) (by simp) (by simp) (by simp; try (simp only [List.length_cons] at htl; omega))) (GO (GV (GJ [0, 0]) 6 view_ro) [1, 1, 0]) ?_
    rintro u _ ⟨a2, c2, rfl, rfl⟩
    obtain ⟨B1, hB1⟩ : ∃ B1, B1 = bs ++ [[], [91]].flatten := ⟨_, rfl⟩
    rw [← hB1]
    have hB1l : B1.length ≤ bs.length + 1048577 := by rw [hB1]; simp only [List.length_append, List.flatten_cons, List.flatten_nil, List.length_nil, List.length_cons] at htl ⊢; omega
    have hS : ∀ i, i ≤ cs.length → i ≤ 8 → (B1 ++ sepP f cs i).length ≤ B1.length + 8 * (tB d + 2) := fun i h1 h2 => by
      have h3 := sepP_len hf i h1
      have h4 : i * (tB d + 2) ≤ 8 * (tB d + 2) := Nat.mul_le_mul_right _ h2
      rw [List.length_append]; omega
    refine RZ (NT (SQ (SQ (RG ?_))))
    refine RR [7] .z (.i 22 (.int .i64 0) (.i 21 (.int .i64 (↑cs.length : Int)) (.i 20 (.slice oa cs.length oc) (.d (.d (.d (.k (.d (.k .a))))))))) .a ?_
    refine RZ (NT (BK ?_))
    refine wpc_loop (X := {y : Nat × Option Addr × Nat // y.1 ≤ cs.length ∧ y.1 ≤ 8}) (fun y => St.mk [(22, .int .i64 (y.1.1 : Int)), (21, .int .i64 cs.length), (20, .slice oa cs.length oc), (7, .string (mkS [93])), (0, .pointer (some ⟨gw, 0, none⟩)), (2, .int .i64 d)]
      [.blk gw 204 [.pointer (some ⟨gw, 0, none⟩), .slice y.1.2.1 (B1 ++ sepP f cs y.1.1).length y.1.2.2, .pointer (some ⟨g, 0, none⟩)], row 5 1 y.1.2.1 (B1 ++ sepP f cs y.1.1).length y.1.2.2 (u8s (B1 ++ sepP f cs y.1.1)), ro (some ⟨g, 0, none⟩) [.bool true, .int .i64 most, .int .i64 used, .slice a l.length c], ro a (l.flatMap objC), gBag l, gPow, ro oa (cs.flatMap valC)]) (fun y => cs.length - y.1.1) ⟨(0, a2, c2), Nat.zero_le _, Nat.zero_le _⟩ ?_ ?_
    · show Ent _ _ (St.mk _ [.blk gw 204 [.pointer (some ⟨gw, 0, none⟩), .slice a2 (B1 ++ []).length c2, .pointer (some ⟨g, 0, none⟩)], row 5 1 a2 (B1 ++ []).length c2 (u8s (B1 ++ [])), ro (some ⟨g, 0, none⟩) [.bool true, .int .i64 most, .int .i64 used, .slice a l.length c], ro a (l.flatMap objC), gBag l, gPow, ro oa (cs.flatMap valC)])
      rw [List.append_nil]
      exact Ent.trans (ent_fr (by kernel_rfl)) (ent_hp [0, 0, 0, 0, 0, 0, 0] rfl)
    rintro ⟨⟨i, a3, c3⟩, hi, hi8⟩
    dsimp only at hi hi8 ⊢
    have hSi := hS i hi hi8
    by_cases hlt : i < cs.length
    · refine wpc_fact (fun w h => ro_addr h 6 rfl (by rw [vals_len]; omega)) ?_
      rintro ⟨go, oo, rfl⟩
      have hvi := hVal cs[i] (List.getElem_mem hlt) gw (some ⟨gw, 0, none⟩)
      have hsc := sepP_succ f cs i hlt
      have hfi := hf cs[i] (List.getElem_mem hlt)
      obtain ⟨S, hSe⟩ : ∃ S, S = B1 ++ sepP f cs i := ⟨_, rfl⟩
      rw [← hSe] at hSi ⊢
      have hS2 : (S ++ [44, 32]).length = S.length + 2 := by simp
      have hS3 : (S ++ [44, 32] ++ [46, 46, 46]).length = S.length + 5 := by simp
      by_cases h0 : i = 0
      · have hT : S ++ f cs[i] = B1 ++ sepP f cs (i + 1) := by rw [hsc, if_pos h0, hSe]; simp
        have hvc := hvi a3 c3 S (.inr rfl) (by omega)
        unfold valV at hvc
        refine SQ (RG ?_)
        refine RR [] .z (.i 23 (.bool (decide ((↑i : Int) < (↑cs.length : Int)))) .a) .a ?_
        refine RZ (NT (SQ ?_))
        refine SC 23 (decide ((↑i : Int) < (↑cs.length : Int))) true (decide_eq_true (by omega)) ?_
        refine CT (SK (NT (SQ (BK (SQ (RG ?_))))))
        refine RV true [] (.d (.d .a)) (.i 25 (.pointer (some ⟨go, oo + i * 3, none⟩)) (.i 24 (.int .i64 (↑i : Int)) (.d (.d (.k .a))))) .a [(0 : Int) ≤ (↑i : Int) ∧ (↑i : Int) < (↑cs.length : Int)] ⟨by omega, trivial⟩ ?_
        refine wpr_eq (ld (t := 94) (a := ⟨go, oo + i * 3, none⟩) (dst := some 26) (by kernel_rfl) true 3 (by kernel_rfl) (by simp) (valC cs[i]) rfl (fun w h => ld_ro h 6 rfl (i * 3) (vals_at hlt))) ?_
        refine RP [] (.d .a) 9 (.i 26 (.agg #[.int .i64 cs[i].k, .int .i64 cs[i].n, .string (mkS cs[i].s)]) (.d (.d (.k .a)))) .a 94 [.int .i64 0, .int .i64 0, .string ⟨#[]⟩] fun g3 => ?_
        refine RR [7, 7, 7] .z (.i 8 (.int .i64 (↑i : Int)) (.k (.d (.d (.k .a))))) (.k (.k (.k (.k (.k (.k (.k (.u (.i (.int .i64 cs[i].k) (.i (.int .i64 cs[i].n) (.i (.string (mkS cs[i].s)) .z))) .a)))))))) ?_
        refine RZ (NT (SQ (SQ (RG ?_))))
        refine RR [] .z (.i 28 (.bool (decide ((↑i : Int) > (0 : Int)))) .a) .a ?_
        refine RZ (NT ?_)
        refine SC 28 (decide ((↑i : Int) > (0 : Int))) false (decide_eq_false (by omega)) ?_
        refine CF (SK (NT (SQ (SQ (RG ?_)))))
        refine RR [] .z (.i 33 (.bool ((↑i : Int) == (8 : Int))) (.d (.d (.d (.k .a))))) .a ?_
        refine RZ (NT ?_)
        refine SC 33 ((↑i : Int) == (8 : Int)) false (by simp only [bne_eq_false_iff_eq, beq_eq_false_iff_ne, ne_eq]; omega) ?_
        refine CF (SK (NT (RG ?_)))
        refine RR [7, 7, 7] (.d (.d (.d .a))) (.i 39 (.int .i64 (↑d : Int)) (.i 38 (.agg #[.int .i64 cs[i].k, .int .i64 cs[i].n, .string (mkS cs[i].s)]) (.i 37 (.pointer (some ⟨gw, 0, none⟩)) (.d (.d (.d (.k .a))))))) .a ?_
        refine RCG (dst := some 40) (.d (.d (.k .a))) (hvc) (GO (GV (GV (GV (GV (GJ [0, 0]) 3 view_gPow) 2 view_self) 1 view_ro) 0 view_ro) [4, 4, 0, 0, 0, 0]) ?_
        rintro u _ ⟨a4, c4, rfl, rfl⟩
        rw [hT]
        refine RZ (BN (NT (RG ?_)))
        refine RV true [] .z (.i 22 (.int .i64 ((↑i : Int) + 1)) (.d (.d (.d (.d (.d (.k .a))))))) .a ([inI64 ((↑i : Int) + (1 : Int))]) ⟨by unfold inI64; omega, trivial⟩ ?_
        refine RZ ?_
        exact fun a' w' hS' => ⟨⟨(i + 1, a4, c4), hlt, by omega⟩, by dsimp only; omega, ent_fr (by kernel_rfl) _ _ (ent_hp [0, 0, 0, 0, 0, 0, 0] rfl _ _ hS')⟩
      · have hvc := fun a c => hvi a c (S ++ [44, 32]) (.inr rfl) (by omega)
        unfold valV at hvc
        have hT : S ++ [44, 32] ++ f cs[i] = B1 ++ sepP f cs (i + 1) := by rw [hsc, if_neg h0, hSe]; simp
        by_cases h8 : i = 8
        · refine SQ (RG ?_)
          refine RR [] .z (.i 23 (.bool (decide ((↑i : Int) < (↑cs.length : Int)))) .a) .a ?_
          refine RZ (NT (SQ ?_))
          refine SC 23 (decide ((↑i : Int) < (↑cs.length : Int))) true (decide_eq_true (by omega)) ?_
          refine CT (SK (NT (SQ (BK (SQ (RG ?_))))))
          refine RV true [] (.d (.d .a)) (.i 25 (.pointer (some ⟨go, oo + i * 3, none⟩)) (.i 24 (.int .i64 (↑i : Int)) (.d (.d (.k .a))))) .a [(0 : Int) ≤ (↑i : Int) ∧ (↑i : Int) < (↑cs.length : Int)] ⟨by omega, trivial⟩ ?_
          refine wpr_eq (ld (t := 94) (a := ⟨go, oo + i * 3, none⟩) (dst := some 26) (by kernel_rfl) true 3 (by kernel_rfl) (by simp) (valC cs[i]) rfl (fun w h => ld_ro h 6 rfl (i * 3) (vals_at hlt))) ?_
          refine RP [] (.d .a) 9 (.i 26 (.agg #[.int .i64 cs[i].k, .int .i64 cs[i].n, .string (mkS cs[i].s)]) (.d (.d (.k .a)))) .a 94 [.int .i64 0, .int .i64 0, .string ⟨#[]⟩] fun g3 => ?_
          refine RR [7, 7, 7] .z (.i 8 (.int .i64 (↑i : Int)) (.k (.d (.d (.k .a))))) (.k (.k (.k (.k (.k (.k (.k (.u (.i (.int .i64 cs[i].k) (.i (.int .i64 cs[i].n) (.i (.string (mkS cs[i].s)) .z))) .a)))))))) ?_
          refine RZ (NT (SQ (SQ (RG ?_))))
          refine RR [] .z (.i 28 (.bool (decide ((↑i : Int) > (0 : Int)))) .a) .a ?_
          refine RZ (NT ?_)
          refine SC 28 (decide ((↑i : Int) > (0 : Int))) true (decide_eq_true (by omega)) ?_
          refine CT (RG ?_)
          refine RN [] (.d (.d .a)) 30 (fun g4 => (.slice (some ⟨g4, 0, none⟩) 1 1)) (.i 29 (.pointer (some ⟨gw, 0, none⟩)) (.d (.d (.k .a)))) .a 9 [.string (ByteArray.mk #[44, 32])] fun g4 => ?_
          refine wpr_ent (ent_turn (c := .blk g4 9 [.string (mkS [44, 32])]) 8 (ro (some ⟨g4, 0, none⟩) ([[44, 32]].map strV)) rfl (turn_rblk (one_str _)) rfl) ?_
          refine RCG (dst := some 31) (.d (.d (.k .a))) (hput (some ⟨gw, 0, none⟩) (.inr rfl) a3 c3 (S) (some ⟨g4, 0, none⟩) [44, 32] (by omega) (by simp)) (GO (GV (GJ [0, 0]) 6 view_ro) [1, 1, 0]) ?_
          rintro u _ ⟨xa, xc, rfl, rfl⟩
          refine RZ (NT (SQ (SQ (RG ?_))))
          refine RR [] .z (.i 33 (.bool ((↑i : Int) == (8 : Int))) (.d (.d (.d (.d (.k .a)))))) .a ?_
          refine RZ (NT ?_)
          refine SC 33 ((↑i : Int) == (8 : Int)) true (by simp only [bne_iff_ne, beq_iff_eq, ne_eq]; omega) ?_
          refine CT (SQ (RG ?_))
          refine RN [] (.d (.d .a)) 35 (fun g5 => (.slice (some ⟨g5, 0, none⟩) 1 1)) (.i 34 (.pointer (some ⟨gw, 0, none⟩)) (.d (.d (.k .a)))) .a 9 [.string (ByteArray.mk #[46, 46, 46])] fun g5 => ?_
          refine wpr_ent (ent_turn (c := .blk g5 9 [.string (mkS [46, 46, 46])]) 9 (ro (some ⟨g5, 0, none⟩) ([[46, 46, 46]].map strV)) rfl (turn_rblk (one_str _)) rfl) ?_
          refine RCG (dst := some 36) (.d (.d (.k .a))) (hput (some ⟨gw, 0, none⟩) (.inr rfl) xa xc (S ++ [44, 32]) (some ⟨g5, 0, none⟩) [46, 46, 46] (by omega) (by simp)) (GO (GV (GJ [0, 0]) 7 view_ro) [1, 1, 0]) ?_
          rintro u _ ⟨ya, yc, rfl, rfl⟩
          refine RZ (NT (EX (TE (BF (TE (TE (BH (NT (RG ?_)))))))))
          refine RN [] (.d (.d (.d .a))) 44 (fun g6 => (.slice (some ⟨g6, 0, none⟩) 1 1)) (.i 42 (.pointer (some ⟨gw, 0, none⟩)) .z) .a 9 [.string (mkS [93])] fun g6 => ?_
          refine wpr_ent (ent_turn (c := .blk g6 9 [.string (mkS [93])]) 10 (ro (some ⟨g6, 0, none⟩) ([[93]].map strV)) rfl (turn_rblk (one_str _)) rfl) ?_
          refine RCG (dst := some 45) (.d (.d (.k .a))) (hput (some ⟨gw, 0, none⟩) (.inr rfl) ya yc (S ++ [44, 32] ++ [46, 46, 46]) (some ⟨g6, 0, none⟩) [93] (by omega) (by simp)) (GO (GV (GJ [0, 0]) 8 view_ro) [1, 1, 0]) ?_
          rintro u _ ⟨za, zc, rfl, rfl⟩
          refine RZ ?_
          refine NE [0, 0] (.k (.k .z)) (.d (.d (.k .a))) [] (.tuple #[]) ?_
          have hfin : S ++ [44, 32] ++ [46, 46, 46] ++ [93] = bs ++ ([91] ++ cellsT f cs ++ [93]) := by
            rw [hSe, hB1, h8]; unfold cellsT; rw [if_pos (by omega)]; simp
          rw [hfin]
          exact ⟨za, zc, rfl, rfl⟩
        · refine SQ (RG ?_)
          refine RR [] .z (.i 23 (.bool (decide ((↑i : Int) < (↑cs.length : Int)))) .a) .a ?_
          refine RZ (NT (SQ ?_))
          refine SC 23 (decide ((↑i : Int) < (↑cs.length : Int))) true (decide_eq_true (by omega)) ?_
          refine CT (SK (NT (SQ (BK (SQ (RG ?_))))))
          refine RV true [] (.d (.d .a)) (.i 25 (.pointer (some ⟨go, oo + i * 3, none⟩)) (.i 24 (.int .i64 (↑i : Int)) (.d (.d (.k .a))))) .a [(0 : Int) ≤ (↑i : Int) ∧ (↑i : Int) < (↑cs.length : Int)] ⟨by omega, trivial⟩ ?_
          refine wpr_eq (ld (t := 94) (a := ⟨go, oo + i * 3, none⟩) (dst := some 26) (by kernel_rfl) true 3 (by kernel_rfl) (by simp) (valC cs[i]) rfl (fun w h => ld_ro h 6 rfl (i * 3) (vals_at hlt))) ?_
          refine RP [] (.d .a) 9 (.i 26 (.agg #[.int .i64 cs[i].k, .int .i64 cs[i].n, .string (mkS cs[i].s)]) (.d (.d (.k .a)))) .a 94 [.int .i64 0, .int .i64 0, .string ⟨#[]⟩] fun g3 => ?_
          refine RR [7, 7, 7] .z (.i 8 (.int .i64 (↑i : Int)) (.k (.d (.d (.k .a))))) (.k (.k (.k (.k (.k (.k (.k (.u (.i (.int .i64 cs[i].k) (.i (.int .i64 cs[i].n) (.i (.string (mkS cs[i].s)) .z))) .a)))))))) ?_
          refine RZ (NT (SQ (SQ (RG ?_))))
          refine RR [] .z (.i 28 (.bool (decide ((↑i : Int) > (0 : Int)))) .a) .a ?_
          refine RZ (NT ?_)
          refine SC 28 (decide ((↑i : Int) > (0 : Int))) true (decide_eq_true (by omega)) ?_
          refine CT (RG ?_)
          refine RN [] (.d (.d .a)) 30 (fun g4 => (.slice (some ⟨g4, 0, none⟩) 1 1)) (.i 29 (.pointer (some ⟨gw, 0, none⟩)) (.d (.d (.k .a)))) .a 9 [.string (ByteArray.mk #[44, 32])] fun g4 => ?_
          refine wpr_ent (ent_turn (c := .blk g4 9 [.string (mkS [44, 32])]) 8 (ro (some ⟨g4, 0, none⟩) ([[44, 32]].map strV)) rfl (turn_rblk (one_str _)) rfl) ?_
          refine RCG (dst := some 31) (.d (.d (.k .a))) (hput (some ⟨gw, 0, none⟩) (.inr rfl) a3 c3 (S) (some ⟨g4, 0, none⟩) [44, 32] (by omega) (by simp)) (GO (GV (GJ [0, 0]) 6 view_ro) [1, 1, 0]) ?_
          rintro u _ ⟨xa, xc, rfl, rfl⟩
          refine RZ (NT (SQ (SQ (RG ?_))))
          refine RR [] .z (.i 33 (.bool ((↑i : Int) == (8 : Int))) (.d (.d (.d (.d (.k .a)))))) .a ?_
          refine RZ (NT ?_)
          refine SC 33 ((↑i : Int) == (8 : Int)) false (by simp only [bne_eq_false_iff_eq, beq_eq_false_iff_ne, ne_eq]; omega) ?_
          refine CF (SK (NT (RG ?_)))
          refine RR [7, 7, 7] (.d (.d (.d .a))) (.i 39 (.int .i64 (↑d : Int)) (.i 38 (.agg #[.int .i64 cs[i].k, .int .i64 cs[i].n, .string (mkS cs[i].s)]) (.i 37 (.pointer (some ⟨gw, 0, none⟩)) (.d (.d (.d (.k .a))))))) .a ?_
          refine RCG (dst := some 40) (.d (.d (.k .a))) (hvc xa xc) (GO (GV (GV (GV (GV (GJ [0, 0]) 3 view_gPow) 2 view_self) 1 view_ro) 0 view_ro) [4, 4, 0, 0, 0, 0]) ?_
          rintro u _ ⟨a4, c4, rfl, rfl⟩
          rw [hT]
          refine RZ (BN (NT (RG ?_)))
          refine RV true [] .z (.i 22 (.int .i64 ((↑i : Int) + 1)) (.d (.d (.d (.d (.d (.k .a))))))) .a ([inI64 ((↑i : Int) + (1 : Int))]) ⟨by unfold inI64; omega, trivial⟩ ?_
          refine RZ ?_
          exact fun a' w' hS' => ⟨⟨(i + 1, a4, c4), hlt, by omega⟩, by dsimp only; omega, ent_fr (by kernel_rfl) _ _ (ent_hp [0, 0, 0, 0, 0, 0, 0] rfl _ _ hS')⟩
    · obtain rfl : i = cs.length := by omega
      refine SQ (RG ?_)
      refine RR [] .z (.i 23 (.bool (decide ((↑cs.length : Int) < (↑cs.length : Int)))) .a) .a ?_
      refine RZ (NT (SQ ?_))
      refine SC 23 (decide ((↑cs.length : Int) < (↑cs.length : Int))) false (by simp) ?_
      refine CF (EX (TE (TE (BH (NT (RG ?_))))))
      refine RN [] (.d (.d (.d .a))) 44 (fun g3 => (.slice (some ⟨g3, 0, none⟩) 1 1)) (.i 42 (.pointer (some ⟨gw, 0, none⟩)) .z) .a 9 [.string (mkS [93])] fun g3 => ?_
      refine wpr_ent (ent_turn (c := .blk g3 9 [.string (mkS [93])]) 7 (ro (some ⟨g3, 0, none⟩) ([[93]].map strV)) rfl (turn_rblk (one_str _)) rfl) ?_
      refine RCG (dst := some 45) (.d (.d (.k .a))) (hput (some ⟨gw, 0, none⟩) (.inr rfl) a3 c3 (B1 ++ sepP f cs cs.length) (some ⟨g3, 0, none⟩) [93] (by omega) (by simp)) (GO (GV (GJ [0, 0]) 5 view_ro) [1, 1, 0]) ?_
      rintro u _ ⟨za, zc, rfl, rfl⟩
      refine RZ ?_
      refine NE [0, 0] (.k (.k .z)) (.d (.d (.k .a))) [] (.tuple #[]) ?_
      have hfin : B1 ++ sepP f cs cs.length ++ [93] = bs ++ ([91] ++ cellsT f cs ++ [93]) := by
        rw [hB1]; unfold cellsT; rw [if_neg (by omega)]; simp
      rw [hfin]
      exact ⟨za, zc, rfl, rfl⟩
  | cons t0 tr =>
    have hobj : objT f (t0 :: tr, cs) = t0 :: tr ++ [40] ++ cellsT f cs ++ [41] := rfl
    rw [hobj]
    refine fn_enter Tryz.func164 rfl 46 rfl fun w0 h0 => ?_
    refine SQ (RG ?_)
    refine RP [] .z 4 (.k (.d (.k .a))) .a 83 [.string (mkS (t0 :: tr)), .slice oa cs.length oc] fun g1 => ?_
    refine RZ (NT (SQ (RG ?_)))
    refine RR [] .z (.i 7 (.string (ByteArray.mk #[93])) (.i 6 (.string (ByteArray.mk #[91])) .a)) .a ?_
    refine RZ (NT (SQ (SQ (RG ?_))))
    refine RR [7] .z (.i 12 (.bool true) .a) .a ?_
    refine RZ (NT (CT (RG ?_)))
    refine RR [] .z (.i 7 (.string (ByteArray.mk #[41])) (.i 6 (.string (ByteArray.mk #[40])) (.d (.d (.d (.k .a)))))) .a ?_
    refine RZ (NT (SQ (RG ?_)))
    refine RN [7] (.d (.d (.d (.d (.d .a))))) 17 (fun g2 => (.slice (some ⟨g2, 0, none⟩) 2 2)) (.i 13 (.pointer (some ⟨gw, 0, none⟩)) (.k (.d (.k .a)))) .a 9 [.string (mkS (t0 :: tr)), .string (ByteArray.mk #[40])] fun g2 => ?_
    refine wpr_ent (ent_turn (c := .blk g2 9 [.string (mkS (t0 :: tr)), .string (mkS [40])]) 8 (ro (some ⟨g2, 0, none⟩) ([t0 :: tr, [40]].map strV)) rfl (turn_rblk (two_str _ _)) rfl) ?_
    refine RCG (dst := some 18) (.d (.d (.k .a))) (wr_put_spec gw ad had aw cw bs (.pointer (some ⟨g, 0, none⟩)) (some ⟨g2, 0, none⟩) 2 [t0 :: tr, [40]] (by omega) (by simp) (by simp) (by simp; try (simp only [List.length_cons] at htl; omega))) (GO (GV (GJ [0, 0]) 6 view_ro) [1, 1, 0]) ?_
    rintro u _ ⟨a2, c2, rfl, rfl⟩
    obtain ⟨B1, hB1⟩ : ∃ B1, B1 = bs ++ [t0 :: tr, [40]].flatten := ⟨_, rfl⟩
    rw [← hB1]
    have hB1l : B1.length ≤ bs.length + 1048577 := by rw [hB1]; simp only [List.length_append, List.flatten_cons, List.flatten_nil, List.length_nil, List.length_cons] at htl ⊢; omega
    have hS : ∀ i, i ≤ cs.length → i ≤ 8 → (B1 ++ sepP f cs i).length ≤ B1.length + 8 * (tB d + 2) := fun i h1 h2 => by
      have h3 := sepP_len hf i h1
      have h4 : i * (tB d + 2) ≤ 8 * (tB d + 2) := Nat.mul_le_mul_right _ h2
      rw [List.length_append]; omega
    refine RZ (NT (SQ (SQ (RG ?_))))
    refine RR [7] .z (.i 22 (.int .i64 0) (.i 21 (.int .i64 (↑cs.length : Int)) (.i 20 (.slice oa cs.length oc) (.d (.d (.d (.k (.d (.k .a))))))))) .a ?_
    refine RZ (NT (BK ?_))
    refine wpc_loop (X := {y : Nat × Option Addr × Nat // y.1 ≤ cs.length ∧ y.1 ≤ 8}) (fun y => St.mk [(22, .int .i64 (y.1.1 : Int)), (21, .int .i64 cs.length), (20, .slice oa cs.length oc), (7, .string (mkS [41])), (0, .pointer (some ⟨gw, 0, none⟩)), (2, .int .i64 d)]
      [.blk gw 204 [.pointer (some ⟨gw, 0, none⟩), .slice y.1.2.1 (B1 ++ sepP f cs y.1.1).length y.1.2.2, .pointer (some ⟨g, 0, none⟩)], row 5 1 y.1.2.1 (B1 ++ sepP f cs y.1.1).length y.1.2.2 (u8s (B1 ++ sepP f cs y.1.1)), ro (some ⟨g, 0, none⟩) [.bool true, .int .i64 most, .int .i64 used, .slice a l.length c], ro a (l.flatMap objC), gBag l, gPow, ro oa (cs.flatMap valC)]) (fun y => cs.length - y.1.1) ⟨(0, a2, c2), Nat.zero_le _, Nat.zero_le _⟩ ?_ ?_
    · show Ent _ _ (St.mk _ [.blk gw 204 [.pointer (some ⟨gw, 0, none⟩), .slice a2 (B1 ++ []).length c2, .pointer (some ⟨g, 0, none⟩)], row 5 1 a2 (B1 ++ []).length c2 (u8s (B1 ++ [])), ro (some ⟨g, 0, none⟩) [.bool true, .int .i64 most, .int .i64 used, .slice a l.length c], ro a (l.flatMap objC), gBag l, gPow, ro oa (cs.flatMap valC)])
      rw [List.append_nil]
      exact Ent.trans (ent_fr (by kernel_rfl)) (ent_hp [0, 0, 0, 0, 0, 0, 0] rfl)
    rintro ⟨⟨i, a3, c3⟩, hi, hi8⟩
    dsimp only at hi hi8 ⊢
    have hSi := hS i hi hi8
    by_cases hlt : i < cs.length
    · refine wpc_fact (fun w h => ro_addr h 6 rfl (by rw [vals_len]; omega)) ?_
      rintro ⟨go, oo, rfl⟩
      have hvi := hVal cs[i] (List.getElem_mem hlt) gw (some ⟨gw, 0, none⟩)
      have hsc := sepP_succ f cs i hlt
      have hfi := hf cs[i] (List.getElem_mem hlt)
      obtain ⟨S, hSe⟩ : ∃ S, S = B1 ++ sepP f cs i := ⟨_, rfl⟩
      rw [← hSe] at hSi ⊢
      have hS2 : (S ++ [44, 32]).length = S.length + 2 := by simp
      have hS3 : (S ++ [44, 32] ++ [46, 46, 46]).length = S.length + 5 := by simp
      by_cases h0 : i = 0
      · have hT : S ++ f cs[i] = B1 ++ sepP f cs (i + 1) := by rw [hsc, if_pos h0, hSe]; simp
        have hvc := hvi a3 c3 S (.inr rfl) (by omega)
        unfold valV at hvc
        refine SQ (RG ?_)
        refine RR [] .z (.i 23 (.bool (decide ((↑i : Int) < (↑cs.length : Int)))) .a) .a ?_
        refine RZ (NT (SQ ?_))
        refine SC 23 (decide ((↑i : Int) < (↑cs.length : Int))) true (decide_eq_true (by omega)) ?_
        refine CT (SK (NT (SQ (BK (SQ (RG ?_))))))
        refine RV true [] (.d (.d .a)) (.i 25 (.pointer (some ⟨go, oo + i * 3, none⟩)) (.i 24 (.int .i64 (↑i : Int)) (.d (.d (.k .a))))) .a [(0 : Int) ≤ (↑i : Int) ∧ (↑i : Int) < (↑cs.length : Int)] ⟨by omega, trivial⟩ ?_
        refine wpr_eq (ld (t := 94) (a := ⟨go, oo + i * 3, none⟩) (dst := some 26) (by kernel_rfl) true 3 (by kernel_rfl) (by simp) (valC cs[i]) rfl (fun w h => ld_ro h 6 rfl (i * 3) (vals_at hlt))) ?_
        refine RP [] (.d .a) 9 (.i 26 (.agg #[.int .i64 cs[i].k, .int .i64 cs[i].n, .string (mkS cs[i].s)]) (.d (.d (.k .a)))) .a 94 [.int .i64 0, .int .i64 0, .string ⟨#[]⟩] fun g3 => ?_
        refine RR [7, 7, 7] .z (.i 8 (.int .i64 (↑i : Int)) (.k (.d (.d (.k .a))))) (.k (.k (.k (.k (.k (.k (.k (.u (.i (.int .i64 cs[i].k) (.i (.int .i64 cs[i].n) (.i (.string (mkS cs[i].s)) .z))) .a)))))))) ?_
        refine RZ (NT (SQ (SQ (RG ?_))))
        refine RR [] .z (.i 28 (.bool (decide ((↑i : Int) > (0 : Int)))) .a) .a ?_
        refine RZ (NT ?_)
        refine SC 28 (decide ((↑i : Int) > (0 : Int))) false (decide_eq_false (by omega)) ?_
        refine CF (SK (NT (SQ (SQ (RG ?_)))))
        refine RR [] .z (.i 33 (.bool ((↑i : Int) == (8 : Int))) (.d (.d (.d (.k .a))))) .a ?_
        refine RZ (NT ?_)
        refine SC 33 ((↑i : Int) == (8 : Int)) false (by simp only [bne_eq_false_iff_eq, beq_eq_false_iff_ne, ne_eq]; omega) ?_
        refine CF (SK (NT (RG ?_)))
        refine RR [7, 7, 7] (.d (.d (.d .a))) (.i 39 (.int .i64 (↑d : Int)) (.i 38 (.agg #[.int .i64 cs[i].k, .int .i64 cs[i].n, .string (mkS cs[i].s)]) (.i 37 (.pointer (some ⟨gw, 0, none⟩)) (.d (.d (.d (.k .a))))))) .a ?_
        refine RCG (dst := some 40) (.d (.d (.k .a))) (hvc) (GO (GV (GV (GV (GV (GJ [0, 0]) 3 view_gPow) 2 view_self) 1 view_ro) 0 view_ro) [4, 4, 0, 0, 0, 0]) ?_
        rintro u _ ⟨a4, c4, rfl, rfl⟩
        rw [hT]
        refine RZ (BN (NT (RG ?_)))
        refine RV true [] .z (.i 22 (.int .i64 ((↑i : Int) + 1)) (.d (.d (.d (.d (.d (.k .a))))))) .a ([inI64 ((↑i : Int) + (1 : Int))]) ⟨by unfold inI64; omega, trivial⟩ ?_
        refine RZ ?_
        exact fun a' w' hS' => ⟨⟨(i + 1, a4, c4), hlt, by omega⟩, by dsimp only; omega, ent_fr (by kernel_rfl) _ _ (ent_hp [0, 0, 0, 0, 0, 0, 0] rfl _ _ hS')⟩
      · have hvc := fun a c => hvi a c (S ++ [44, 32]) (.inr rfl) (by omega)
        unfold valV at hvc
        have hT : S ++ [44, 32] ++ f cs[i] = B1 ++ sepP f cs (i + 1) := by rw [hsc, if_neg h0, hSe]; simp
        by_cases h8 : i = 8
        · refine SQ (RG ?_)
          refine RR [] .z (.i 23 (.bool (decide ((↑i : Int) < (↑cs.length : Int)))) .a) .a ?_
          refine RZ (NT (SQ ?_))
          refine SC 23 (decide ((↑i : Int) < (↑cs.length : Int))) true (decide_eq_true (by omega)) ?_
          refine CT (SK (NT (SQ (BK (SQ (RG ?_))))))
          refine RV true [] (.d (.d .a)) (.i 25 (.pointer (some ⟨go, oo + i * 3, none⟩)) (.i 24 (.int .i64 (↑i : Int)) (.d (.d (.k .a))))) .a [(0 : Int) ≤ (↑i : Int) ∧ (↑i : Int) < (↑cs.length : Int)] ⟨by omega, trivial⟩ ?_
          refine wpr_eq (ld (t := 94) (a := ⟨go, oo + i * 3, none⟩) (dst := some 26) (by kernel_rfl) true 3 (by kernel_rfl) (by simp) (valC cs[i]) rfl (fun w h => ld_ro h 6 rfl (i * 3) (vals_at hlt))) ?_
          refine RP [] (.d .a) 9 (.i 26 (.agg #[.int .i64 cs[i].k, .int .i64 cs[i].n, .string (mkS cs[i].s)]) (.d (.d (.k .a)))) .a 94 [.int .i64 0, .int .i64 0, .string ⟨#[]⟩] fun g3 => ?_
          refine RR [7, 7, 7] .z (.i 8 (.int .i64 (↑i : Int)) (.k (.d (.d (.k .a))))) (.k (.k (.k (.k (.k (.k (.k (.u (.i (.int .i64 cs[i].k) (.i (.int .i64 cs[i].n) (.i (.string (mkS cs[i].s)) .z))) .a)))))))) ?_
          refine RZ (NT (SQ (SQ (RG ?_))))
          refine RR [] .z (.i 28 (.bool (decide ((↑i : Int) > (0 : Int)))) .a) .a ?_
          refine RZ (NT ?_)
          refine SC 28 (decide ((↑i : Int) > (0 : Int))) true (decide_eq_true (by omega)) ?_
          refine CT (RG ?_)
          refine RN [] (.d (.d .a)) 30 (fun g4 => (.slice (some ⟨g4, 0, none⟩) 1 1)) (.i 29 (.pointer (some ⟨gw, 0, none⟩)) (.d (.d (.k .a)))) .a 9 [.string (ByteArray.mk #[44, 32])] fun g4 => ?_
          refine wpr_ent (ent_turn (c := .blk g4 9 [.string (mkS [44, 32])]) 8 (ro (some ⟨g4, 0, none⟩) ([[44, 32]].map strV)) rfl (turn_rblk (one_str _)) rfl) ?_
          refine RCG (dst := some 31) (.d (.d (.k .a))) (hput (some ⟨gw, 0, none⟩) (.inr rfl) a3 c3 (S) (some ⟨g4, 0, none⟩) [44, 32] (by omega) (by simp)) (GO (GV (GJ [0, 0]) 6 view_ro) [1, 1, 0]) ?_
          rintro u _ ⟨xa, xc, rfl, rfl⟩
          refine RZ (NT (SQ (SQ (RG ?_))))
          refine RR [] .z (.i 33 (.bool ((↑i : Int) == (8 : Int))) (.d (.d (.d (.d (.k .a)))))) .a ?_
          refine RZ (NT ?_)
          refine SC 33 ((↑i : Int) == (8 : Int)) true (by simp only [bne_iff_ne, beq_iff_eq, ne_eq]; omega) ?_
          refine CT (SQ (RG ?_))
          refine RN [] (.d (.d .a)) 35 (fun g5 => (.slice (some ⟨g5, 0, none⟩) 1 1)) (.i 34 (.pointer (some ⟨gw, 0, none⟩)) (.d (.d (.k .a)))) .a 9 [.string (ByteArray.mk #[46, 46, 46])] fun g5 => ?_
          refine wpr_ent (ent_turn (c := .blk g5 9 [.string (mkS [46, 46, 46])]) 9 (ro (some ⟨g5, 0, none⟩) ([[46, 46, 46]].map strV)) rfl (turn_rblk (one_str _)) rfl) ?_
          refine RCG (dst := some 36) (.d (.d (.k .a))) (hput (some ⟨gw, 0, none⟩) (.inr rfl) xa xc (S ++ [44, 32]) (some ⟨g5, 0, none⟩) [46, 46, 46] (by omega) (by simp)) (GO (GV (GJ [0, 0]) 7 view_ro) [1, 1, 0]) ?_
          rintro u _ ⟨ya, yc, rfl, rfl⟩
          refine RZ (NT (EX (TE (BF (TE (TE (BH (NT (RG ?_)))))))))
          refine RN [] (.d (.d (.d .a))) 44 (fun g6 => (.slice (some ⟨g6, 0, none⟩) 1 1)) (.i 42 (.pointer (some ⟨gw, 0, none⟩)) .z) .a 9 [.string (mkS [41])] fun g6 => ?_
          refine wpr_ent (ent_turn (c := .blk g6 9 [.string (mkS [41])]) 10 (ro (some ⟨g6, 0, none⟩) ([[41]].map strV)) rfl (turn_rblk (one_str _)) rfl) ?_
          refine RCG (dst := some 45) (.d (.d (.k .a))) (hput (some ⟨gw, 0, none⟩) (.inr rfl) ya yc (S ++ [44, 32] ++ [46, 46, 46]) (some ⟨g6, 0, none⟩) [41] (by omega) (by simp)) (GO (GV (GJ [0, 0]) 8 view_ro) [1, 1, 0]) ?_
          rintro u _ ⟨za, zc, rfl, rfl⟩
          refine RZ ?_
          refine NE [0, 0] (.k (.k .z)) (.d (.d (.k .a))) [] (.tuple #[]) ?_
          have hfin : S ++ [44, 32] ++ [46, 46, 46] ++ [41] = bs ++ (t0 :: tr ++ [40] ++ cellsT f cs ++ [41]) := by
            rw [hSe, hB1, h8]; unfold cellsT; rw [if_pos (by omega)]; simp
          rw [hfin]
          exact ⟨za, zc, rfl, rfl⟩
        · refine SQ (RG ?_)
          refine RR [] .z (.i 23 (.bool (decide ((↑i : Int) < (↑cs.length : Int)))) .a) .a ?_
          refine RZ (NT (SQ ?_))
          refine SC 23 (decide ((↑i : Int) < (↑cs.length : Int))) true (decide_eq_true (by omega)) ?_
          refine CT (SK (NT (SQ (BK (SQ (RG ?_))))))
          refine RV true [] (.d (.d .a)) (.i 25 (.pointer (some ⟨go, oo + i * 3, none⟩)) (.i 24 (.int .i64 (↑i : Int)) (.d (.d (.k .a))))) .a [(0 : Int) ≤ (↑i : Int) ∧ (↑i : Int) < (↑cs.length : Int)] ⟨by omega, trivial⟩ ?_
          refine wpr_eq (ld (t := 94) (a := ⟨go, oo + i * 3, none⟩) (dst := some 26) (by kernel_rfl) true 3 (by kernel_rfl) (by simp) (valC cs[i]) rfl (fun w h => ld_ro h 6 rfl (i * 3) (vals_at hlt))) ?_
          refine RP [] (.d .a) 9 (.i 26 (.agg #[.int .i64 cs[i].k, .int .i64 cs[i].n, .string (mkS cs[i].s)]) (.d (.d (.k .a)))) .a 94 [.int .i64 0, .int .i64 0, .string ⟨#[]⟩] fun g3 => ?_
          refine RR [7, 7, 7] .z (.i 8 (.int .i64 (↑i : Int)) (.k (.d (.d (.k .a))))) (.k (.k (.k (.k (.k (.k (.k (.u (.i (.int .i64 cs[i].k) (.i (.int .i64 cs[i].n) (.i (.string (mkS cs[i].s)) .z))) .a)))))))) ?_
          refine RZ (NT (SQ (SQ (RG ?_))))
          refine RR [] .z (.i 28 (.bool (decide ((↑i : Int) > (0 : Int)))) .a) .a ?_
          refine RZ (NT ?_)
          refine SC 28 (decide ((↑i : Int) > (0 : Int))) true (decide_eq_true (by omega)) ?_
          refine CT (RG ?_)
          refine RN [] (.d (.d .a)) 30 (fun g4 => (.slice (some ⟨g4, 0, none⟩) 1 1)) (.i 29 (.pointer (some ⟨gw, 0, none⟩)) (.d (.d (.k .a)))) .a 9 [.string (ByteArray.mk #[44, 32])] fun g4 => ?_
          refine wpr_ent (ent_turn (c := .blk g4 9 [.string (mkS [44, 32])]) 8 (ro (some ⟨g4, 0, none⟩) ([[44, 32]].map strV)) rfl (turn_rblk (one_str _)) rfl) ?_
          refine RCG (dst := some 31) (.d (.d (.k .a))) (hput (some ⟨gw, 0, none⟩) (.inr rfl) a3 c3 (S) (some ⟨g4, 0, none⟩) [44, 32] (by omega) (by simp)) (GO (GV (GJ [0, 0]) 6 view_ro) [1, 1, 0]) ?_
          rintro u _ ⟨xa, xc, rfl, rfl⟩
          refine RZ (NT (SQ (SQ (RG ?_))))
          refine RR [] .z (.i 33 (.bool ((↑i : Int) == (8 : Int))) (.d (.d (.d (.d (.k .a)))))) .a ?_
          refine RZ (NT ?_)
          refine SC 33 ((↑i : Int) == (8 : Int)) false (by simp only [bne_eq_false_iff_eq, beq_eq_false_iff_ne, ne_eq]; omega) ?_
          refine CF (SK (NT (RG ?_)))
          refine RR [7, 7, 7] (.d (.d (.d .a))) (.i 39 (.int .i64 (↑d : Int)) (.i 38 (.agg #[.int .i64 cs[i].k, .int .i64 cs[i].n, .string (mkS cs[i].s)]) (.i 37 (.pointer (some ⟨gw, 0, none⟩)) (.d (.d (.d (.k .a))))))) .a ?_
          refine RCG (dst := some 40) (.d (.d (.k .a))) (hvc xa xc) (GO (GV (GV (GV (GV (GJ [0, 0]) 3 view_gPow) 2 view_self) 1 view_ro) 0 view_ro) [4, 4, 0, 0, 0, 0]) ?_
          rintro u _ ⟨a4, c4, rfl, rfl⟩
          rw [hT]
          refine RZ (BN (NT (RG ?_)))
          refine RV true [] .z (.i 22 (.int .i64 ((↑i : Int) + 1)) (.d (.d (.d (.d (.d (.k .a))))))) .a ([inI64 ((↑i : Int) + (1 : Int))]) ⟨by unfold inI64; omega, trivial⟩ ?_
          refine RZ ?_
          exact fun a' w' hS' => ⟨⟨(i + 1, a4, c4), hlt, by omega⟩, by dsimp only; omega, ent_fr (by kernel_rfl) _ _ (ent_hp [0, 0, 0, 0, 0, 0, 0] rfl _ _ hS')⟩
    · obtain rfl : i = cs.length := by omega
      refine SQ (RG ?_)
      refine RR [] .z (.i 23 (.bool (decide ((↑cs.length : Int) < (↑cs.length : Int)))) .a) .a ?_
      refine RZ (NT (SQ ?_))
      refine SC 23 (decide ((↑cs.length : Int) < (↑cs.length : Int))) false (by simp) ?_
      refine CF (EX (TE (TE (BH (NT (RG ?_))))))
      refine RN [] (.d (.d (.d .a))) 44 (fun g3 => (.slice (some ⟨g3, 0, none⟩) 1 1)) (.i 42 (.pointer (some ⟨gw, 0, none⟩)) .z) .a 9 [.string (mkS [41])] fun g3 => ?_
      refine wpr_ent (ent_turn (c := .blk g3 9 [.string (mkS [41])]) 7 (ro (some ⟨g3, 0, none⟩) ([[41]].map strV)) rfl (turn_rblk (one_str _)) rfl) ?_
      refine RCG (dst := some 45) (.d (.d (.k .a))) (hput (some ⟨gw, 0, none⟩) (.inr rfl) a3 c3 (B1 ++ sepP f cs cs.length) (some ⟨g3, 0, none⟩) [41] (by omega) (by simp)) (GO (GV (GJ [0, 0]) 5 view_ro) [1, 1, 0]) ?_
      rintro u _ ⟨za, zc, rfl, rfl⟩
      refine RZ ?_
      refine NE [0, 0] (.k (.k .z)) (.d (.d (.k .a))) [] (.tuple #[]) ?_
      have hfin : B1 ++ sepP f cs cs.length ++ [41] = bs ++ (t0 :: tr ++ [40] ++ cellsT f cs ++ [41]) := by
        rw [hB1]; unfold cellsT; rw [if_neg (by omega)]; simp
      rw [hfin]
      exact ⟨za, zc, rfl, rfl⟩
end Go.Proofs.YtgcfomhlgipllaaGreatDoor
namespace Go.Proofs.YtgcfomhlgipllaaGreatDoor
open Go Go.Sx
theorem value_succ (g : Nat) (most : Int) (used : Nat) (a : Option Addr) (c : Nat) (l : List Ob) (d : Nat) (hd9 : d ≤ 9) (hl4 : l.length ≤ 4096) (hV : ∀ v, showV l.length v → ValS g most used a c l d v) (hL : okHeap (l.map Ob.o)) (v : V) (hv : showV l.length v) (hk : v.k = 4) : ValS g most used a c l (d + 1) v := by
  intro gw ad aw cw bs had hb
  obtain ⟨hs, hi, hr⟩ := hv
  obtain ⟨hn0, hnl⟩ := right_ref hr hk
  have hq : v.n.toNat < l.length := by omega
  have hok := hL (l[v.n.toNat].o) (List.mem_map.2 ⟨_, List.getElem_mem hq, rfl⟩)
  rw [List.length_map] at hok
  have hw := wobj_spec g most used a c l d hV hL l[v.n.toNat].tag l[v.n.toNat].cells l[v.n.toNat].a l[v.n.toNat].c hok.1 hok.2.1 hok.2.2 gw ad aw cw bs had hb
  have htx : txt (l.map Ob.o) (d + 1) v = objT (txt (l.map Ob.o) d) (l[v.n.toNat].tag, l[v.n.toNat].cells) := by
    rw [txt_k, if_neg (by omega), if_neg (by omega), if_neg (by omega), if_neg (by omega)]
    show objT _ (objAt _ _) = _
    rw [objAt_map hq]; rfl
  rw [htx]
  unfold wrH hctx at hw ⊢
  simp only [List.cons_append, List.nil_append] at hw ⊢
  unfold valV
  rw [hk]
  refine fn_enter Tryz.func124 rfl 67 rfl fun w0 h0 => ?_
  refine SQ (RG ?_)
  refine RP [] .z 4 (.k (.d (.k .a))) .a 94 [.int .i64 4, .int .i64 (V.n v), .string (mkS (V.s v))] fun g1 => ?_
  refine RZ (NT (SQ (RG ?_)))
  refine RR [6] .z (.i 9 (.int .i64 4) .a) .a ?_
  refine RZ (NT (BK (SQ (RG ?_))))
  refine RR [] .z (.i 10 (.bool false) .a) .a ?_
  refine RZ (NT (CF (SQ (RG ?_))))
  refine RR [] .z (.i 15 (.bool false) (.d (.k .a))) .a ?_
  refine RZ (NT (CF (SQ (RG ?_))))
  refine RR [] .z (.i 23 (.bool false) (.d (.k .a))) .a ?_
  refine RZ (NT (CF (SQ (RG ?_))))
  refine RR [] .z (.i 32 (.bool false) (.d (.k .a))) .a ?_
  refine RZ (NT (CF (SQ (RG ?_))))
  refine RR [] .z (.i 45 (.bool true) (.d (.d (.k .a)))) .a ?_
  refine RZ (NT (CT (SQ (SQ (RG ?_)))))
  refine RR [] .z (.i 48 (.bool false) (.d (.k .a))) .a ?_
  refine RZ (NT (CF (SK (NT ?_))))
  refine wpc_fact (fun w h => ro_addr h 3 rfl (by rw [objs_len]; omega)) ?_
  rintro ⟨g0, o0, rfl⟩
  refine wpc_ent (ent_copy 4 (ro l[v.n.toNat].a (l[v.n.toNat].cells.flatMap valC)) rfl (fun h => h) (view_in (obRo_in hq) view_ro)) ?_
  have hdd : ((d + 1 : Nat) : Int) - 1 = d := by omega
  rw [← hdd] at hw
  refine wpc_draw (by kernel_rfl) [ro (some ⟨g, 0, none⟩) [.bool true, .int .i64 most, .int .i64 (↑used : Int), .slice (some ⟨g0, o0, none⟩) (List.length l) c], ro (some ⟨g0, o0, none⟩) (List.flatMap objC l), .blk g1 94 [.int .i64 4, .int .i64 (V.n v), .string (mkS (V.s v))]] (sub_of [3, 4, 7] (by kernel_rfl)) 15 (by kernel_rfl) ?_
  refine wpa_take true [(0, []), (1, []), (2, []), (3, []), (8, []), (9, [2]), (12, []), (13, [])] ([(65, .int .i64 ((↑(d + 1) : Int) - 1)), (61, .int .i64 (V.n v)), (55, .pointer (some ⟨gw, 2, none⟩)), (52, .pointer (some ⟨gw, 0, none⟩))]) (#[true, true, true, true, false, false, false, false, true, true, false, false, true, true, false]) ([inI64 ((↑(d + (1 : Nat)) : Int) - (1 : Int))]) (n := 7) (by kernel_rfl) (by kernel_rfl) (by kernel_rfl) ⟨by unfold inI64; omega, trivial⟩ ?_
  refine AO 6 4 [1] (.i 56 (.pointer (some ⟨g, 0, none⟩)) (.k (.k (.d (.k .a))))) .a [3, 4, 7] ?_
  refine TK 4 [(5, []), (6, [])] (.i 58 (.pointer (some ⟨g, 3, none⟩)) (.d (.k .a))) (#[true, true, true, true, true, true, true, false, true, true, false, false, true, true, false]) ?_
  refine wpa_qld (i := 7) (n := 3) (by kernel_rfl) (by kernel_rfl) (by kernel_rfl) (t := 80) (a := ⟨g, 3, none⟩) (dst := some 59) (by kernel_rfl) false 1 (by kernel_rfl) (by simp) [.slice (some ⟨g0, o0, none⟩) l.length c] rfl (fun w h => ld_roL h 0 rfl 3 rfl) ?_
  refine wpa_take true [(10, [])] ([(62, .pointer (some (Addr.mk g0 (o0 + Int.toNat (V.n v) * 2) none))), (65, .int .i64 ((↑(d + 1) : Int) - 1)), (52, .pointer (some ⟨gw, 0, none⟩))]) (#[true, true, true, true, true, true, true, true, true, true, true, false, true, true, false]) [(0 : Int) ≤ V.n v ∧ V.n v < (↑(List.length l) : Int)] (n := 2) (by kernel_rfl) (by kernel_rfl) (by kernel_rfl) ⟨by omega, trivial⟩ ?_
  refine wpa_qld (i := 11) (n := 1) (by kernel_rfl) (by kernel_rfl) (by kernel_rfl) (t := 83) (a := (Addr.mk g0 (o0 + Int.toNat (V.n v) * 2) none)) (dst := some 63) (by kernel_rfl) true 2 (by kernel_rfl) (by simp) [.string (mkS l[v.n.toNat].tag), .slice l[v.n.toNat].a l[v.n.toNat].cells.length l[v.n.toNat].c] rfl (fun w h => ld_roL h 1 rfl (v.n.toNat * 2) (objs_at hq)) ?_
  refine AC (dst := some 66) 0 14 (.k (.d (.d (.k .a)))) (hw) (GO (GV (GV (GV (GV (GV (GJ [1, 1]) 0 view_ro) 4 view_gPow) 3 view_self) 2 view_ro) 1 view_ro) [5, 5, 0, 0, 0, 0, 0]) [1, 2, 5] ?_
  rintro u _ ⟨a2, c2, rfl, rfl⟩
  refine wpa_done 0 (by kernel_rfl) ?_
  refine BN ?_
  refine NE [0, 0] (.k (.k .z)) (.d (.d (.k .a))) [] (.tuple #[]) ?_
  exact ⟨a2, c2, rfl, rfl⟩
theorem value_spec (g : Nat) (most : Int) (used : Nat) (a : Option Addr) (c : Nat) (l : List Ob) (hl4 : l.length ≤ 4096) (hL : okHeap (l.map Ob.o)) : ∀ d, d ≤ 3 → ∀ v, showV l.length v → ValS g most used a c l d v
  | 0, _, v, hv => by
    by_cases hk : v.k = 4
    · exact value_zero g most used a c l v hk
    · exact value_low g most used a c l 0 v hv hk
  | d + 1, hd, v, hv => by
    by_cases hk : v.k = 4
    · exact value_succ g most used a c l d (by omega) hl4 (value_spec g most used a c l hl4 hL d (by omega)) hL v hv hk
    · exact value_low g most used a c l (d + 1) v hv hk
def cutT (s : List UInt8) : List UInt8 := if 200 < s.length then s.take 197 ++ [46, 46, 46] else s
def showT (L : List O) (v : V) : List UInt8 := if rightB v L.length then cutT (txt L 2 v) else []
theorem txt_ne' {T : List UInt8} (h : 0 < T.length) : T ≠ [] := fun e => by rw [e] at h; cases h
theorem itoa_pos (n : Int) : 0 < (Lib.itoa n).length := by
  have hd : ∀ m : Nat, 0 < (Lib.decDigits m).length := fun m => by
    rw [Lib.decDigits]; split <;> simp
  unfold Lib.itoa
  split
  · simp
  · exact hd _
theorem txt_pos {L : List O} {d : Nat} {v : V} : 0 < (txt L d v).length := by
  rw [txt_k]
  split
  · simp
  split
  · exact itoa_pos _
  split
  · split <;> simp
  split
  · simp [quoL]
  · cases d with
    | zero => simp
    | succ d => show 0 < (objT _ _).length; unfold objT; split <;> simp <;> omega
theorem Show_spec (g : Nat) (most : Int) (used : Nat) (a : Option Addr) (c : Nat) (l : List Ob) (hl4 : l.length ≤ 4096) (hL : okHeap (l.map Ob.o)) (v : V) (hs : v.sm) (hi : v.i64) :
    Does Tryz.prog 74 [.pointer (some ⟨g, 0, none⟩), valV v] [ro (some ⟨g, 0, none⟩) [.bool true, .int .i64 most, .int .i64 used, .slice a l.length c], ro a (l.flatMap objC), gBag l, gPow]
    (fun u hp' => u = .string (mkS (showT (l.map Ob.o) v)) ∧ hp' = []) := by
  have hck := Check_spec v l.length hs
  unfold showT
  rw [List.length_map]
  refine fn_enter Tryz.func74 rfl 37 rfl fun w0 h0 => ?_
  refine SQ (RG ?_)
  refine RP [] (.d .a) 3 (.k .z) .a 94 [.int .i64 (V.k v), .int .i64 (V.n v), .string (mkS (V.s v))] fun g1 => ?_
  refine RR [] .z (.i 4 (.string ⟨#[]⟩) .a) .a ?_
  refine RZ (NT (SQ (SQ ?_)))
  refine wpc_draw (by kernel_rfl) [ro (some ⟨g, 0, none⟩) [.bool true, .int .i64 most, .int .i64 (↑used : Int), .slice a (List.length l) c], .blk g1 94 [.int .i64 (V.k v), .int .i64 (V.n v), .string (mkS (V.s v))]] (sub_of [0, 4] (by kernel_rfl)) 13 (by kernel_rfl) ?_
  refine TK 12 [(0, [])] (.i 7 (.pointer (some ⟨g, 0, none⟩)) .a) (#[true, false, false, false, false, false, false, false, false, false, false, false, false]) ?_
  refine AC (dst := some 8) 11 1 .a (isRo_spec g (.int .i64 most) (.int .i64 used) (.slice a l.length c)) (GV (GI []) 0 view_ro) [0, 4] ?_
  rintro u _ ⟨rfl, rfl⟩
  refine TK 5 [(2, []), (3, []), (4, [1, 1, 1]), (5, []), (6, []), (7, [])] (.i 14 (.pointer (some ⟨g, 3, none⟩)) (.i 11 (.agg #[.int .i64 (V.k v), .int .i64 (V.n v), .string (mkS (V.s v))]) (.i 10 (.bool false) (.d (.d (.k .a)))))) (#[true, true, true, true, true, true, true, true, false, false, false, false, false]) ?_
  refine wpa_qld (i := 8) (n := 4) (by kernel_rfl) (by kernel_rfl) (by kernel_rfl) (t := 80) (a := ⟨g, 3, none⟩) (dst := some 15) (by kernel_rfl) false 1 (by kernel_rfl) (by simp) [.slice a l.length c] rfl (fun w h => ld_roL h 0 rfl 3 rfl) ?_
  refine TK 3 [(9, [])] (.i 16 (.int .i64 (↑(List.length l) : Int)) (.d (.d (.k .a)))) (#[true, true, true, true, true, true, true, true, true, true, false, false, false]) ?_
  refine AC (dst := some 17) 2 10 .a (hck) (GI []) [0, 4] ?_
  rintro u _ ⟨rfl, rfl⟩
  cases hr : rightB v l.length with
  | false =>
    refine TK 0 [(11, []), (12, [])] (.i 19 (.bool true) (.d (.d (.d (.d (.k .a)))))) (#[true, true, true, true, true, true, true, true, true, true, true, true, true]) ?_
    refine wpa_done 0 (by kernel_rfl) ?_
    refine NT (CT (SQ (RG ?_)))
    refine RR [] .z (.d (.k .a)) .a ?_
    refine RZ (NT (RE (TR ?_)))
    refine NE [] .z .a [] (.string ⟨#[]⟩) ?_
    exact ⟨rfl, rfl⟩
  | true =>
    have hval := fun gw => value_spec g most used a c l hl4 hL 2 (by omega) v ⟨hs, hi, hr⟩ gw none none 0 [] (.inl rfl) (by simp [tB])
    unfold wrH hctx valV at hval
    simp only [List.cons_append, List.nil_append] at hval
    obtain ⟨T, hT⟩ : ∃ T, T = txt (l.map Ob.o) 2 v := ⟨_, rfl⟩
    have hpos : 0 < T.length := by rw [hT]; exact txt_pos
    have hlen : T.length ≤ 200000000 := by
      rw [hT]
      have := txt_len hL 2 v ⟨hs, hi, by rw [List.length_map]; exact hr⟩
      simp only [tB] at this; omega
    have hTs : (mkS T).size = T.length := mkS_size _
    rw [← hT] at hval ⊢
    refine TK 0 [(11, []), (12, [])] (.i 19 (.bool false) (.d (.d (.d (.d (.k .a)))))) (#[true, true, true, true, true, true, true, true, true, true, true, true, true]) ?_
    refine wpa_done 0 (by kernel_rfl) ?_
    refine NT (CF (SK (NT (SQ (RG ?_)))))
    refine RP [] (.d (.d (.d .a))) 22 (.d (.k (.k .z))) .a 204 [.pointer none, .slice none 0 0, .pointer (some ⟨g, 0, none⟩)] fun g2 => ?_
    refine RR [] .z (.i 5 (.pointer (some ⟨g2, 0, none⟩)) (.d (.k .a))) .a ?_
    refine RZ (NT (SQ (RG ?_)))
    refine RR [4, 4, 4] (.d (.d .a)) (.i 24 (.agg #[.int .i64 (V.k v), .int .i64 (V.n v), .string (mkS (V.s v))]) (.i 23 (.pointer (some ⟨g2, 0, none⟩)) (.k (.k .z)))) .a ?_
    refine wpr_ent (ent_nil 5 1) ?_
    refine RCG (dst := some 25) (.d (.k (.k (.k (.k (.k .z)))))) (hval g2) (GO (GV (GV (GV (GV (GJ [6, 0]) 3 view_gPow) 2 view_self) 1 view_ro) 0 view_ro) [4, 4, 0, 0, 0, 0]) ?_
    rintro u _ ⟨a2, c2, rfl, rfl⟩
    refine RZ (NT (SQ (RG ?_)))
    refine RR [] (.d (.d (.d .a))) (.i 28 (.pointer (some ⟨g2, 0, none⟩)) (.d (.d (.d (.d (.k .a)))))) .a ?_
    refine RC (dst := some 29) [0, 0] (.d (.d (.k .a))) (BString_spec g2 (.pointer (some ⟨g2, 0, none⟩)) a2 c2 T (.pointer (some ⟨g, 0, none⟩)) (txt_ne' hpos)) ?_
    rintro u _ ⟨rfl, rfl⟩
    have hs46 : (ByteArray.mk #[46, 46, 46]).size = 3 := rfl
    have hs47 : (mkS (List.take (Int.toNat (197 - 0)) (List.drop (Int.toNat 0) T))).size ≤ 197 := by rw [mkS_size]; exact List.length_take_le _ _
    have hs48 : (List.take (Int.toNat (197 - 0)) (List.drop (Int.toNat 0) T)).length ≤ 197 := List.length_take_le _ _
    by_cases h200 : 200 < T.length
    · refine RR [] .z (.i 6 (.string (mkS T)) (.d (.d (.k .a)))) .a ?_
      refine RZ (NT (SQ (SQ (RG ?_))))
      refine RR [] .z (.i 32 (.bool (decide ((↑(List.length T) : Int) > (200 : Int)))) .a) .a ?_
      refine RZ (NT ?_)
      refine SC 32 (decide ((↑(List.length T) : Int) > (200 : Int))) true (decide_eq_true (by omega)) ?_
      refine CT (SQ (RG ?_))
      refine RV true [] .z (.i 4 (.string (mkS (List.take (Int.toNat (197 - 0)) (List.drop (Int.toNat 0) T) ++ [46, 46, 46]))) (.d (.d (.k .z)))) .a ([(0 : Int) ≤ (197 : Int) ∧ (197 : Int) ≤ (↑(List.length T) : Int), List.length (List.take (Int.toNat ((197 : Int) - (0 : Int))) (List.drop (Int.toNat (0 : Int)) T)) + ByteArray.size (ByteArray.mk #[(46 : UInt8), (46 : UInt8), (46 : UInt8)]) ≤ (9223372036854775807 : Nat)]) ⟨by omega, by omega, trivial⟩ ?_
      refine RZ (NT (RE (TR ?_)))
      refine NE [] .z .a [] (.string (mkS (List.take (Int.toNat (197 - 0)) (List.drop (Int.toNat 0) T) ++ [46, 46, 46]))) ?_
      refine ⟨?_, rfl⟩
      unfold cutT
      rw [if_pos rfl, if_pos h200]; rfl
    · refine RR [] .z (.i 6 (.string (mkS T)) (.d (.d (.k .a)))) .a ?_
      refine RZ (NT (SQ (SQ (RG ?_))))
      refine RR [] .z (.i 32 (.bool (decide ((↑(List.length T) : Int) > (200 : Int)))) .a) .a ?_
      refine RZ (NT ?_)
      refine SC 32 (decide ((↑(List.length T) : Int) > (200 : Int))) false (decide_eq_false (by omega)) ?_
      refine CF (SK (NT (SQ (RG ?_))))
      refine RR [] .z (.i 4 (.string (mkS T)) .z) .a ?_
      refine RZ (NT (RE ?_))
      refine NE [] .z .a [] (.string (mkS T)) ?_
      refine ⟨?_, rfl⟩
      unfold cutT
      rw [if_pos rfl, if_neg h200]
end Go.Proofs.YtgcfomhlgipllaaGreatDoor
namespace Go.Proofs.YtgcfomhlgipllaaGreatDoor
open Go Go.Sx
/-! What a debugger shows: the data, as they lie in memory, and the lines, as lists of bytes. -/
structure Bi where
  name : Tx
  v : V
def biC (b : Bi) : List Value := .string (mkS b.name) :: valC b.v
theorem biC_len (x : Bi) : (biC x).length = 4 := rfl
theorem bis_len (l : List Bi) : (l.flatMap biC).length = l.length * 4 := fm_len biC_len l
theorem bis_at {l : List Bi} {q : Nat} (hq : q < l.length) : ((l.flatMap biC).drop (q * 4)).take 4 = biC l[q] := fm_at biC_len hq
structure FrV where
  fn : Tx
  line : Int
  a : Option Addr
  c : Nat
  vars : List Bi
def frC (x : FrV) : List Value := [.string (mkS x.fn), .int .i64 x.line, .slice x.a x.vars.length x.c]
theorem frC_len (x : FrV) : (frC x).length = 3 := rfl
theorem frs_len (l : List FrV) : (l.flatMap frC).length = l.length * 3 := fm_len frC_len l
theorem frs_at {l : List FrV} {q : Nat} (hq : q < l.length) : ((l.flatMap frC).drop (q * 3)).take 3 = frC l[q] := fm_at frC_len hq
def frRo (x : FrV) : Ch := ro x.a (x.vars.flatMap biC)
def gFr (l : List FrV) : Ch := bag (l.map frRo)
theorem frRo_in {l : List FrV} {q : Nat} (hq : q < l.length) : ro l[q].a (l[q].vars.flatMap biC) ∈ l.map frRo := List.mem_map.2 ⟨l[q], List.getElem_mem hq, rfl⟩
structure SpV where
  id : Int
  line : Int
  cond : Tx
  watch : Tx
  off : Bool
def spC (x : SpV) : List Value := [.int .i64 x.id, .int .i64 x.line, .string (mkS x.cond), .string (mkS x.watch), .bool x.off]
theorem spC_len (x : SpV) : (spC x).length = 5 := rfl
theorem sps_len (l : List SpV) : (l.flatMap spC).length = l.length * 5 := fm_len spC_len l
theorem sps_at {l : List SpV} {q : Nat} (hq : q < l.length) : ((l.flatMap spC).drop (q * 5)).take 5 = spC l[q] := fm_at spC_len hq
structure ViV where
  pos : Int
  status : Int
  fault : Int
  fa : Option Addr
  fc : Nat
  frames : List FrV
  out : Tx
  sel : Int
  sa : Option Addr
  sc : Nat
  stops : List SpV
  err : Int
  n : Int
  says : Tx
def lkC (v : ViV) : List Value := [.int .i64 v.pos, .int .i64 v.status, .int .i64 v.fault, .slice v.fa v.frames.length v.fc, .string (mkS v.out)]
def viC (v : ViV) : List Value := [.int .i64 v.pos, .int .i64 v.status, .int .i64 v.fault, .slice v.fa v.frames.length v.fc, .string (mkS v.out), .int .i64 v.sel, .slice v.sa v.stops.length v.sc, .int .i64 v.err, .int .i64 v.n, .string (mkS v.says)]
def Bi.ok (b : Bi) : Prop := okText b.name ∧ b.v.sm ∧ b.v.i64
def FrV.ok (f : FrV) : Prop := okText f.fn ∧ i64r f.line ∧ f.vars.length ≤ 1048576 ∧ ∀ b ∈ f.vars, b.ok
def SpV.ok (s : SpV) : Prop := i64r s.id ∧ i64r s.line ∧ okText s.cond ∧ okText s.watch
def ViV.ok (v : ViV) : Prop := i64r v.pos ∧ i64r v.status ∧ i64r v.fault ∧ v.frames.length ≤ 1048576 ∧ (∀ f ∈ v.frames, f.ok) ∧ okText v.out ∧ i64r v.sel ∧ v.stops.length ≤ 1048576 ∧ (∀ s ∈ v.stops, s.ok) ∧ i64r v.err ∧ i64r v.n ∧ okText v.says
/-! ### the lines -/
def cleanB (b : UInt8) : UInt8 := if b < 32 ∨ 126 < b then 63 else b
def cleanT (t : Tx) : Tx := t.map cleanB
theorem cleanT_len (t : Tx) : (cleanT t).length = t.length := List.length_map ..
def cut2 (t : Tx) : Tx := if 200 < t.length then t.take 197 ++ [46, 46, 46] else t
def lineT (l : List Tx) : Tx := cut2 (cleanT l.flatten)
def faultT (n : Int) : Tx :=
  if n = 1 then [100, 105, 118, 105, 115, 105, 111, 110] else if n = 2 then [105, 110, 100, 101, 120] else if n = 3 then [115, 105, 122, 101] else if n = 4 then [116, 101, 120, 116] else if n = 5 then [105, 110, 112, 117, 116]
  else if n = 6 then [104, 101, 97, 112] else if n = 7 then [102, 114, 97, 109, 101, 115] else if n = 8 then [111, 117, 116, 112, 117, 116] else if n = 9 then [115, 116, 101, 112, 115] else if n = 10 then [107, 105, 110, 100] else []
theorem faultT_len (n : Int) : (faultT n).length ≤ 8 := by
  unfold faultT
  (repeat' split) <;> decide
def statusT (s f : Int) : Tx := if s = 0 then [32, 114, 117, 110, 110, 105, 110, 103] else if s = 1 then [32, 100, 111, 110, 101] else [32, 102, 97, 117, 108, 116, 32] ++ faultT f
def statusB (s f : Int) : Bool := if s = 0 then decide (f = 0) else if s = 1 then decide (f = 0) else decide (s = 2) && decide (faultT f ≠ [])
theorem statusT_len (s f : Int) : (statusT s f).length ≤ 15 := by
  have := faultT_len f
  unfold statusT
  split
  · decide
  · split
    · decide
    · simp only [List.length_append, List.length_cons, List.length_nil]; omega
def biT (L : List O) (b : Bi) : List Tx := [[32], b.name, [61], showT L b.v]
def frameT (L : List O) (mark : Tx) (f : FrV) : Tx := lineT ([mark, f.fn, [58], Lib.itoa f.line] ++ f.vars.flatMap (biT L))
def frameB (m : Nat) (f : FrV) : Bool := f.vars.all fun b => rightB b.v m
def stopL (s : SpV) : List Tx :=
  [[35], Lib.itoa s.id] ++ (if s.watch ≠ [] then [[32, 119, 97, 116, 99, 104, 32], s.watch] else if s.cond ≠ [] then [[32, 108, 105, 110, 101, 32], Lib.itoa s.line, [32, 105, 102, 32], s.cond] else [[32, 108, 105, 110, 101, 32], Lib.itoa s.line]) ++ (if s.off then [[32, 111, 102, 102]] else [])
def stopT (s : SpV) : Tx := lineT (stopL s)
def replyL (e n : Int) (says : Tx) : List Tx :=
  (if e ≠ 0 then [[101, 114, 114, 111, 114, 32], Lib.itoa e] else [[111, 107]]) ++ (if n ≠ 0 then [[32], Lib.itoa n] else []) ++ (if says ≠ [] then [[32], says] else [])
def replyT (e n : Int) (says : Tx) : Tx := lineT (replyL e n says)
def splitT : Tx → List Tx
  | [] => [[]]
  | b :: t => if b = 10 then [] :: splitT t else match splitT t with | [] => [[b]] | x :: r => (b :: x) :: r
def tailT (t : Tx) : List Tx := let l := (splitT t).dropLast; l.drop (l.length - 4)
def markT (i : Nat) (sel : Int) : Tx := if (i : Int) = sel then [62, 32] else [32, 32]
def framesT (L : List O) (sel : Int) (l : List FrV) : List Tx := (List.range l.length).map fun i => frameT L (markT i sel) (l.getD (l.length - 1 - i) ⟨[], 0, none, 0, []⟩)
def viewB (m : Nat) (v : ViV) : Bool := statusB v.status v.fault && v.frames.all (frameB m)
def linesT (L : List O) (v : ViV) : List Tx :=
  [lineT [[97, 116, 32], Lib.itoa v.pos, statusT v.status v.fault]] ++ framesT L v.sel v.frames ++ (tailT v.out).map (fun s => lineT [[124, 32], s]) ++ v.stops.map stopT ++ [replyT v.err v.n v.says]
end Go.Proofs.YtgcfomhlgipllaaGreatDoor
namespace Go.Proofs
open Go.Shelf
def Tryz.lays156_ren : Go.Shelf.Ren := ⟨fun | 156 => 82 | 165 => 129 | 166 => 130 | 169 => 125 | 240 => 167 | 241 => 168 | 276 => 194 | 277 => 195 | n => n, fun | 31 => 22 | 9 => 9 | 3 => 3 | 4 => 4 | 0 => 0 | 20 => 20 | 72 => 202 | 76 => 212 | 70 => 200 | 37 => 39 | 75 => 211 | 127 => 241 | 164 => 267 | 5 => 5 | 80 => 138 | n => n, fun | n => n⟩
theorem Tryz.lays156 : Go.Proofs.Lays.n156 Tryz.prog Tryz.lays156_ren := {
  mixed := by kernel_rfl
  f156 := Tryz.func82.trans (congrArg some (by kernel_rfl))
  f165 := Tryz.func129.trans (congrArg some (by kernel_rfl))
  f166 := Tryz.func130.trans (congrArg some (by kernel_rfl))
  f169 := Tryz.func125.trans (congrArg some (by kernel_rfl))
  f240 := Tryz.func167.trans (congrArg some (by kernel_rfl))
  f241 := Tryz.func168.trans (congrArg some (by kernel_rfl))
  f276 := Tryz.func194.trans (congrArg some (by kernel_rfl))
  f277 := Tryz.func195.trans (congrArg some (by kernel_rfl))
  t0 := Tryz.underlying0
  a0 := Tryz.isAgg0
  z0 := Tryz.sizeOf0
  v0 := Tryz.zeroValue0
  t3 := Tryz.underlying3
  a3 := Tryz.isAgg3
  z3 := Tryz.sizeOf3
  v3 := Tryz.zeroValue3
  t4 := Tryz.underlying4
  a4 := Tryz.isAgg4
  z4 := Tryz.sizeOf4
  v4 := Tryz.zeroValue4
  t9 := Tryz.underlying9
  a9 := Tryz.isAgg9
  z9 := Tryz.sizeOf9
  v9 := Tryz.zeroValue9
  t20 := Tryz.underlying20
  a20 := Tryz.isAgg20
  z20 := Tryz.sizeOf20
  v20 := Tryz.zeroValue20
  t31 := Tryz.underlying22
  a31 := Tryz.isAgg22
  z31 := Tryz.sizeOf22
  v31 := Tryz.zeroValue22
  t37 := Tryz.underlying39
  a37 := Tryz.isAgg39
  z37 := Tryz.sizeOf39
  v37 := Tryz.zeroValue39
  t70 := Tryz.underlying200
  a70 := Tryz.isAgg200
  z70 := Tryz.sizeOf200
  v70 := Tryz.zeroValue200
  t72 := Tryz.underlying202
  a72 := Tryz.isAgg202
  z72 := Tryz.sizeOf202
  v72 := Tryz.zeroValue202
  t75 := Tryz.underlying211
  a75 := Tryz.isAgg211
  z75 := Tryz.sizeOf211
  v75 := Tryz.zeroValue211
  t76 := Tryz.underlying212
  a76 := Tryz.isAgg212
  z76 := Tryz.sizeOf212
  v76 := Tryz.zeroValue212
  t127 := Tryz.underlying241
  a127 := Tryz.isAgg241
  z127 := Tryz.sizeOf241
  v127 := Tryz.zeroValue241
  t164 := Tryz.underlying267
  a164 := Tryz.isAgg267
  z164 := Tryz.sizeOf267
  v164 := Tryz.zeroValue267 }
theorem Tryz.Builder_Extra_156 : Builder.Extra Tryz.prog Tryz.lays156_ren := {
  sizeBuilder := by kernel_rfl
  liesBuilder := by kernel_rfl
  t5 := Tryz.underlying5
  a5 := Tryz.isAgg5
  z5 := Tryz.sizeOf5
  v5 := Tryz.zeroValue5
  infoByte := by kernel_rfl
  cellsByte := by kernel_rfl
  sizeByte := by kernel_rfl
  neB5 := by decide }
open Go.RowKit in
theorem Tryz.strings_Join_none (a : Option Addr) (c : Nat) (sep : ByteArray) (w : World) :
    Calls Tryz.prog 82 #[.slice a 0 c, .string sep] w fun e w' => e = .returned (.string ⟨#[]⟩) ∧ w' = w := Any.strings_Join_none Tryz.lays156 Tryz.Builder_Extra_156 a c sep w
open Go.RowKit in
theorem Tryz.strings_Join (bk o c : Nat) (xs : List ByteArray) (sep : ByteArray) (w : World) (hcells : ∀ (j : Nat) x, xs[j]? = some x → w.cell? ⟨bk, o + j, none⟩ = some (.string x)) (hbk : bk < w.heap.size) (hN : xs.length ≤ 140737488355328) (hcap : xs.length ≤ c) (hlen : (Lib.join (xs.map (·.data.toList)) sep.data.toList).length ≤ 140737488355328) :
    Calls Tryz.prog 82 #[.slice (some ⟨bk, o, none⟩) xs.length c, .string sep] w fun e w' => e = .returned (.string ⟨(Lib.join (xs.map (·.data.toList)) sep.data.toList).toArray⟩) ∧ Below w.heap.size w w' := Any.strings_Join Tryz.lays156 Tryz.Builder_Extra_156 bk o c xs sep w hcells hbk hN hcap hlen
end Go.Proofs
namespace Go.Proofs.YtgcfomhlgipllaaGreatDoor
open Go Go.Sx Go.RowKit
theorem join_flat (l : List (List UInt8)) : Lib.join ((l.map mkS).map (·.data.toList)) (mkS []).data.toList = l.flatten := by
  have h : (l.map mkS).map (·.data.toList) = l := by rw [List.map_map]; exact List.map_id l
  rw [h]
  show ([] : List UInt8).intercalate l = _
  unfold List.intercalate
  induction l with
  | nil => rfl
  | cons x r ih =>
    cases r with
    | nil => simp
    | cons y t =>
      have ih' := ih (by rw [List.map_map]; exact List.map_id _)
      rw [List.intersperse_cons_cons, List.flatten_cons, List.flatten_cons, ih', List.nil_append]
      rfl
theorem Join0_spec (a : Option Addr) (c : Nat) (l : List (List UInt8)) (hn : l.length ≤ 16777216) (hc : l.length ≤ c) (hl : l.flatten.length ≤ 140737488355328) :
    Does Tryz.prog 82 [.slice a l.length c, .string (mkS [])] [ro a (strsC l)] (fun v hp' => v = .string (mkS l.flatten) ∧ hp' = []) := fun w hw => by
  have fin : ∀ (e : Ending) (w' : World), (e = .returned (.string (mkS l.flatten)) ∧ Below w.heap.size w w') → Post w [ro a (strsC l)] (fun v hp' => v = .string (mkS l.flatten) ∧ hp' = []) e w' := fun e w' ⟨h1, h2⟩ =>
    ⟨_, [], ⟨rfl, rfl⟩, h1, ⟨(fun c hc => by cases hc), List.Pairwise.nil⟩, ⟨h2.os, h2.tape, h2.output, h2.size, fun k hk _ => h2.block k hk⟩, (fun c hc => by cases hc), fun c hc => by cases hc⟩
  cases l with
  | nil =>
    exact (Tryz.strings_Join_none a c (mkS []) w).mono fun e w' ⟨h1, h2⟩ => fin e w' ⟨h1, h2 ▸ Below.refl _ _⟩
  | cons x r =>
    obtain ⟨g, o, rfl⟩ := ro_addr hw 0 rfl (by rw [strsC_len]; exact Nat.succ_pos _)
    have hcell : ∀ (j : Nat) y, ((x :: r).map mkS)[j]? = some y → w.cell? ⟨g, o + j, none⟩ = some (.string y) := fun j y hy => by
      have hj : j < (x :: r).length := by rw [← List.length_map (f := mkS)]; exact (List.getElem?_eq_some_iff.1 hy).1
      have h := ld_ro hw 0 rfl (j * 1) (vs := [.string (mkS (x :: r)[j])]) (strs_at hj) 0 _ rfl
      rw [List.getElem?_map, List.getElem?_eq_getElem hj] at hy
      cases hy
      have e : (⟨g, o + j * 1, none⟩ : Addr).add 0 = ⟨g, o + j, none⟩ := by unfold Addr.add; simp
      rw [e] at h
      exact h
    have hbk : g < w.heap.size := World.block_lt_of_cell? _ _ (hcell 0 (mkS x) rfl)
    have hJ := Tryz.strings_Join g o c ((x :: r).map mkS) (mkS []) w hcell hbk (by rw [List.length_map]; omega) (by rw [List.length_map]; exact hc) (by rw [join_flat]; exact hl)
    rw [join_flat, List.length_map] at hJ
    exact hJ.mono fun e w' h => fin e w' h
end Go.Proofs.YtgcfomhlgipllaaGreatDoor
namespace Go.Proofs.YtgcfomhlgipllaaGreatDoor
open Go Go.Sx
theorem cleanB_is (b : UInt8) : cleanB b = if b.toNat < 32 ∨ 126 < b.toNat then 63 else b := by
  unfold cleanB
  by_cases h : b.toNat < 32 ∨ 126 < b.toNat
  · rw [if_pos h, if_pos (h.imp UInt8.lt_iff_toNat_lt.2 UInt8.lt_iff_toNat_lt.2)]
  · rw [if_neg h, if_neg (fun h2 => h (h2.imp UInt8.lt_iff_toNat_lt.1 UInt8.lt_iff_toNat_lt.1))]
def clT (t : Tx) (i : Nat) : Tx := cleanT (t.take i) ++ t.drop i
theorem clT_len (t : Tx) (i : Nat) : (clT t i).length = t.length := by
  unfold clT
  rw [List.length_append, cleanT_len, ← List.length_append, List.take_append_drop]
theorem clT_at {t : Tx} {i : Nat} (h : i < t.length) : (clT t i)[i]'(by rw [clT_len]; exact h) = t[i] := by
  have h1 : (cleanT (t.take i)).length = i := by rw [cleanT_len, List.length_take]; omega
  have h2 : (clT t i)[i]? = some t[i] := by
    unfold clT
    rw [List.getElem?_append_right (by omega), h1, Nat.sub_self, List.getElem?_drop, Nat.add_zero, List.getElem?_eq_getElem h]
  rw [List.getElem?_eq_getElem (by rw [clT_len]; exact h)] at h2
  exact Option.some.inj h2
theorem clT_set {t : Tx} {i : Nat} (h : i < t.length) : (clT t i).set i (cleanB t[i]) = clT t (i + 1) := by
  have h1 : (cleanT (t.take i)).length = i := by rw [cleanT_len, List.length_take]; omega
  unfold clT
  rw [List.set_append_right _ _ (by omega), h1, Nat.sub_self, ← List.take_append_getElem h, List.drop_eq_getElem_cons h, List.set_cons_zero]
  rw [cleanT, cleanT, List.map_append, List.append_assoc]; rfl
theorem clT_same {t : Tx} {i : Nat} (h : i < t.length) (hc : cleanB t[i] = t[i]) : clT t (i + 1) = clT t i := by
  rw [← clT_set h, hc]
  have h2 := clT_at h
  apply List.ext_getElem?
  intro j
  rw [List.getElem?_set]
  split
  · rename_i e
    subst e
    rw [if_pos (by rw [clT_len]; exact h), List.getElem?_eq_getElem (by rw [clT_len]; exact h), h2]
  · rfl
theorem clT_end (t : Tx) : clT t t.length = cleanT t := by unfold clT; simp
theorem line_spec (a : Option Addr) (c : Nat) (l : List Tx) (hn : l.length ≤ 16777216) (hc : l.length ≤ c) (hl : l.flatten.length ≤ 140737488355328) :
    Does Tryz.prog 76 [.slice a l.length c] [ro a (strsC l)] (fun v hp' => v = .string (mkS (lineT l)) ∧ hp' = []) := by
  have hJ := Join0_spec a c l hn hc hl
  unfold lineT
  obtain ⟨t, ht⟩ : ∃ t, t = l.flatten := ⟨_, rfl⟩
  rw [← ht] at hJ hl ⊢
  have hsz := mkS_size t
  refine fn_enter Tryz.func76 rfl 35 rfl fun w0 h0 => ?_
  refine SQ (RG ?_)
  refine RR [] .z (.i 2 (.string ⟨#[]⟩) .a) .a ?_
  refine RZ (NT (SQ (RG ?_)))
  refine RR [] (.d .a) (.i 6 (.slice a l.length c) (.k .z)) .a ?_
  refine RCG (dst := some 7) .a (hJ) (GV (GI []) 0 view_ro) ?_
  rintro v _ ⟨rfl, rfl⟩
  refine wpr_s2b (a := 9) (b := 39) (e := 5) (dst := some 8) t (by kernel_rfl) (by kernel_rfl) (by unfold maxLen; first | omega | decide) ?_
  intro gb cb
  refine wpr_fact (fun w h => row_cap h 1 rfl) ?_
  rintro ⟨-, hcb, -⟩
  refine RR [] .z (.i 3 (.slice (some ⟨gb, 0, none⟩) t.length cb) (.d (.d (.d (.k .a))))) .a ?_
  refine RZ (NT (SQ (SQ (RG ?_))))
  refine RR [] .z (.i 11 (.int .i64 0) (.i 10 (.int .i64 (↑t.length : Int)) (.i 9 (.slice (some ⟨gb, 0, none⟩) t.length cb) .a))) .a ?_
  refine RZ (NT (BK ?_))
  refine wpc_loop (X := {x : Nat // x ≤ t.length}) (fun x => St.mk [(11, .int .i64 (x.1 : Int)), (10, .int .i64 t.length), (9, .slice (some ⟨gb, 0, none⟩) t.length cb), (3, .slice (some ⟨gb, 0, none⟩) t.length cb), (2, .string ⟨#[]⟩)]
    [ro a (strsC l), row 5 1 (some ⟨gb, 0, none⟩) t.length cb (u8s (clT t x.1))]) (fun x => t.length - x.1) ⟨0, Nat.zero_le _⟩ (ent_fr (by kernel_rfl)) ?_
  rintro ⟨i, hi⟩
  dsimp only at hi ⊢
  by_cases hlt : i < t.length
  · have hcl := clT_len t i
    have hlt2 : i < (clT t i).length := by omega
    have hv := clT_at hlt
    refine SQ (RG ?_)
    refine RR [] .z (.i 12 (.bool (decide ((↑i : Int) < (↑t.length : Int)))) .a) .a ?_
    refine RZ (NT (SQ ?_))
    refine SC 12 (decide ((↑i : Int) < (↑t.length : Int))) true (decide_eq_true (by omega)) ?_
    refine CT (SK (NT (SQ (BK (SQ (RG ?_))))))
    refine RV true [] (.d (.d .a)) (.i 14 (.pointer (some ⟨gb, 0 + i * 1, none⟩)) (.i 13 (.int .i64 (↑i : Int)) (.d (.d (.k .a))))) .a [(0 : Int) ≤ (↑i : Int) ∧ (↑i : Int) < (↑t.length : Int)] ⟨by omega, trivial⟩ ?_
    refine wpr_eq (ld (t := 5) (a := ⟨gb, 0 + i * 1, none⟩) (dst := some 15) (by kernel_rfl) false 1 (by kernel_rfl) (by simp) [.int .u8 ((clT t i)[i]).toNat] rfl (fun w h => ld_row h 1 rfl (i * 1) (u8_at1 hlt2))) ?_
    rw [hv]
    have hci := cleanB_is t[i]
    have hb : t[i].toNat < 256 := UInt8.toNat_lt _
    by_cases h1 : t[i].toNat < 32
    · rw [if_pos (.inl h1)] at hci
      have hs := clT_set hlt
      rw [hci] at hs
      refine RR [] .z (.i 5 (.int .u8 (↑t[i].toNat : Int)) (.i 4 (.int .i64 (↑i : Int)) (.d (.d (.d (.k .a)))))) .a ?_
      refine RZ (NT (SQ (RG ?_)))
      refine RR [] (.d (.d (.d .a))) (.i 18 (.bool (decide ((↑t[i].toNat : Int) < (32 : Int)))) .a) .a ?_
      refine SR 18 (decide ((↑t[i].toNat : Int) < (32 : Int))) true (decide_eq_true (by omega)) ?_
      refine RR [] .z (.i 21 (.bool true) (.d (.d (.d (.k .a))))) .a ?_
      refine RZ (NT (CT (RG ?_)))
      refine RV true [] (.d (.d (.d .a))) (.i 24 (.pointer (some ⟨gb, 0 + i * 1, none⟩)) (.d (.d (.k .a)))) .a [(0 : Int) ≤ (↑i : Int) ∧ (↑i : Int) < (↑t.length : Int)] ⟨by omega, trivial⟩ ?_
      refine wpr_eq (stq' (t := 5) (g := gb) (off := 0) (q := (i * 1)) (v := (.int .u8 63)) (dst := none) (by kernel_rfl) 1 (T := 5) (sz := 1) (n := t.length) (cap := cb) (xs := (u8s (clT t i))) (by kernel_rfl) [.int .u8 63] (by kernel_rfl) (by kernel_rfl) (by simp [Go.Sx.One, Value.oneCell']) (by rw [u8s_len]; show i * 1 + 1 ≤ _; omega) (xs' := (u8s (clT t (i + 1)))) ((u8_set1 hlt2 63).trans (congrArg u8s hs))) ?_
      refine RZ (BN (NT (RG ?_)))
      refine RV true [] .z (.i 11 (.int .i64 ((↑i : Int) + 1)) (.d (.d (.k .a)))) .a ([inI64 ((↑i : Int) + (1 : Int))]) ⟨by unfold inI64; omega, trivial⟩ ?_
      refine RZ ?_
      exact fun a' w' hS' => ⟨⟨i + 1, hlt⟩, by dsimp only; omega, ent_fr (by kernel_rfl) _ _ (ent_hp [0, 0] rfl _ _ hS')⟩
    · by_cases h2 : 126 < t[i].toNat
      · rw [if_pos (.inr h2)] at hci
        have hs := clT_set hlt
        rw [hci] at hs
        refine RR [] .z (.i 5 (.int .u8 (↑t[i].toNat : Int)) (.i 4 (.int .i64 (↑i : Int)) (.d (.d (.d (.k .a)))))) .a ?_
        refine RZ (NT (SQ (RG ?_)))
        refine RR [] (.d (.d (.d .a))) (.i 18 (.bool (decide ((↑t[i].toNat : Int) < (32 : Int)))) .a) .a ?_
        refine SR 18 (decide ((↑t[i].toNat : Int) < (32 : Int))) false (decide_eq_false (by omega)) ?_
        refine RR [] .z (.i 21 (.bool (decide ((↑t[i].toNat : Int) > (126 : Int)))) (.d (.d (.d (.k .a))))) .a ?_
        refine RZ (NT ?_)
        refine SC 21 (decide ((↑t[i].toNat : Int) > (126 : Int))) true (decide_eq_true (by omega)) ?_
        refine CT (RG ?_)
        refine RV true [] (.d (.d (.d .a))) (.i 24 (.pointer (some ⟨gb, 0 + i * 1, none⟩)) (.d (.d (.d (.k .a))))) .a [(0 : Int) ≤ (↑i : Int) ∧ (↑i : Int) < (↑t.length : Int)] ⟨by omega, trivial⟩ ?_
        refine wpr_eq (stq' (t := 5) (g := gb) (off := 0) (q := (i * 1)) (v := (.int .u8 63)) (dst := none) (by kernel_rfl) 1 (T := 5) (sz := 1) (n := t.length) (cap := cb) (xs := (u8s (clT t i))) (by kernel_rfl) [.int .u8 63] (by kernel_rfl) (by kernel_rfl) (by simp [Go.Sx.One, Value.oneCell']) (by rw [u8s_len]; show i * 1 + 1 ≤ _; omega) (xs' := (u8s (clT t (i + 1)))) ((u8_set1 hlt2 63).trans (congrArg u8s hs))) ?_
        refine RZ (BN (NT (RG ?_)))
        refine RV true [] .z (.i 11 (.int .i64 ((↑i : Int) + 1)) (.d (.d (.k .a)))) .a ([inI64 ((↑i : Int) + (1 : Int))]) ⟨by unfold inI64; omega, trivial⟩ ?_
        refine RZ ?_
        exact fun a' w' hS' => ⟨⟨i + 1, hlt⟩, by dsimp only; omega, ent_fr (by kernel_rfl) _ _ (ent_hp [0, 0] rfl _ _ hS')⟩
      · rw [if_neg (fun h => h.elim h1 h2)] at hci
        have hs := clT_same hlt hci
        rw [← hs]
        refine RR [] .z (.i 5 (.int .u8 (↑t[i].toNat : Int)) (.i 4 (.int .i64 (↑i : Int)) (.d (.d (.d (.k .a)))))) .a ?_
        refine RZ (NT (SQ (RG ?_)))
        refine RR [] (.d (.d (.d .a))) (.i 18 (.bool (decide ((↑t[i].toNat : Int) < (32 : Int)))) .a) .a ?_
        refine SR 18 (decide ((↑t[i].toNat : Int) < (32 : Int))) false (decide_eq_false (by omega)) ?_
        refine RR [] .z (.i 21 (.bool (decide ((↑t[i].toNat : Int) > (126 : Int)))) (.d (.d (.d (.k .a))))) .a ?_
        refine RZ (NT ?_)
        refine SC 21 (decide ((↑t[i].toNat : Int) > (126 : Int))) false (decide_eq_false (by omega)) ?_
        refine CF (SK (BN (NT (RG ?_))))
        refine RV true [] .z (.i 11 (.int .i64 ((↑i : Int) + 1)) (.d (.d (.d (.d (.k .a)))))) .a ([inI64 ((↑i : Int) + (1 : Int))]) ⟨by unfold inI64; omega, trivial⟩ ?_
        refine RZ ?_
        exact fun a' w' hS' => ⟨⟨i + 1, hlt⟩, by dsimp only; omega, ent_fr (by kernel_rfl) _ _ (ent_hp [0, 0] rfl _ _ hS')⟩
  · obtain rfl : i = t.length := by omega
    rw [clT_end]
    obtain ⟨q, hq⟩ : ∃ q, q = cleanT t := ⟨_, rfl⟩
    have hql : q.length = t.length := by rw [hq, cleanT_len]
    rw [← hq, ← hql]
    unfold cut2
    by_cases h200 : 200 < q.length
    · rw [if_pos h200]
      have hq2 : (q.take 197).length = 197 := by rw [List.length_take]; omega
      refine wpc_ent (ent_turn 1 (row 5 1 (some ⟨gb, 0, none⟩) 197 cb (u8s (q.take 197))) rfl (turn_cut_u8 197 cb (by omega) (by omega) (Nat.le_refl _)) rfl) ?_
      obtain ⟨q2, hq3⟩ : ∃ q2, q2 = q.take 197 := ⟨_, rfl⟩
      rw [← hq3] at hq2 ⊢
      refine SQ (RG ?_)
      refine RR [] .z (.i 12 (.bool (decide ((↑(List.length q) : Int) < (↑(List.length q) : Int)))) .a) .a ?_
      refine RZ (NT (SQ ?_))
      refine SC 12 (decide ((↑(List.length q) : Int) < (↑(List.length q) : Int))) false (by simp) ?_
      refine CF (EX (TE (TE (BH (NT (SQ (SQ (RG ?_))))))))
      refine RR [] .z (.i 28 (.bool (decide ((↑(List.length q) : Int) > (200 : Int)))) (.d (.d (.d (.d (.d (.k .a))))))) .a ?_
      refine RZ (NT ?_)
      refine SC 28 (decide ((↑(List.length q) : Int) > (200 : Int))) true (decide_eq_true (by omega)) ?_
      refine CT (SQ (RG ?_))
      refine RV true [] (.d (.d .a)) (.i 30 (.slice (some ⟨gb, 0, none⟩) 197 cb) (.d (.d (.k .a)))) .a [(0 : Int) ≤ (197 : Int) ∧ (197 : Int) ≤ (↑cb : Int)] ⟨by omega, trivial⟩ ?_
      refine wpr_ent (ent_set 30 (.slice (some ⟨gb, 0, none⟩) 197 cb) (.slice (some ⟨gb, 0, none⟩) q2.length cb) (by kernel_rfl) (by rw [hq2])) ?_
      refine wpr_eq (b2s (a := 39) (b := 9) (ad := (some ⟨gb, 0, none⟩)) (n := q2.length) (c := cb) (dst := some 31) (by kernel_rfl) (by kernel_rfl) q2 (by first | rfl | simp) (fun w h => b2s_row h 1 rfl)) ?_
      refine RV true [] .z (.i 2 (.string (mkS (q2 ++ [46, 46, 46]))) (.d (.d (.d (.k .z))))) .a ([q2.length + (ByteArray.mk #[(46 : UInt8), (46 : UInt8), (46 : UInt8)]).size ≤ (9223372036854775807 : Nat)]) ⟨by simp only [List.length_append, List.length_cons, List.length_nil, show ∀ l : List UInt8, (ByteArray.mk l.toArray).size = l.length from fun _ => rfl]; omega, trivial⟩ ?_
      refine RZ (NT (RE (TR ?_)))
      refine NE [] .z .a [] (.string (mkS (q2 ++ [46, 46, 46]))) ?_
      exact ⟨rfl, rfl⟩
    · rw [if_neg h200]
      refine SQ (RG ?_)
      refine RR [] .z (.i 12 (.bool (decide ((↑(List.length q) : Int) < (↑(List.length q) : Int)))) .a) .a ?_
      refine RZ (NT (SQ ?_))
      refine SC 12 (decide ((↑(List.length q) : Int) < (↑(List.length q) : Int))) false (by simp) ?_
      refine CF (EX (TE (TE (BH (NT (SQ (SQ (RG ?_))))))))
      refine RR [] .z (.i 28 (.bool (decide ((↑(List.length q) : Int) > (200 : Int)))) (.d (.d (.d (.d (.d (.k .a))))))) .a ?_
      refine RZ (NT ?_)
      refine SC 28 (decide ((↑(List.length q) : Int) > (200 : Int))) false (decide_eq_false (by omega)) ?_
      refine CF (SK (NT (SQ (RG ?_))))
      refine RR [] (.d .a) (.i 33 (.slice (some ⟨gb, 0, none⟩) (List.length q) cb) (.d (.d (.d (.k .a))))) .a ?_
      refine wpr_eq (b2s (a := 39) (b := 9) (ad := (some ⟨gb, 0, none⟩)) (n := (List.length q)) (c := cb) (dst := some 34) (by kernel_rfl) (by kernel_rfl) q (by first | rfl | simp) (fun w h => b2s_row h 1 rfl)) ?_
      refine RR [] .z (.i 2 (.string (mkS q)) .z) .a ?_
      refine RZ (NT (RE ?_))
      refine NE [] .z .a [] (.string (mkS q)) ?_
      exact ⟨rfl, rfl⟩
end Go.Proofs.YtgcfomhlgipllaaGreatDoor
namespace Go.Proofs.YtgcfomhlgipllaaGreatDoor
open Go Go.Sx
theorem itoa_len20 {n : Int} (h : i64r n) : (Lib.itoa n).length ≤ 20 := itoa_len ⟨h.1, h.2⟩
theorem Fault_spec (n : Int) : Does Tryz.prog 29 [.int .i64 n] [] (fun v hp' => v = .string (mkS (faultT n)) ∧ hp' = []) := by
  by_cases h0 : 0 ≤ n ∧ n < 11
  · obtain rfl | rfl | rfl | rfl | rfl | rfl | rfl | rfl | rfl | rfl | rfl : n = 0 ∨ n = 1 ∨ n = 2 ∨ n = 3 ∨ n = 4 ∨ n = 5 ∨ n = 6 ∨ n = 7 ∨ n = 8 ∨ n = 9 ∨ n = 10 := by omega
    · refine fn_enter Tryz.func29 rfl 14 rfl fun w0 h0 => ?_
      refine SQ (RG ?_)
      refine RR [] .z (.i 2 (.string ⟨#[]⟩) .a) .a ?_
      refine RZ (NT (SQ (RG ?_)))
      refine RP [] (.d (.d .a)) 3 (.i 4 (.agg #[.string ⟨#[]⟩, .string (ByteArray.mk #[100, 105, 118, 105, 115, 105, 111, 110]), .string (ByteArray.mk #[105, 110, 100, 101, 120]), .string (ByteArray.mk #[115, 105, 122, 101]), .string (ByteArray.mk #[116, 101, 120, 116]), .string (ByteArray.mk #[105, 110, 112, 117, 116]), .string (ByteArray.mk #[104, 101, 97, 112]), .string (ByteArray.mk #[102, 114, 97, 109, 101, 115]), .string (ByteArray.mk #[111, 117, 116, 112, 117, 116]), .string (ByteArray.mk #[115, 116, 101, 112, 115]), .string (ByteArray.mk #[107, 105, 110, 100])]) .a) .a 140 [.string ⟨#[]⟩, .string ⟨#[]⟩, .string ⟨#[]⟩, .string ⟨#[]⟩, .string ⟨#[]⟩, .string ⟨#[]⟩, .string ⟨#[]⟩, .string ⟨#[]⟩, .string ⟨#[]⟩, .string ⟨#[]⟩, .string ⟨#[]⟩] fun g1 => ?_
      refine RR [0, 0, 0, 0, 0, 0, 0, 0, 0, 0, 0] .z (.k (.d (.k .a))) (.u (.k (.i (.string (ByteArray.mk #[100, 105, 118, 105, 115, 105, 111, 110])) (.i (.string (ByteArray.mk #[105, 110, 100, 101, 120])) (.i (.string (ByteArray.mk #[115, 105, 122, 101])) (.i (.string (ByteArray.mk #[116, 101, 120, 116])) (.i (.string (ByteArray.mk #[105, 110, 112, 117, 116])) (.i (.string (ByteArray.mk #[104, 101, 97, 112])) (.i (.string (ByteArray.mk #[102, 114, 97, 109, 101, 115])) (.i (.string (ByteArray.mk #[111, 117, 116, 112, 117, 116])) (.i (.string (ByteArray.mk #[115, 116, 101, 112, 115])) (.i (.string (ByteArray.mk #[107, 105, 110, 100])) .z))))))))))) .a) ?_
      refine RZ (NT (SQ (SQ (RG ?_))))
      refine RR [] .z (.i 10 (.bool false) .a) .a ?_
      refine RZ (NT (CF (SK (NT (SQ (RG ?_))))))
      refine RV true [0] .z (.d (.d (.k .z))) .a [(0 : Int) ≤ (0 : Int) ∧ (0 : Int) < (↑(11 : Nat) : Int)] ⟨by omega, trivial⟩ ?_
      refine RZ (NT (RE ?_))
      refine NE [] .z .a [] (.string ⟨#[]⟩) ?_
      exact ⟨rfl, rfl⟩
    · refine fn_enter Tryz.func29 rfl 14 rfl fun w0 h0 => ?_
      refine SQ (RG ?_)
      refine RR [] .z (.i 2 (.string ⟨#[]⟩) .a) .a ?_
      refine RZ (NT (SQ (RG ?_)))
      refine RP [] (.d (.d .a)) 3 (.i 4 (.agg #[.string ⟨#[]⟩, .string (ByteArray.mk #[100, 105, 118, 105, 115, 105, 111, 110]), .string (ByteArray.mk #[105, 110, 100, 101, 120]), .string (ByteArray.mk #[115, 105, 122, 101]), .string (ByteArray.mk #[116, 101, 120, 116]), .string (ByteArray.mk #[105, 110, 112, 117, 116]), .string (ByteArray.mk #[104, 101, 97, 112]), .string (ByteArray.mk #[102, 114, 97, 109, 101, 115]), .string (ByteArray.mk #[111, 117, 116, 112, 117, 116]), .string (ByteArray.mk #[115, 116, 101, 112, 115]), .string (ByteArray.mk #[107, 105, 110, 100])]) .a) .a 140 [.string ⟨#[]⟩, .string ⟨#[]⟩, .string ⟨#[]⟩, .string ⟨#[]⟩, .string ⟨#[]⟩, .string ⟨#[]⟩, .string ⟨#[]⟩, .string ⟨#[]⟩, .string ⟨#[]⟩, .string ⟨#[]⟩, .string ⟨#[]⟩] fun g1 => ?_
      refine RR [0, 0, 0, 0, 0, 0, 0, 0, 0, 0, 0] .z (.k (.d (.k .a))) (.u (.k (.i (.string (ByteArray.mk #[100, 105, 118, 105, 115, 105, 111, 110])) (.i (.string (ByteArray.mk #[105, 110, 100, 101, 120])) (.i (.string (ByteArray.mk #[115, 105, 122, 101])) (.i (.string (ByteArray.mk #[116, 101, 120, 116])) (.i (.string (ByteArray.mk #[105, 110, 112, 117, 116])) (.i (.string (ByteArray.mk #[104, 101, 97, 112])) (.i (.string (ByteArray.mk #[102, 114, 97, 109, 101, 115])) (.i (.string (ByteArray.mk #[111, 117, 116, 112, 117, 116])) (.i (.string (ByteArray.mk #[115, 116, 101, 112, 115])) (.i (.string (ByteArray.mk #[107, 105, 110, 100])) .z))))))))))) .a) ?_
      refine RZ (NT (SQ (SQ (RG ?_))))
      refine RR [] .z (.i 10 (.bool false) .a) .a ?_
      refine RZ (NT (CF (SK (NT (SQ (RG ?_))))))
      refine RV true [0] .z (.i 2 (.string (ByteArray.mk #[100, 105, 118, 105, 115, 105, 111, 110])) .z) .a [(0 : Int) ≤ (1 : Int) ∧ (1 : Int) < (↑(11 : Nat) : Int)] ⟨by omega, trivial⟩ ?_
      refine RZ (NT (RE ?_))
      refine NE [] .z .a [] (.string (ByteArray.mk #[100, 105, 118, 105, 115, 105, 111, 110])) ?_
      exact ⟨rfl, rfl⟩
    · refine fn_enter Tryz.func29 rfl 14 rfl fun w0 h0 => ?_
      refine SQ (RG ?_)
      refine RR [] .z (.i 2 (.string ⟨#[]⟩) .a) .a ?_
      refine RZ (NT (SQ (RG ?_)))
      refine RP [] (.d (.d .a)) 3 (.i 4 (.agg #[.string ⟨#[]⟩, .string (ByteArray.mk #[100, 105, 118, 105, 115, 105, 111, 110]), .string (ByteArray.mk #[105, 110, 100, 101, 120]), .string (ByteArray.mk #[115, 105, 122, 101]), .string (ByteArray.mk #[116, 101, 120, 116]), .string (ByteArray.mk #[105, 110, 112, 117, 116]), .string (ByteArray.mk #[104, 101, 97, 112]), .string (ByteArray.mk #[102, 114, 97, 109, 101, 115]), .string (ByteArray.mk #[111, 117, 116, 112, 117, 116]), .string (ByteArray.mk #[115, 116, 101, 112, 115]), .string (ByteArray.mk #[107, 105, 110, 100])]) .a) .a 140 [.string ⟨#[]⟩, .string ⟨#[]⟩, .string ⟨#[]⟩, .string ⟨#[]⟩, .string ⟨#[]⟩, .string ⟨#[]⟩, .string ⟨#[]⟩, .string ⟨#[]⟩, .string ⟨#[]⟩, .string ⟨#[]⟩, .string ⟨#[]⟩] fun g1 => ?_
      refine RR [0, 0, 0, 0, 0, 0, 0, 0, 0, 0, 0] .z (.k (.d (.k .a))) (.u (.k (.i (.string (ByteArray.mk #[100, 105, 118, 105, 115, 105, 111, 110])) (.i (.string (ByteArray.mk #[105, 110, 100, 101, 120])) (.i (.string (ByteArray.mk #[115, 105, 122, 101])) (.i (.string (ByteArray.mk #[116, 101, 120, 116])) (.i (.string (ByteArray.mk #[105, 110, 112, 117, 116])) (.i (.string (ByteArray.mk #[104, 101, 97, 112])) (.i (.string (ByteArray.mk #[102, 114, 97, 109, 101, 115])) (.i (.string (ByteArray.mk #[111, 117, 116, 112, 117, 116])) (.i (.string (ByteArray.mk #[115, 116, 101, 112, 115])) (.i (.string (ByteArray.mk #[107, 105, 110, 100])) .z))))))))))) .a) ?_
      refine RZ (NT (SQ (SQ (RG ?_))))
      refine RR [] .z (.i 10 (.bool false) .a) .a ?_
      refine RZ (NT (CF (SK (NT (SQ (RG ?_))))))
      refine RV true [0] .z (.i 2 (.string (ByteArray.mk #[105, 110, 100, 101, 120])) .z) .a [(0 : Int) ≤ (2 : Int) ∧ (2 : Int) < (↑(11 : Nat) : Int)] ⟨by omega, trivial⟩ ?_
      refine RZ (NT (RE ?_))
      refine NE [] .z .a [] (.string (ByteArray.mk #[105, 110, 100, 101, 120])) ?_
      exact ⟨rfl, rfl⟩
    · refine fn_enter Tryz.func29 rfl 14 rfl fun w0 h0 => ?_
      refine SQ (RG ?_)
      refine RR [] .z (.i 2 (.string ⟨#[]⟩) .a) .a ?_
      refine RZ (NT (SQ (RG ?_)))
      refine RP [] (.d (.d .a)) 3 (.i 4 (.agg #[.string ⟨#[]⟩, .string (ByteArray.mk #[100, 105, 118, 105, 115, 105, 111, 110]), .string (ByteArray.mk #[105, 110, 100, 101, 120]), .string (ByteArray.mk #[115, 105, 122, 101]), .string (ByteArray.mk #[116, 101, 120, 116]), .string (ByteArray.mk #[105, 110, 112, 117, 116]), .string (ByteArray.mk #[104, 101, 97, 112]), .string (ByteArray.mk #[102, 114, 97, 109, 101, 115]), .string (ByteArray.mk #[111, 117, 116, 112, 117, 116]), .string (ByteArray.mk #[115, 116, 101, 112, 115]), .string (ByteArray.mk #[107, 105, 110, 100])]) .a) .a 140 [.string ⟨#[]⟩, .string ⟨#[]⟩, .string ⟨#[]⟩, .string ⟨#[]⟩, .string ⟨#[]⟩, .string ⟨#[]⟩, .string ⟨#[]⟩, .string ⟨#[]⟩, .string ⟨#[]⟩, .string ⟨#[]⟩, .string ⟨#[]⟩] fun g1 => ?_
      refine RR [0, 0, 0, 0, 0, 0, 0, 0, 0, 0, 0] .z (.k (.d (.k .a))) (.u (.k (.i (.string (ByteArray.mk #[100, 105, 118, 105, 115, 105, 111, 110])) (.i (.string (ByteArray.mk #[105, 110, 100, 101, 120])) (.i (.string (ByteArray.mk #[115, 105, 122, 101])) (.i (.string (ByteArray.mk #[116, 101, 120, 116])) (.i (.string (ByteArray.mk #[105, 110, 112, 117, 116])) (.i (.string (ByteArray.mk #[104, 101, 97, 112])) (.i (.string (ByteArray.mk #[102, 114, 97, 109, 101, 115])) (.i (.string (ByteArray.mk #[111, 117, 116, 112, 117, 116])) (.i (.string (ByteArray.mk #[115, 116, 101, 112, 115])) (.i (.string (ByteArray.mk #[107, 105, 110, 100])) .z))))))))))) .a) ?_
      refine RZ (NT (SQ (SQ (RG ?_))))
      refine RR [] .z (.i 10 (.bool false) .a) .a ?_
      refine RZ (NT (CF (SK (NT (SQ (RG ?_))))))
      refine RV true [0] .z (.i 2 (.string (ByteArray.mk #[115, 105, 122, 101])) .z) .a [(0 : Int) ≤ (3 : Int) ∧ (3 : Int) < (↑(11 : Nat) : Int)] ⟨by omega, trivial⟩ ?_
      refine RZ (NT (RE ?_))
      refine NE [] .z .a [] (.string (ByteArray.mk #[115, 105, 122, 101])) ?_
      exact ⟨rfl, rfl⟩
    · refine fn_enter Tryz.func29 rfl 14 rfl fun w0 h0 => ?_
      refine SQ (RG ?_)
      refine RR [] .z (.i 2 (.string ⟨#[]⟩) .a) .a ?_
      refine RZ (NT (SQ (RG ?_)))
      refine RP [] (.d (.d .a)) 3 (.i 4 (.agg #[.string ⟨#[]⟩, .string (ByteArray.mk #[100, 105, 118, 105, 115, 105, 111, 110]), .string (ByteArray.mk #[105, 110, 100, 101, 120]), .string (ByteArray.mk #[115, 105, 122, 101]), .string (ByteArray.mk #[116, 101, 120, 116]), .string (ByteArray.mk #[105, 110, 112, 117, 116]), .string (ByteArray.mk #[104, 101, 97, 112]), .string (ByteArray.mk #[102, 114, 97, 109, 101, 115]), .string (ByteArray.mk #[111, 117, 116, 112, 117, 116]), .string (ByteArray.mk #[115, 116, 101, 112, 115]), .string (ByteArray.mk #[107, 105, 110, 100])]) .a) .a 140 [.string ⟨#[]⟩, .string ⟨#[]⟩, .string ⟨#[]⟩, .string ⟨#[]⟩, .string ⟨#[]⟩, .string ⟨#[]⟩, .string ⟨#[]⟩, .string ⟨#[]⟩, .string ⟨#[]⟩, .string ⟨#[]⟩, .string ⟨#[]⟩] fun g1 => ?_
      refine RR [0, 0, 0, 0, 0, 0, 0, 0, 0, 0, 0] .z (.k (.d (.k .a))) (.u (.k (.i (.string (ByteArray.mk #[100, 105, 118, 105, 115, 105, 111, 110])) (.i (.string (ByteArray.mk #[105, 110, 100, 101, 120])) (.i (.string (ByteArray.mk #[115, 105, 122, 101])) (.i (.string (ByteArray.mk #[116, 101, 120, 116])) (.i (.string (ByteArray.mk #[105, 110, 112, 117, 116])) (.i (.string (ByteArray.mk #[104, 101, 97, 112])) (.i (.string (ByteArray.mk #[102, 114, 97, 109, 101, 115])) (.i (.string (ByteArray.mk #[111, 117, 116, 112, 117, 116])) (.i (.string (ByteArray.mk #[115, 116, 101, 112, 115])) (.i (.string (ByteArray.mk #[107, 105, 110, 100])) .z))))))))))) .a) ?_
      refine RZ (NT (SQ (SQ (RG ?_))))
      refine RR [] .z (.i 10 (.bool false) .a) .a ?_
      refine RZ (NT (CF (SK (NT (SQ (RG ?_))))))
      refine RV true [0] .z (.i 2 (.string (ByteArray.mk #[116, 101, 120, 116])) .z) .a [(0 : Int) ≤ (4 : Int) ∧ (4 : Int) < (↑(11 : Nat) : Int)] ⟨by omega, trivial⟩ ?_
      refine RZ (NT (RE ?_))
      refine NE [] .z .a [] (.string (ByteArray.mk #[116, 101, 120, 116])) ?_
      exact ⟨rfl, rfl⟩
    · refine fn_enter Tryz.func29 rfl 14 rfl fun w0 h0 => ?_
      refine SQ (RG ?_)
      refine RR [] .z (.i 2 (.string ⟨#[]⟩) .a) .a ?_
      refine RZ (NT (SQ (RG ?_)))
      refine RP [] (.d (.d .a)) 3 (.i 4 (.agg #[.string ⟨#[]⟩, .string (ByteArray.mk #[100, 105, 118, 105, 115, 105, 111, 110]), .string (ByteArray.mk #[105, 110, 100, 101, 120]), .string (ByteArray.mk #[115, 105, 122, 101]), .string (ByteArray.mk #[116, 101, 120, 116]), .string (ByteArray.mk #[105, 110, 112, 117, 116]), .string (ByteArray.mk #[104, 101, 97, 112]), .string (ByteArray.mk #[102, 114, 97, 109, 101, 115]), .string (ByteArray.mk #[111, 117, 116, 112, 117, 116]), .string (ByteArray.mk #[115, 116, 101, 112, 115]), .string (ByteArray.mk #[107, 105, 110, 100])]) .a) .a 140 [.string ⟨#[]⟩, .string ⟨#[]⟩, .string ⟨#[]⟩, .string ⟨#[]⟩, .string ⟨#[]⟩, .string ⟨#[]⟩, .string ⟨#[]⟩, .string ⟨#[]⟩, .string ⟨#[]⟩, .string ⟨#[]⟩, .string ⟨#[]⟩] fun g1 => ?_
      refine RR [0, 0, 0, 0, 0, 0, 0, 0, 0, 0, 0] .z (.k (.d (.k .a))) (.u (.k (.i (.string (ByteArray.mk #[100, 105, 118, 105, 115, 105, 111, 110])) (.i (.string (ByteArray.mk #[105, 110, 100, 101, 120])) (.i (.string (ByteArray.mk #[115, 105, 122, 101])) (.i (.string (ByteArray.mk #[116, 101, 120, 116])) (.i (.string (ByteArray.mk #[105, 110, 112, 117, 116])) (.i (.string (ByteArray.mk #[104, 101, 97, 112])) (.i (.string (ByteArray.mk #[102, 114, 97, 109, 101, 115])) (.i (.string (ByteArray.mk #[111, 117, 116, 112, 117, 116])) (.i (.string (ByteArray.mk #[115, 116, 101, 112, 115])) (.i (.string (ByteArray.mk #[107, 105, 110, 100])) .z))))))))))) .a) ?_
      refine RZ (NT (SQ (SQ (RG ?_))))
      refine RR [] .z (.i 10 (.bool false) .a) .a ?_
      refine RZ (NT (CF (SK (NT (SQ (RG ?_))))))
      refine RV true [0] .z (.i 2 (.string (ByteArray.mk #[105, 110, 112, 117, 116])) .z) .a [(0 : Int) ≤ (5 : Int) ∧ (5 : Int) < (↑(11 : Nat) : Int)] ⟨by omega, trivial⟩ ?_
      refine RZ (NT (RE ?_))
      refine NE [] .z .a [] (.string (ByteArray.mk #[105, 110, 112, 117, 116])) ?_
      exact ⟨rfl, rfl⟩
    · refine fn_enter Tryz.func29 rfl 14 rfl fun w0 h0 => ?_
      refine SQ (RG ?_)
      refine RR [] .z (.i 2 (.string ⟨#[]⟩) .a) .a ?_
      refine RZ (NT (SQ (RG ?_)))
      refine RP [] (.d (.d .a)) 3 (.i 4 (.agg #[.string ⟨#[]⟩, .string (ByteArray.mk #[100, 105, 118, 105, 115, 105, 111, 110]), .string (ByteArray.mk #[105, 110, 100, 101, 120]), .string (ByteArray.mk #[115, 105, 122, 101]), .string (ByteArray.mk #[116, 101, 120, 116]), .string (ByteArray.mk #[105, 110, 112, 117, 116]), .string (ByteArray.mk #[104, 101, 97, 112]), .string (ByteArray.mk #[102, 114, 97, 109, 101, 115]), .string (ByteArray.mk #[111, 117, 116, 112, 117, 116]), .string (ByteArray.mk #[115, 116, 101, 112, 115]), .string (ByteArray.mk #[107, 105, 110, 100])]) .a) .a 140 [.string ⟨#[]⟩, .string ⟨#[]⟩, .string ⟨#[]⟩, .string ⟨#[]⟩, .string ⟨#[]⟩, .string ⟨#[]⟩, .string ⟨#[]⟩, .string ⟨#[]⟩, .string ⟨#[]⟩, .string ⟨#[]⟩, .string ⟨#[]⟩] fun g1 => ?_
      refine RR [0, 0, 0, 0, 0, 0, 0, 0, 0, 0, 0] .z (.k (.d (.k .a))) (.u (.k (.i (.string (ByteArray.mk #[100, 105, 118, 105, 115, 105, 111, 110])) (.i (.string (ByteArray.mk #[105, 110, 100, 101, 120])) (.i (.string (ByteArray.mk #[115, 105, 122, 101])) (.i (.string (ByteArray.mk #[116, 101, 120, 116])) (.i (.string (ByteArray.mk #[105, 110, 112, 117, 116])) (.i (.string (ByteArray.mk #[104, 101, 97, 112])) (.i (.string (ByteArray.mk #[102, 114, 97, 109, 101, 115])) (.i (.string (ByteArray.mk #[111, 117, 116, 112, 117, 116])) (.i (.string (ByteArray.mk #[115, 116, 101, 112, 115])) (.i (.string (ByteArray.mk #[107, 105, 110, 100])) .z))))))))))) .a) ?_
      refine RZ (NT (SQ (SQ (RG ?_))))
      refine RR [] .z (.i 10 (.bool false) .a) .a ?_
      refine RZ (NT (CF (SK (NT (SQ (RG ?_))))))
      refine RV true [0] .z (.i 2 (.string (ByteArray.mk #[104, 101, 97, 112])) .z) .a [(0 : Int) ≤ (6 : Int) ∧ (6 : Int) < (↑(11 : Nat) : Int)] ⟨by omega, trivial⟩ ?_
      refine RZ (NT (RE ?_))
      refine NE [] .z .a [] (.string (ByteArray.mk #[104, 101, 97, 112])) ?_
      exact ⟨rfl, rfl⟩
    · refine fn_enter Tryz.func29 rfl 14 rfl fun w0 h0 => ?_
      refine SQ (RG ?_)
      refine RR [] .z (.i 2 (.string ⟨#[]⟩) .a) .a ?_
      refine RZ (NT (SQ (RG ?_)))
      refine RP [] (.d (.d .a)) 3 (.i 4 (.agg #[.string ⟨#[]⟩, .string (ByteArray.mk #[100, 105, 118, 105, 115, 105, 111, 110]), .string (ByteArray.mk #[105, 110, 100, 101, 120]), .string (ByteArray.mk #[115, 105, 122, 101]), .string (ByteArray.mk #[116, 101, 120, 116]), .string (ByteArray.mk #[105, 110, 112, 117, 116]), .string (ByteArray.mk #[104, 101, 97, 112]), .string (ByteArray.mk #[102, 114, 97, 109, 101, 115]), .string (ByteArray.mk #[111, 117, 116, 112, 117, 116]), .string (ByteArray.mk #[115, 116, 101, 112, 115]), .string (ByteArray.mk #[107, 105, 110, 100])]) .a) .a 140 [.string ⟨#[]⟩, .string ⟨#[]⟩, .string ⟨#[]⟩, .string ⟨#[]⟩, .string ⟨#[]⟩, .string ⟨#[]⟩, .string ⟨#[]⟩, .string ⟨#[]⟩, .string ⟨#[]⟩, .string ⟨#[]⟩, .string ⟨#[]⟩] fun g1 => ?_
      refine RR [0, 0, 0, 0, 0, 0, 0, 0, 0, 0, 0] .z (.k (.d (.k .a))) (.u (.k (.i (.string (ByteArray.mk #[100, 105, 118, 105, 115, 105, 111, 110])) (.i (.string (ByteArray.mk #[105, 110, 100, 101, 120])) (.i (.string (ByteArray.mk #[115, 105, 122, 101])) (.i (.string (ByteArray.mk #[116, 101, 120, 116])) (.i (.string (ByteArray.mk #[105, 110, 112, 117, 116])) (.i (.string (ByteArray.mk #[104, 101, 97, 112])) (.i (.string (ByteArray.mk #[102, 114, 97, 109, 101, 115])) (.i (.string (ByteArray.mk #[111, 117, 116, 112, 117, 116])) (.i (.string (ByteArray.mk #[115, 116, 101, 112, 115])) (.i (.string (ByteArray.mk #[107, 105, 110, 100])) .z))))))))))) .a) ?_
      refine RZ (NT (SQ (SQ (RG ?_))))
      refine RR [] .z (.i 10 (.bool false) .a) .a ?_
      refine RZ (NT (CF (SK (NT (SQ (RG ?_))))))
      refine RV true [0] .z (.i 2 (.string (ByteArray.mk #[102, 114, 97, 109, 101, 115])) .z) .a [(0 : Int) ≤ (7 : Int) ∧ (7 : Int) < (↑(11 : Nat) : Int)] ⟨by omega, trivial⟩ ?_
      refine RZ (NT (RE ?_))
      refine NE [] .z .a [] (.string (ByteArray.mk #[102, 114, 97, 109, 101, 115])) ?_
      exact ⟨rfl, rfl⟩
    · refine fn_enter Tryz.func29 rfl 14 rfl fun w0 h0 => ?_
      refine SQ (RG ?_)
      refine RR [] .z (.i 2 (.string ⟨#[]⟩) .a) .a ?_
      refine RZ (NT (SQ (RG ?_)))
      refine RP [] (.d (.d .a)) 3 (.i 4 (.agg #[.string ⟨#[]⟩, .string (ByteArray.mk #[100, 105, 118, 105, 115, 105, 111, 110]), .string (ByteArray.mk #[105, 110, 100, 101, 120]), .string (ByteArray.mk #[115, 105, 122, 101]), .string (ByteArray.mk #[116, 101, 120, 116]), .string (ByteArray.mk #[105, 110, 112, 117, 116]), .string (ByteArray.mk #[104, 101, 97, 112]), .string (ByteArray.mk #[102, 114, 97, 109, 101, 115]), .string (ByteArray.mk #[111, 117, 116, 112, 117, 116]), .string (ByteArray.mk #[115, 116, 101, 112, 115]), .string (ByteArray.mk #[107, 105, 110, 100])]) .a) .a 140 [.string ⟨#[]⟩, .string ⟨#[]⟩, .string ⟨#[]⟩, .string ⟨#[]⟩, .string ⟨#[]⟩, .string ⟨#[]⟩, .string ⟨#[]⟩, .string ⟨#[]⟩, .string ⟨#[]⟩, .string ⟨#[]⟩, .string ⟨#[]⟩] fun g1 => ?_
      refine RR [0, 0, 0, 0, 0, 0, 0, 0, 0, 0, 0] .z (.k (.d (.k .a))) (.u (.k (.i (.string (ByteArray.mk #[100, 105, 118, 105, 115, 105, 111, 110])) (.i (.string (ByteArray.mk #[105, 110, 100, 101, 120])) (.i (.string (ByteArray.mk #[115, 105, 122, 101])) (.i (.string (ByteArray.mk #[116, 101, 120, 116])) (.i (.string (ByteArray.mk #[105, 110, 112, 117, 116])) (.i (.string (ByteArray.mk #[104, 101, 97, 112])) (.i (.string (ByteArray.mk #[102, 114, 97, 109, 101, 115])) (.i (.string (ByteArray.mk #[111, 117, 116, 112, 117, 116])) (.i (.string (ByteArray.mk #[115, 116, 101, 112, 115])) (.i (.string (ByteArray.mk #[107, 105, 110, 100])) .z))))))))))) .a) ?_
      refine RZ (NT (SQ (SQ (RG ?_))))
      refine RR [] .z (.i 10 (.bool false) .a) .a ?_
      refine RZ (NT (CF (SK (NT (SQ (RG ?_))))))
      refine RV true [0] .z (.i 2 (.string (ByteArray.mk #[111, 117, 116, 112, 117, 116])) .z) .a [(0 : Int) ≤ (8 : Int) ∧ (8 : Int) < (↑(11 : Nat) : Int)] ⟨by omega, trivial⟩ ?_
      refine RZ (NT (RE ?_))
      refine NE [] .z .a [] (.string (ByteArray.mk #[111, 117, 116, 112, 117, 116])) ?_
      exact ⟨rfl, rfl⟩
    · refine fn_enter Tryz.func29 rfl 14 rfl fun w0 h0 => ?_
      refine SQ (RG ?_)
      refine RR [] .z (.i 2 (.string ⟨#[]⟩) .a) .a ?_
      refine RZ (NT (SQ (RG ?_)))
      refine RP [] (.d (.d .a)) 3 (.i 4 (.agg #[.string ⟨#[]⟩, .string (ByteArray.mk #[100, 105, 118, 105, 115, 105, 111, 110]), .string (ByteArray.mk #[105, 110, 100, 101, 120]), .string (ByteArray.mk #[115, 105, 122, 101]), .string (ByteArray.mk #[116, 101, 120, 116]), .string (ByteArray.mk #[105, 110, 112, 117, 116]), .string (ByteArray.mk #[104, 101, 97, 112]), .string (ByteArray.mk #[102, 114, 97, 109, 101, 115]), .string (ByteArray.mk #[111, 117, 116, 112, 117, 116]), .string (ByteArray.mk #[115, 116, 101, 112, 115]), .string (ByteArray.mk #[107, 105, 110, 100])]) .a) .a 140 [.string ⟨#[]⟩, .string ⟨#[]⟩, .string ⟨#[]⟩, .string ⟨#[]⟩, .string ⟨#[]⟩, .string ⟨#[]⟩, .string ⟨#[]⟩, .string ⟨#[]⟩, .string ⟨#[]⟩, .string ⟨#[]⟩, .string ⟨#[]⟩] fun g1 => ?_
      refine RR [0, 0, 0, 0, 0, 0, 0, 0, 0, 0, 0] .z (.k (.d (.k .a))) (.u (.k (.i (.string (ByteArray.mk #[100, 105, 118, 105, 115, 105, 111, 110])) (.i (.string (ByteArray.mk #[105, 110, 100, 101, 120])) (.i (.string (ByteArray.mk #[115, 105, 122, 101])) (.i (.string (ByteArray.mk #[116, 101, 120, 116])) (.i (.string (ByteArray.mk #[105, 110, 112, 117, 116])) (.i (.string (ByteArray.mk #[104, 101, 97, 112])) (.i (.string (ByteArray.mk #[102, 114, 97, 109, 101, 115])) (.i (.string (ByteArray.mk #[111, 117, 116, 112, 117, 116])) (.i (.string (ByteArray.mk #[115, 116, 101, 112, 115])) (.i (.string (ByteArray.mk #[107, 105, 110, 100])) .z))))))))))) .a) ?_
      refine RZ (NT (SQ (SQ (RG ?_))))
      refine RR [] .z (.i 10 (.bool false) .a) .a ?_
      refine RZ (NT (CF (SK (NT (SQ (RG ?_))))))
      refine RV true [0] .z (.i 2 (.string (ByteArray.mk #[115, 116, 101, 112, 115])) .z) .a [(0 : Int) ≤ (9 : Int) ∧ (9 : Int) < (↑(11 : Nat) : Int)] ⟨by omega, trivial⟩ ?_
      refine RZ (NT (RE ?_))
      refine NE [] .z .a [] (.string (ByteArray.mk #[115, 116, 101, 112, 115])) ?_
      exact ⟨rfl, rfl⟩
    · refine fn_enter Tryz.func29 rfl 14 rfl fun w0 h0 => ?_
      refine SQ (RG ?_)
      refine RR [] .z (.i 2 (.string ⟨#[]⟩) .a) .a ?_
      refine RZ (NT (SQ (RG ?_)))
      refine RP [] (.d (.d .a)) 3 (.i 4 (.agg #[.string ⟨#[]⟩, .string (ByteArray.mk #[100, 105, 118, 105, 115, 105, 111, 110]), .string (ByteArray.mk #[105, 110, 100, 101, 120]), .string (ByteArray.mk #[115, 105, 122, 101]), .string (ByteArray.mk #[116, 101, 120, 116]), .string (ByteArray.mk #[105, 110, 112, 117, 116]), .string (ByteArray.mk #[104, 101, 97, 112]), .string (ByteArray.mk #[102, 114, 97, 109, 101, 115]), .string (ByteArray.mk #[111, 117, 116, 112, 117, 116]), .string (ByteArray.mk #[115, 116, 101, 112, 115]), .string (ByteArray.mk #[107, 105, 110, 100])]) .a) .a 140 [.string ⟨#[]⟩, .string ⟨#[]⟩, .string ⟨#[]⟩, .string ⟨#[]⟩, .string ⟨#[]⟩, .string ⟨#[]⟩, .string ⟨#[]⟩, .string ⟨#[]⟩, .string ⟨#[]⟩, .string ⟨#[]⟩, .string ⟨#[]⟩] fun g1 => ?_
      refine RR [0, 0, 0, 0, 0, 0, 0, 0, 0, 0, 0] .z (.k (.d (.k .a))) (.u (.k (.i (.string (ByteArray.mk #[100, 105, 118, 105, 115, 105, 111, 110])) (.i (.string (ByteArray.mk #[105, 110, 100, 101, 120])) (.i (.string (ByteArray.mk #[115, 105, 122, 101])) (.i (.string (ByteArray.mk #[116, 101, 120, 116])) (.i (.string (ByteArray.mk #[105, 110, 112, 117, 116])) (.i (.string (ByteArray.mk #[104, 101, 97, 112])) (.i (.string (ByteArray.mk #[102, 114, 97, 109, 101, 115])) (.i (.string (ByteArray.mk #[111, 117, 116, 112, 117, 116])) (.i (.string (ByteArray.mk #[115, 116, 101, 112, 115])) (.i (.string (ByteArray.mk #[107, 105, 110, 100])) .z))))))))))) .a) ?_
      refine RZ (NT (SQ (SQ (RG ?_))))
      refine RR [] .z (.i 10 (.bool false) .a) .a ?_
      refine RZ (NT (CF (SK (NT (SQ (RG ?_))))))
      refine RV true [0] .z (.i 2 (.string (ByteArray.mk #[107, 105, 110, 100])) .z) .a [(0 : Int) ≤ (10 : Int) ∧ (10 : Int) < (↑(11 : Nat) : Int)] ⟨by omega, trivial⟩ ?_
      refine RZ (NT (RE ?_))
      refine NE [] .z .a [] (.string (ByteArray.mk #[107, 105, 110, 100])) ?_
      exact ⟨rfl, rfl⟩
  · have hT : faultT n = [] := by
      unfold faultT
      rw [if_neg (by omega), if_neg (by omega), if_neg (by omega), if_neg (by omega), if_neg (by omega), if_neg (by omega), if_neg (by omega), if_neg (by omega), if_neg (by omega), if_neg (by omega)]
    rw [hT]
    refine fn_enter Tryz.func29 rfl 14 rfl fun w0 h0 => ?_
    by_cases h1 : n < 0
    · refine SQ (RG ?_)
      refine RR [] .z (.i 2 (.string ⟨#[]⟩) .a) .a ?_
      refine RZ (NT (SQ (RG ?_)))
      refine RP [] (.d (.d .a)) 3 (.i 4 (.agg #[.string ⟨#[]⟩, .string (ByteArray.mk #[100, 105, 118, 105, 115, 105, 111, 110]), .string (ByteArray.mk #[105, 110, 100, 101, 120]), .string (ByteArray.mk #[115, 105, 122, 101]), .string (ByteArray.mk #[116, 101, 120, 116]), .string (ByteArray.mk #[105, 110, 112, 117, 116]), .string (ByteArray.mk #[104, 101, 97, 112]), .string (ByteArray.mk #[102, 114, 97, 109, 101, 115]), .string (ByteArray.mk #[111, 117, 116, 112, 117, 116]), .string (ByteArray.mk #[115, 116, 101, 112, 115]), .string (ByteArray.mk #[107, 105, 110, 100])]) .a) .a 140 [.string ⟨#[]⟩, .string ⟨#[]⟩, .string ⟨#[]⟩, .string ⟨#[]⟩, .string ⟨#[]⟩, .string ⟨#[]⟩, .string ⟨#[]⟩, .string ⟨#[]⟩, .string ⟨#[]⟩, .string ⟨#[]⟩, .string ⟨#[]⟩] fun g1 => ?_
      refine RR [0, 0, 0, 0, 0, 0, 0, 0, 0, 0, 0] .z (.k (.d (.k .a))) (.u (.k (.i (.string (ByteArray.mk #[100, 105, 118, 105, 115, 105, 111, 110])) (.i (.string (ByteArray.mk #[105, 110, 100, 101, 120])) (.i (.string (ByteArray.mk #[115, 105, 122, 101])) (.i (.string (ByteArray.mk #[116, 101, 120, 116])) (.i (.string (ByteArray.mk #[105, 110, 112, 117, 116])) (.i (.string (ByteArray.mk #[104, 101, 97, 112])) (.i (.string (ByteArray.mk #[102, 114, 97, 109, 101, 115])) (.i (.string (ByteArray.mk #[111, 117, 116, 112, 117, 116])) (.i (.string (ByteArray.mk #[115, 116, 101, 112, 115])) (.i (.string (ByteArray.mk #[107, 105, 110, 100])) .z))))))))))) .a) ?_
      refine RZ (NT (SQ (SQ (RG ?_))))
      refine RR [] (.d (.d (.d .a))) (.i 7 (.bool (decide (n < (0 : Int)))) .a) .a ?_
      refine SR 7 (decide (n < (0 : Int))) true (decide_eq_true (by omega)) ?_
      refine RR [] .z (.i 10 (.bool true) (.d (.d (.k .a)))) .a ?_
      refine RZ (NT (CT (SQ (RG ?_))))
      refine RR [] .z (.i 2 (.string ⟨#[]⟩) (.d (.k (.d (.k .a))))) .a ?_
      refine RZ (NT (RE (TR ?_)))
      refine NE [] .z .a [] (.string ⟨#[]⟩) ?_
      exact ⟨rfl, rfl⟩
    · have h2 : 11 ≤ n := by omega
      refine SQ (RG ?_)
      refine RR [] .z (.i 2 (.string ⟨#[]⟩) .a) .a ?_
      refine RZ (NT (SQ (RG ?_)))
      refine RP [] (.d (.d .a)) 3 (.i 4 (.agg #[.string ⟨#[]⟩, .string (ByteArray.mk #[100, 105, 118, 105, 115, 105, 111, 110]), .string (ByteArray.mk #[105, 110, 100, 101, 120]), .string (ByteArray.mk #[115, 105, 122, 101]), .string (ByteArray.mk #[116, 101, 120, 116]), .string (ByteArray.mk #[105, 110, 112, 117, 116]), .string (ByteArray.mk #[104, 101, 97, 112]), .string (ByteArray.mk #[102, 114, 97, 109, 101, 115]), .string (ByteArray.mk #[111, 117, 116, 112, 117, 116]), .string (ByteArray.mk #[115, 116, 101, 112, 115]), .string (ByteArray.mk #[107, 105, 110, 100])]) .a) .a 140 [.string ⟨#[]⟩, .string ⟨#[]⟩, .string ⟨#[]⟩, .string ⟨#[]⟩, .string ⟨#[]⟩, .string ⟨#[]⟩, .string ⟨#[]⟩, .string ⟨#[]⟩, .string ⟨#[]⟩, .string ⟨#[]⟩, .string ⟨#[]⟩] fun g1 => ?_
      refine RR [0, 0, 0, 0, 0, 0, 0, 0, 0, 0, 0] .z (.k (.d (.k .a))) (.u (.k (.i (.string (ByteArray.mk #[100, 105, 118, 105, 115, 105, 111, 110])) (.i (.string (ByteArray.mk #[105, 110, 100, 101, 120])) (.i (.string (ByteArray.mk #[115, 105, 122, 101])) (.i (.string (ByteArray.mk #[116, 101, 120, 116])) (.i (.string (ByteArray.mk #[105, 110, 112, 117, 116])) (.i (.string (ByteArray.mk #[104, 101, 97, 112])) (.i (.string (ByteArray.mk #[102, 114, 97, 109, 101, 115])) (.i (.string (ByteArray.mk #[111, 117, 116, 112, 117, 116])) (.i (.string (ByteArray.mk #[115, 116, 101, 112, 115])) (.i (.string (ByteArray.mk #[107, 105, 110, 100])) .z))))))))))) .a) ?_
      refine RZ (NT (SQ (SQ (RG ?_))))
      refine RR [] (.d (.d (.d .a))) (.i 7 (.bool (decide (n < (0 : Int)))) .a) .a ?_
      refine SR 7 (decide (n < (0 : Int))) false (decide_eq_false (by omega)) ?_
      refine RR [] .z (.i 10 (.bool (decide (n ≥ (11 : Int)))) (.d (.d (.k .a)))) .a ?_
      refine RZ (NT ?_)
      refine SC 10 (decide (n ≥ (11 : Int))) true (decide_eq_true (by omega)) ?_
      refine CT (SQ (RG ?_))
      refine RR [] .z (.i 2 (.string ⟨#[]⟩) (.d (.d (.k (.d (.k .a)))))) .a ?_
      refine RZ (NT (RE (TR ?_)))
      refine NE [] .z .a [] (.string ⟨#[]⟩) ?_
      exact ⟨rfl, rfl⟩
theorem rFault_spec (n : Int) : Does Tryz.prog 30 [.int .i64 n] [] (fun v hp' => v = .string (mkS (faultT n)) ∧ hp' = []) := by
  by_cases h0 : 0 ≤ n ∧ n < 11
  · obtain rfl | rfl | rfl | rfl | rfl | rfl | rfl | rfl | rfl | rfl | rfl : n = 0 ∨ n = 1 ∨ n = 2 ∨ n = 3 ∨ n = 4 ∨ n = 5 ∨ n = 6 ∨ n = 7 ∨ n = 8 ∨ n = 9 ∨ n = 10 := by omega
    · refine fn_enter Tryz.func30 rfl 17 rfl fun w0 h0 => ?_
      refine SQ (RG ?_)
      refine RR [] .z (.i 2 (.string ⟨#[]⟩) .a) .a ?_
      refine RZ (NT (SQ (RG ?_)))
      refine RN [] (.d .a) 4 (fun g1 => (.slice (some ⟨g1, 0, none⟩) 11 11)) .a .a 9 [.string ⟨#[]⟩, .string (ByteArray.mk #[100, 105, 118, 105, 115, 105, 111, 110]), .string (ByteArray.mk #[105, 110, 100, 101, 120]), .string (ByteArray.mk #[115, 105, 122, 101]), .string (ByteArray.mk #[116, 101, 120, 116]), .string (ByteArray.mk #[105, 110, 112, 117, 116]), .string (ByteArray.mk #[104, 101, 97, 112]), .string (ByteArray.mk #[102, 114, 97, 109, 101, 115]), .string (ByteArray.mk #[111, 117, 116, 112, 117, 116]), .string (ByteArray.mk #[115, 116, 101, 112, 115]), .string (ByteArray.mk #[107, 105, 110, 100])] fun g1 => ?_
      refine RR [] .z (.i 3 (.slice (some ⟨g1, 0, none⟩) 11 11) (.d (.k .a))) .a ?_
      refine RZ (NT (SQ (SQ (RG ?_))))
      refine RR [] .z (.i 12 (.bool false) .a) .a ?_
      refine RZ (NT (CF (SK (NT (SQ (RG ?_))))))
      refine RV true [0] .z (.d (.d (.k .z))) .a [(0 : Int) ≤ (0 : Int) ∧ (0 : Int) < (↑(11 : Nat) : Int)] ⟨by omega, trivial⟩ ?_
      refine RZ (NT (RE ?_))
      refine NE [] .z .a [] (.string ⟨#[]⟩) ?_
      exact ⟨rfl, rfl⟩
    · refine fn_enter Tryz.func30 rfl 17 rfl fun w0 h0 => ?_
      refine SQ (RG ?_)
      refine RR [] .z (.i 2 (.string ⟨#[]⟩) .a) .a ?_
      refine RZ (NT (SQ (RG ?_)))
      refine RN [] (.d .a) 4 (fun g1 => (.slice (some ⟨g1, 0, none⟩) 11 11)) .a .a 9 [.string ⟨#[]⟩, .string (ByteArray.mk #[100, 105, 118, 105, 115, 105, 111, 110]), .string (ByteArray.mk #[105, 110, 100, 101, 120]), .string (ByteArray.mk #[115, 105, 122, 101]), .string (ByteArray.mk #[116, 101, 120, 116]), .string (ByteArray.mk #[105, 110, 112, 117, 116]), .string (ByteArray.mk #[104, 101, 97, 112]), .string (ByteArray.mk #[102, 114, 97, 109, 101, 115]), .string (ByteArray.mk #[111, 117, 116, 112, 117, 116]), .string (ByteArray.mk #[115, 116, 101, 112, 115]), .string (ByteArray.mk #[107, 105, 110, 100])] fun g1 => ?_
      refine RR [] .z (.i 3 (.slice (some ⟨g1, 0, none⟩) 11 11) (.d (.k .a))) .a ?_
      refine RZ (NT (SQ (SQ (RG ?_))))
      refine RR [] .z (.i 12 (.bool false) .a) .a ?_
      refine RZ (NT (CF (SK (NT (SQ (RG ?_))))))
      refine RV true [0] .z (.i 2 (.string (ByteArray.mk #[100, 105, 118, 105, 115, 105, 111, 110])) .z) .a [(0 : Int) ≤ (1 : Int) ∧ (1 : Int) < (↑(11 : Nat) : Int)] ⟨by omega, trivial⟩ ?_
      refine RZ (NT (RE ?_))
      refine NE [] .z .a [] (.string (ByteArray.mk #[100, 105, 118, 105, 115, 105, 111, 110])) ?_
      exact ⟨rfl, rfl⟩
    · refine fn_enter Tryz.func30 rfl 17 rfl fun w0 h0 => ?_
      refine SQ (RG ?_)
      refine RR [] .z (.i 2 (.string ⟨#[]⟩) .a) .a ?_
      refine RZ (NT (SQ (RG ?_)))
      refine RN [] (.d .a) 4 (fun g1 => (.slice (some ⟨g1, 0, none⟩) 11 11)) .a .a 9 [.string ⟨#[]⟩, .string (ByteArray.mk #[100, 105, 118, 105, 115, 105, 111, 110]), .string (ByteArray.mk #[105, 110, 100, 101, 120]), .string (ByteArray.mk #[115, 105, 122, 101]), .string (ByteArray.mk #[116, 101, 120, 116]), .string (ByteArray.mk #[105, 110, 112, 117, 116]), .string (ByteArray.mk #[104, 101, 97, 112]), .string (ByteArray.mk #[102, 114, 97, 109, 101, 115]), .string (ByteArray.mk #[111, 117, 116, 112, 117, 116]), .string (ByteArray.mk #[115, 116, 101, 112, 115]), .string (ByteArray.mk #[107, 105, 110, 100])] fun g1 => ?_
      refine RR [] .z (.i 3 (.slice (some ⟨g1, 0, none⟩) 11 11) (.d (.k .a))) .a ?_
      refine RZ (NT (SQ (SQ (RG ?_))))
      refine RR [] .z (.i 12 (.bool false) .a) .a ?_
      refine RZ (NT (CF (SK (NT (SQ (RG ?_))))))
      refine RV true [0] .z (.i 2 (.string (ByteArray.mk #[105, 110, 100, 101, 120])) .z) .a [(0 : Int) ≤ (2 : Int) ∧ (2 : Int) < (↑(11 : Nat) : Int)] ⟨by omega, trivial⟩ ?_
      refine RZ (NT (RE ?_))
      refine NE [] .z .a [] (.string (ByteArray.mk #[105, 110, 100, 101, 120])) ?_
      exact ⟨rfl, rfl⟩
    · refine fn_enter Tryz.func30 rfl 17 rfl fun w0 h0 => ?_
      refine SQ (RG ?_)
      refine RR [] .z (.i 2 (.string ⟨#[]⟩) .a) .a ?_
      refine RZ (NT (SQ (RG ?_)))
      refine RN [] (.d .a) 4 (fun g1 => (.slice (some ⟨g1, 0, none⟩) 11 11)) .a .a 9 [.string ⟨#[]⟩, .string (ByteArray.mk #[100, 105, 118, 105, 115, 105, 111, 110]), .string (ByteArray.mk #[105, 110, 100, 101, 120]), .string (ByteArray.mk #[115, 105, 122, 101]), .string (ByteArray.mk #[116, 101, 120, 116]), .string (ByteArray.mk #[105, 110, 112, 117, 116]), .string (ByteArray.mk #[104, 101, 97, 112]), .string (ByteArray.mk #[102, 114, 97, 109, 101, 115]), .string (ByteArray.mk #[111, 117, 116, 112, 117, 116]), .string (ByteArray.mk #[115, 116, 101, 112, 115]), .string (ByteArray.mk #[107, 105, 110, 100])] fun g1 => ?_
      refine RR [] .z (.i 3 (.slice (some ⟨g1, 0, none⟩) 11 11) (.d (.k .a))) .a ?_
      refine RZ (NT (SQ (SQ (RG ?_))))
      refine RR [] .z (.i 12 (.bool false) .a) .a ?_
      refine RZ (NT (CF (SK (NT (SQ (RG ?_))))))
      refine RV true [0] .z (.i 2 (.string (ByteArray.mk #[115, 105, 122, 101])) .z) .a [(0 : Int) ≤ (3 : Int) ∧ (3 : Int) < (↑(11 : Nat) : Int)] ⟨by omega, trivial⟩ ?_
      refine RZ (NT (RE ?_))
      refine NE [] .z .a [] (.string (ByteArray.mk #[115, 105, 122, 101])) ?_
      exact ⟨rfl, rfl⟩
    · refine fn_enter Tryz.func30 rfl 17 rfl fun w0 h0 => ?_
      refine SQ (RG ?_)
      refine RR [] .z (.i 2 (.string ⟨#[]⟩) .a) .a ?_
      refine RZ (NT (SQ (RG ?_)))
      refine RN [] (.d .a) 4 (fun g1 => (.slice (some ⟨g1, 0, none⟩) 11 11)) .a .a 9 [.string ⟨#[]⟩, .string (ByteArray.mk #[100, 105, 118, 105, 115, 105, 111, 110]), .string (ByteArray.mk #[105, 110, 100, 101, 120]), .string (ByteArray.mk #[115, 105, 122, 101]), .string (ByteArray.mk #[116, 101, 120, 116]), .string (ByteArray.mk #[105, 110, 112, 117, 116]), .string (ByteArray.mk #[104, 101, 97, 112]), .string (ByteArray.mk #[102, 114, 97, 109, 101, 115]), .string (ByteArray.mk #[111, 117, 116, 112, 117, 116]), .string (ByteArray.mk #[115, 116, 101, 112, 115]), .string (ByteArray.mk #[107, 105, 110, 100])] fun g1 => ?_
      refine RR [] .z (.i 3 (.slice (some ⟨g1, 0, none⟩) 11 11) (.d (.k .a))) .a ?_
      refine RZ (NT (SQ (SQ (RG ?_))))
      refine RR [] .z (.i 12 (.bool false) .a) .a ?_
      refine RZ (NT (CF (SK (NT (SQ (RG ?_))))))
      refine RV true [0] .z (.i 2 (.string (ByteArray.mk #[116, 101, 120, 116])) .z) .a [(0 : Int) ≤ (4 : Int) ∧ (4 : Int) < (↑(11 : Nat) : Int)] ⟨by omega, trivial⟩ ?_
      refine RZ (NT (RE ?_))
      refine NE [] .z .a [] (.string (ByteArray.mk #[116, 101, 120, 116])) ?_
      exact ⟨rfl, rfl⟩
    · refine fn_enter Tryz.func30 rfl 17 rfl fun w0 h0 => ?_
      refine SQ (RG ?_)
      refine RR [] .z (.i 2 (.string ⟨#[]⟩) .a) .a ?_
      refine RZ (NT (SQ (RG ?_)))
      refine RN [] (.d .a) 4 (fun g1 => (.slice (some ⟨g1, 0, none⟩) 11 11)) .a .a 9 [.string ⟨#[]⟩, .string (ByteArray.mk #[100, 105, 118, 105, 115, 105, 111, 110]), .string (ByteArray.mk #[105, 110, 100, 101, 120]), .string (ByteArray.mk #[115, 105, 122, 101]), .string (ByteArray.mk #[116, 101, 120, 116]), .string (ByteArray.mk #[105, 110, 112, 117, 116]), .string (ByteArray.mk #[104, 101, 97, 112]), .string (ByteArray.mk #[102, 114, 97, 109, 101, 115]), .string (ByteArray.mk #[111, 117, 116, 112, 117, 116]), .string (ByteArray.mk #[115, 116, 101, 112, 115]), .string (ByteArray.mk #[107, 105, 110, 100])] fun g1 => ?_
      refine RR [] .z (.i 3 (.slice (some ⟨g1, 0, none⟩) 11 11) (.d (.k .a))) .a ?_
      refine RZ (NT (SQ (SQ (RG ?_))))
      refine RR [] .z (.i 12 (.bool false) .a) .a ?_
      refine RZ (NT (CF (SK (NT (SQ (RG ?_))))))
      refine RV true [0] .z (.i 2 (.string (ByteArray.mk #[105, 110, 112, 117, 116])) .z) .a [(0 : Int) ≤ (5 : Int) ∧ (5 : Int) < (↑(11 : Nat) : Int)] ⟨by omega, trivial⟩ ?_
      refine RZ (NT (RE ?_))
      refine NE [] .z .a [] (.string (ByteArray.mk #[105, 110, 112, 117, 116])) ?_
      exact ⟨rfl, rfl⟩
    · refine fn_enter Tryz.func30 rfl 17 rfl fun w0 h0 => ?_
      refine SQ (RG ?_)
      refine RR [] .z (.i 2 (.string ⟨#[]⟩) .a) .a ?_
      refine RZ (NT (SQ (RG ?_)))
      refine RN [] (.d .a) 4 (fun g1 => (.slice (some ⟨g1, 0, none⟩) 11 11)) .a .a 9 [.string ⟨#[]⟩, .string (ByteArray.mk #[100, 105, 118, 105, 115, 105, 111, 110]), .string (ByteArray.mk #[105, 110, 100, 101, 120]), .string (ByteArray.mk #[115, 105, 122, 101]), .string (ByteArray.mk #[116, 101, 120, 116]), .string (ByteArray.mk #[105, 110, 112, 117, 116]), .string (ByteArray.mk #[104, 101, 97, 112]), .string (ByteArray.mk #[102, 114, 97, 109, 101, 115]), .string (ByteArray.mk #[111, 117, 116, 112, 117, 116]), .string (ByteArray.mk #[115, 116, 101, 112, 115]), .string (ByteArray.mk #[107, 105, 110, 100])] fun g1 => ?_
      refine RR [] .z (.i 3 (.slice (some ⟨g1, 0, none⟩) 11 11) (.d (.k .a))) .a ?_
      refine RZ (NT (SQ (SQ (RG ?_))))
      refine RR [] .z (.i 12 (.bool false) .a) .a ?_
      refine RZ (NT (CF (SK (NT (SQ (RG ?_))))))
      refine RV true [0] .z (.i 2 (.string (ByteArray.mk #[104, 101, 97, 112])) .z) .a [(0 : Int) ≤ (6 : Int) ∧ (6 : Int) < (↑(11 : Nat) : Int)] ⟨by omega, trivial⟩ ?_
      refine RZ (NT (RE ?_))
      refine NE [] .z .a [] (.string (ByteArray.mk #[104, 101, 97, 112])) ?_
      exact ⟨rfl, rfl⟩
    · refine fn_enter Tryz.func30 rfl 17 rfl fun w0 h0 => ?_
      refine SQ (RG ?_)
      refine RR [] .z (.i 2 (.string ⟨#[]⟩) .a) .a ?_
      refine RZ (NT (SQ (RG ?_)))
      refine RN [] (.d .a) 4 (fun g1 => (.slice (some ⟨g1, 0, none⟩) 11 11)) .a .a 9 [.string ⟨#[]⟩, .string (ByteArray.mk #[100, 105, 118, 105, 115, 105, 111, 110]), .string (ByteArray.mk #[105, 110, 100, 101, 120]), .string (ByteArray.mk #[115, 105, 122, 101]), .string (ByteArray.mk #[116, 101, 120, 116]), .string (ByteArray.mk #[105, 110, 112, 117, 116]), .string (ByteArray.mk #[104, 101, 97, 112]), .string (ByteArray.mk #[102, 114, 97, 109, 101, 115]), .string (ByteArray.mk #[111, 117, 116, 112, 117, 116]), .string (ByteArray.mk #[115, 116, 101, 112, 115]), .string (ByteArray.mk #[107, 105, 110, 100])] fun g1 => ?_
      refine RR [] .z (.i 3 (.slice (some ⟨g1, 0, none⟩) 11 11) (.d (.k .a))) .a ?_
      refine RZ (NT (SQ (SQ (RG ?_))))
      refine RR [] .z (.i 12 (.bool false) .a) .a ?_
      refine RZ (NT (CF (SK (NT (SQ (RG ?_))))))
      refine RV true [0] .z (.i 2 (.string (ByteArray.mk #[102, 114, 97, 109, 101, 115])) .z) .a [(0 : Int) ≤ (7 : Int) ∧ (7 : Int) < (↑(11 : Nat) : Int)] ⟨by omega, trivial⟩ ?_
      refine RZ (NT (RE ?_))
      refine NE [] .z .a [] (.string (ByteArray.mk #[102, 114, 97, 109, 101, 115])) ?_
      exact ⟨rfl, rfl⟩
    · refine fn_enter Tryz.func30 rfl 17 rfl fun w0 h0 => ?_
      refine SQ (RG ?_)
      refine RR [] .z (.i 2 (.string ⟨#[]⟩) .a) .a ?_
      refine RZ (NT (SQ (RG ?_)))
      refine RN [] (.d .a) 4 (fun g1 => (.slice (some ⟨g1, 0, none⟩) 11 11)) .a .a 9 [.string ⟨#[]⟩, .string (ByteArray.mk #[100, 105, 118, 105, 115, 105, 111, 110]), .string (ByteArray.mk #[105, 110, 100, 101, 120]), .string (ByteArray.mk #[115, 105, 122, 101]), .string (ByteArray.mk #[116, 101, 120, 116]), .string (ByteArray.mk #[105, 110, 112, 117, 116]), .string (ByteArray.mk #[104, 101, 97, 112]), .string (ByteArray.mk #[102, 114, 97, 109, 101, 115]), .string (ByteArray.mk #[111, 117, 116, 112, 117, 116]), .string (ByteArray.mk #[115, 116, 101, 112, 115]), .string (ByteArray.mk #[107, 105, 110, 100])] fun g1 => ?_
      refine RR [] .z (.i 3 (.slice (some ⟨g1, 0, none⟩) 11 11) (.d (.k .a))) .a ?_
      refine RZ (NT (SQ (SQ (RG ?_))))
      refine RR [] .z (.i 12 (.bool false) .a) .a ?_
      refine RZ (NT (CF (SK (NT (SQ (RG ?_))))))
      refine RV true [0] .z (.i 2 (.string (ByteArray.mk #[111, 117, 116, 112, 117, 116])) .z) .a [(0 : Int) ≤ (8 : Int) ∧ (8 : Int) < (↑(11 : Nat) : Int)] ⟨by omega, trivial⟩ ?_
      refine RZ (NT (RE ?_))
      refine NE [] .z .a [] (.string (ByteArray.mk #[111, 117, 116, 112, 117, 116])) ?_
      exact ⟨rfl, rfl⟩
    · refine fn_enter Tryz.func30 rfl 17 rfl fun w0 h0 => ?_
      refine SQ (RG ?_)
      refine RR [] .z (.i 2 (.string ⟨#[]⟩) .a) .a ?_
      refine RZ (NT (SQ (RG ?_)))
      refine RN [] (.d .a) 4 (fun g1 => (.slice (some ⟨g1, 0, none⟩) 11 11)) .a .a 9 [.string ⟨#[]⟩, .string (ByteArray.mk #[100, 105, 118, 105, 115, 105, 111, 110]), .string (ByteArray.mk #[105, 110, 100, 101, 120]), .string (ByteArray.mk #[115, 105, 122, 101]), .string (ByteArray.mk #[116, 101, 120, 116]), .string (ByteArray.mk #[105, 110, 112, 117, 116]), .string (ByteArray.mk #[104, 101, 97, 112]), .string (ByteArray.mk #[102, 114, 97, 109, 101, 115]), .string (ByteArray.mk #[111, 117, 116, 112, 117, 116]), .string (ByteArray.mk #[115, 116, 101, 112, 115]), .string (ByteArray.mk #[107, 105, 110, 100])] fun g1 => ?_
      refine RR [] .z (.i 3 (.slice (some ⟨g1, 0, none⟩) 11 11) (.d (.k .a))) .a ?_
      refine RZ (NT (SQ (SQ (RG ?_))))
      refine RR [] .z (.i 12 (.bool false) .a) .a ?_
      refine RZ (NT (CF (SK (NT (SQ (RG ?_))))))
      refine RV true [0] .z (.i 2 (.string (ByteArray.mk #[115, 116, 101, 112, 115])) .z) .a [(0 : Int) ≤ (9 : Int) ∧ (9 : Int) < (↑(11 : Nat) : Int)] ⟨by omega, trivial⟩ ?_
      refine RZ (NT (RE ?_))
      refine NE [] .z .a [] (.string (ByteArray.mk #[115, 116, 101, 112, 115])) ?_
      exact ⟨rfl, rfl⟩
    · refine fn_enter Tryz.func30 rfl 17 rfl fun w0 h0 => ?_
      refine SQ (RG ?_)
      refine RR [] .z (.i 2 (.string ⟨#[]⟩) .a) .a ?_
      refine RZ (NT (SQ (RG ?_)))
      refine RN [] (.d .a) 4 (fun g1 => (.slice (some ⟨g1, 0, none⟩) 11 11)) .a .a 9 [.string ⟨#[]⟩, .string (ByteArray.mk #[100, 105, 118, 105, 115, 105, 111, 110]), .string (ByteArray.mk #[105, 110, 100, 101, 120]), .string (ByteArray.mk #[115, 105, 122, 101]), .string (ByteArray.mk #[116, 101, 120, 116]), .string (ByteArray.mk #[105, 110, 112, 117, 116]), .string (ByteArray.mk #[104, 101, 97, 112]), .string (ByteArray.mk #[102, 114, 97, 109, 101, 115]), .string (ByteArray.mk #[111, 117, 116, 112, 117, 116]), .string (ByteArray.mk #[115, 116, 101, 112, 115]), .string (ByteArray.mk #[107, 105, 110, 100])] fun g1 => ?_
      refine RR [] .z (.i 3 (.slice (some ⟨g1, 0, none⟩) 11 11) (.d (.k .a))) .a ?_
      refine RZ (NT (SQ (SQ (RG ?_))))
      refine RR [] .z (.i 12 (.bool false) .a) .a ?_
      refine RZ (NT (CF (SK (NT (SQ (RG ?_))))))
      refine RV true [0] .z (.i 2 (.string (ByteArray.mk #[107, 105, 110, 100])) .z) .a [(0 : Int) ≤ (10 : Int) ∧ (10 : Int) < (↑(11 : Nat) : Int)] ⟨by omega, trivial⟩ ?_
      refine RZ (NT (RE ?_))
      refine NE [] .z .a [] (.string (ByteArray.mk #[107, 105, 110, 100])) ?_
      exact ⟨rfl, rfl⟩
  · have hT : faultT n = [] := by
      unfold faultT
      rw [if_neg (by omega), if_neg (by omega), if_neg (by omega), if_neg (by omega), if_neg (by omega), if_neg (by omega), if_neg (by omega), if_neg (by omega), if_neg (by omega), if_neg (by omega)]
    rw [hT]
    refine fn_enter Tryz.func30 rfl 17 rfl fun w0 h0 => ?_
    by_cases h1 : n < 0
    · refine SQ (RG ?_)
      refine RR [] .z (.i 2 (.string ⟨#[]⟩) .a) .a ?_
      refine RZ (NT (SQ (RG ?_)))
      refine RN [] (.d .a) 4 (fun g1 => (.slice (some ⟨g1, 0, none⟩) 11 11)) .a .a 9 [.string ⟨#[]⟩, .string (ByteArray.mk #[100, 105, 118, 105, 115, 105, 111, 110]), .string (ByteArray.mk #[105, 110, 100, 101, 120]), .string (ByteArray.mk #[115, 105, 122, 101]), .string (ByteArray.mk #[116, 101, 120, 116]), .string (ByteArray.mk #[105, 110, 112, 117, 116]), .string (ByteArray.mk #[104, 101, 97, 112]), .string (ByteArray.mk #[102, 114, 97, 109, 101, 115]), .string (ByteArray.mk #[111, 117, 116, 112, 117, 116]), .string (ByteArray.mk #[115, 116, 101, 112, 115]), .string (ByteArray.mk #[107, 105, 110, 100])] fun g1 => ?_
      refine RR [] .z (.i 3 (.slice (some ⟨g1, 0, none⟩) 11 11) (.d (.k .a))) .a ?_
      refine RZ (NT (SQ (SQ (RG ?_))))
      refine RR [] (.d (.d (.d .a))) (.i 7 (.bool (decide (n < (0 : Int)))) .a) .a ?_
      refine SR 7 (decide (n < (0 : Int))) true (decide_eq_true (by omega)) ?_
      refine RR [] .z (.i 12 (.bool true) (.d (.d (.k .a)))) .a ?_
      refine RZ (NT (CT (SQ (RG ?_))))
      refine RR [] .z (.i 2 (.string ⟨#[]⟩) (.d (.k (.d (.k .a))))) .a ?_
      refine RZ (NT (RE (TR ?_)))
      refine NE [] .z .a [] (.string ⟨#[]⟩) ?_
      exact ⟨rfl, rfl⟩
    · have h2 : 11 ≤ n := by omega
      refine SQ (RG ?_)
      refine RR [] .z (.i 2 (.string ⟨#[]⟩) .a) .a ?_
      refine RZ (NT (SQ (RG ?_)))
      refine RN [] (.d .a) 4 (fun g1 => (.slice (some ⟨g1, 0, none⟩) 11 11)) .a .a 9 [.string ⟨#[]⟩, .string (ByteArray.mk #[100, 105, 118, 105, 115, 105, 111, 110]), .string (ByteArray.mk #[105, 110, 100, 101, 120]), .string (ByteArray.mk #[115, 105, 122, 101]), .string (ByteArray.mk #[116, 101, 120, 116]), .string (ByteArray.mk #[105, 110, 112, 117, 116]), .string (ByteArray.mk #[104, 101, 97, 112]), .string (ByteArray.mk #[102, 114, 97, 109, 101, 115]), .string (ByteArray.mk #[111, 117, 116, 112, 117, 116]), .string (ByteArray.mk #[115, 116, 101, 112, 115]), .string (ByteArray.mk #[107, 105, 110, 100])] fun g1 => ?_
      refine RR [] .z (.i 3 (.slice (some ⟨g1, 0, none⟩) 11 11) (.d (.k .a))) .a ?_
      refine RZ (NT (SQ (SQ (RG ?_))))
      refine RR [] (.d (.d (.d .a))) (.i 7 (.bool (decide (n < (0 : Int)))) .a) .a ?_
      refine SR 7 (decide (n < (0 : Int))) false (decide_eq_false (by omega)) ?_
      refine RR [] .z (.i 12 (.bool (decide (n ≥ (11 : Int)))) (.d (.d (.k .a)))) .a ?_
      refine RZ (NT ?_)
      refine SC 12 (decide (n ≥ (11 : Int))) true (decide_eq_true (by omega)) ?_
      refine CT (SQ (RG ?_))
      refine RR [] .z (.i 2 (.string ⟨#[]⟩) (.d (.d (.k (.d (.k .a)))))) .a ?_
      refine RZ (NT (RE (TR ?_)))
      refine NE [] .z .a [] (.string ⟨#[]⟩) ?_
      exact ⟨rfl, rfl⟩
theorem status_spec (v : ViV) : Does Tryz.prog 75 [.agg (lkC v).toArray] [] (fun r hp' => r = .tuple #[.string (mkS (statusT v.status v.fault)), .bool (statusB v.status v.fault)] ∧ hp' = []) := by
  rw [show lkC v = [.int .i64 v.pos, .int .i64 v.status, .int .i64 v.fault, .slice v.fa v.frames.length v.fc, .string (mkS v.out)] from rfl]
  have hF := Fault_spec v.fault
  have hsz : (mkS (faultT v.fault)).size = (faultT v.fault).length := mkS_size _
  have hfl := faultT_len v.fault
  refine fn_enter Tryz.func75 rfl 29 rfl fun w0 h0 => ?_
  refine SQ (RG ?_)
  refine RP [] (.d .a) 1 .z .a 71 [.int .i64 v.pos, .int .i64 v.status, .int .i64 v.fault, .slice v.fa v.frames.length v.fc, .string (mkS v.out)] fun g1 => ?_
  refine RR [] .z (.i 3 (.bool false) (.i 2 (.string ⟨#[]⟩) .a)) .a ?_
  refine RZ (NT (SQ (RG ?_)))
  refine RR [0] (.d (.d .a)) (.i 6 (.int .i64 v.fault) .a) .a ?_
  refine RC (dst := some 7) [] .a (hF) ?_
  rintro r _ ⟨rfl, rfl⟩
  unfold statusT statusB
  by_cases h0 : v.status = 0
  · rw [if_pos h0, if_pos h0]
    refine RR [] .z (.i 4 (.string (mkS (faultT v.fault))) (.d (.d (.k .a)))) .a ?_
    refine RZ (NT (SQ (SQ (RG ?_))))
    refine RR [0] .z (.i 9 (.int .i64 v.status) .a) .a ?_
    refine RZ (NT (BK (SQ (RG ?_))))
    refine RR [] .z (.i 10 (.bool (v.status == (0 : Int))) .a) .a ?_
    refine RZ (NT ?_)
    refine SC 10 (v.status == (0 : Int)) true (by simp only [bne_iff_ne, beq_iff_eq, ne_eq]; omega) ?_
    refine CT (SQ ?_)
    refine wpc_draw (by kernel_rfl) [.blk g1 71 [.int .i64 v.pos, .int .i64 v.status, .int .i64 v.fault, .slice v.fa v.frames.length v.fc, .string (mkS v.out)]] (sub_of [0] (by kernel_rfl)) 5 (by kernel_rfl) ?_
    refine TK 0 [(0, []), (1, [0]), (2, []), (3, []), (4, [])] (.i 3 (.bool (v.fault == (0 : Int))) (.i 2 (.string (ByteArray.mk #[32, 114, 117, 110, 110, 105, 110, 103])) (.d (.d (.d (.k (.d (.d (.k .a))))))))) (#[true, true, true, true, true]) ?_
    refine wpa_done 0 (by kernel_rfl) ?_
    refine NT (RE (BR (TR ?_)))
    refine NE [] .z .a [] (.tuple #[.string (ByteArray.mk #[32, 114, 117, 110, 110, 105, 110, 103]), .bool (v.fault == 0)]) ?_
    exact ⟨rfl, rfl⟩
  · rw [if_neg h0, if_neg h0]
    by_cases h1 : v.status = 1
    · rw [if_pos h1, if_pos h1]
      refine RR [] .z (.i 4 (.string (mkS (faultT v.fault))) (.d (.d (.k .a)))) .a ?_
      refine RZ (NT (SQ (SQ (RG ?_))))
      refine RR [0] .z (.i 9 (.int .i64 v.status) .a) .a ?_
      refine RZ (NT (BK (SQ (RG ?_))))
      refine RR [] .z (.i 10 (.bool (v.status == (0 : Int))) .a) .a ?_
      refine RZ (NT ?_)
      refine SC 10 (v.status == (0 : Int)) false (by simp only [bne_eq_false_iff_eq, beq_eq_false_iff_ne, ne_eq]; omega) ?_
      refine CF (SQ (RG ?_))
      refine RR [] .z (.i 15 (.bool (v.status == (1 : Int))) (.d (.d (.d (.k .a))))) .a ?_
      refine RZ (NT ?_)
      refine SC 15 (v.status == (1 : Int)) true (by simp only [bne_iff_ne, beq_iff_eq, ne_eq]; omega) ?_
      refine CT (SQ ?_)
      refine wpc_draw (by kernel_rfl) [.blk g1 71 [.int .i64 v.pos, .int .i64 v.status, .int .i64 v.fault, .slice v.fa v.frames.length v.fc, .string (mkS v.out)]] (sub_of [0] (by kernel_rfl)) 5 (by kernel_rfl) ?_
      refine TK 0 [(0, []), (1, [0]), (2, []), (3, []), (4, [])] (.i 3 (.bool (v.fault == (0 : Int))) (.i 2 (.string (ByteArray.mk #[32, 100, 111, 110, 101])) (.d (.d (.k (.d (.d (.k .a)))))))) (#[true, true, true, true, true]) ?_
      refine wpa_done 0 (by kernel_rfl) ?_
      refine NT (RE (BR (TR ?_)))
      refine NE [] .z .a [] (.tuple #[.string (ByteArray.mk #[32, 100, 111, 110, 101]), .bool (v.fault == 0)]) ?_
      exact ⟨rfl, rfl⟩
    · rw [if_neg h1, if_neg h1]
      obtain ⟨F, hFF⟩ : ∃ F, F = faultT v.fault := ⟨_, rfl⟩
      rw [← hFF] at hfl hsz ⊢
      by_cases h2 : v.status = 2
      · refine RR [] .z (.i 4 (.string (mkS F)) (.d (.d (.k .a)))) .a ?_
        refine RZ (NT (SQ (SQ (RG ?_))))
        refine RR [0] .z (.i 9 (.int .i64 v.status) .a) .a ?_
        refine RZ (NT (BK (SQ (RG ?_))))
        refine RR [] .z (.i 10 (.bool (v.status == (0 : Int))) .a) .a ?_
        refine RZ (NT ?_)
        refine SC 10 (v.status == (0 : Int)) false (by simp only [bne_eq_false_iff_eq, beq_eq_false_iff_ne, ne_eq]; omega) ?_
        refine CF (SQ (RG ?_))
        refine RR [] .z (.i 15 (.bool (v.status == (1 : Int))) (.d (.d (.d (.k .a))))) .a ?_
        refine RZ (NT ?_)
        refine SC 15 (v.status == (1 : Int)) false (by simp only [bne_eq_false_iff_eq, beq_eq_false_iff_ne, ne_eq]; omega) ?_
        refine CF (SK (BN (NT (SQ (RG ?_)))))
        refine RV true [0] (.d (.d (.d (.d (.d (.d .a)))))) (.i 25 (.bool (v.status == (2 : Int))) (.i 21 (.string (mkS ([32, 102, 97, 117, 108, 116, 32] ++ F))) (.d (.d (.k (.k (.k .z))))))) .a ([(ByteArray.mk #[(32 : UInt8), (102 : UInt8), (97 : UInt8), (117 : UInt8), (108 : UInt8), (116 : UInt8), (32 : UInt8)]).size + List.length F ≤ (9223372036854775807 : Nat)]) ⟨by simp only [List.length_append, List.length_cons, List.length_nil, show ∀ l : List UInt8, (ByteArray.mk l.toArray).size = l.length from fun _ => rfl]; omega, trivial⟩ ?_
        refine SR 25 (v.status == (2 : Int)) true (by simp only [bne_iff_ne, beq_iff_eq, ne_eq]; omega) ?_
        refine RR [] .z (.i 3 (.bool !decide (F = [])) (.i 2 (.string (mkS ([32, 102, 97, 117, 108, 116, 32] ++ F))) .z)) .a ?_
        refine RZ (NT (RE ?_))
        refine NE [] .z .a [] (.tuple #[.string (mkS ([32, 102, 97, 117, 108, 116, 32] ++ F)), .bool !decide (F = [])]) ?_
        exact ⟨by rw [decide_eq_true h2, Bool.true_and, decide_not], rfl⟩
      · refine RR [] .z (.i 4 (.string (mkS F)) (.d (.d (.k .a)))) .a ?_
        refine RZ (NT (SQ (SQ (RG ?_))))
        refine RR [0] .z (.i 9 (.int .i64 v.status) .a) .a ?_
        refine RZ (NT (BK (SQ (RG ?_))))
        refine RR [] .z (.i 10 (.bool (v.status == (0 : Int))) .a) .a ?_
        refine RZ (NT ?_)
        refine SC 10 (v.status == (0 : Int)) false (by simp only [bne_eq_false_iff_eq, beq_eq_false_iff_ne, ne_eq]; omega) ?_
        refine CF (SQ (RG ?_))
        refine RR [] .z (.i 15 (.bool (v.status == (1 : Int))) (.d (.d (.d (.k .a))))) .a ?_
        refine RZ (NT ?_)
        refine SC 15 (v.status == (1 : Int)) false (by simp only [bne_eq_false_iff_eq, beq_eq_false_iff_ne, ne_eq]; omega) ?_
        refine CF (SK (BN (NT (SQ (RG ?_)))))
        refine RV true [0] (.d (.d (.d (.d (.d (.d .a)))))) (.i 25 (.bool (v.status == (2 : Int))) (.i 21 (.string (mkS ([32, 102, 97, 117, 108, 116, 32] ++ F))) (.d (.d (.k (.k (.k .z))))))) .a ([(ByteArray.mk #[(32 : UInt8), (102 : UInt8), (97 : UInt8), (117 : UInt8), (108 : UInt8), (116 : UInt8), (32 : UInt8)]).size + List.length F ≤ (9223372036854775807 : Nat)]) ⟨by simp only [List.length_append, List.length_cons, List.length_nil, show ∀ l : List UInt8, (ByteArray.mk l.toArray).size = l.length from fun _ => rfl]; omega, trivial⟩ ?_
        refine SR 25 (v.status == (2 : Int)) false (by simp only [bne_eq_false_iff_eq, beq_eq_false_iff_ne, ne_eq]; omega) ?_
        refine RR [] .z (.d (.d (.d (.d (.k (.i 2 (.string (mkS ([32, 102, 97, 117, 108, 116, 32] ++ F))) .z)))))) .a ?_
        refine RZ (NT (RE ?_))
        refine NE [] .z .a [] (.tuple #[.string (mkS ([32, 102, 97, 117, 108, 116, 32] ++ F)), .bool false]) ?_
        exact ⟨by rw [decide_eq_false h2, Bool.false_and], rfl⟩
end Go.Proofs.YtgcfomhlgipllaaGreatDoor
namespace Go.Proofs.YtgcfomhlgipllaaGreatDoor
open Go Go.Sx
theorem strs_apps (l m : List Tx) : strsC l ++ strsC m = strsC (l ++ m) := by simp [strsC]
theorem stop_spec (s : SpV) (hs : s.ok) : Does Tryz.prog 80 [.agg (spC s).toArray] [gPow] (fun r hp' => r = .string (mkS (stopT s)) ∧ hp' = []) := by
  obtain ⟨h1, h2, h3, h4⟩ := hs
  unfold okText at h3 h4
  rw [show spC s = [.int .i64 s.id, .int .i64 s.line, .string (mkS s.cond), .string (mkS s.watch), .bool s.off] from rfl]
  have hI := Itoa_spec s.id h1.1 h1.2
  have hL := Itoa_spec s.line h2.1 h2.2
  have hIl := itoa_len20 h1
  have hLl := itoa_len20 h2
  unfold stopT stopL
  obtain ⟨I, hIe⟩ : ∃ I, I = Lib.itoa s.id := ⟨_, rfl⟩
  obtain ⟨Ln, hLe⟩ : ∃ I, I = Lib.itoa s.line := ⟨_, rfl⟩
  rw [← hIe] at hI hIl
  rw [← hLe] at hL hLl
  rw [← hIe, ← hLe]
  refine fn_enter Tryz.func80 rfl 42 rfl fun w0 h0 => ?_
  refine SQ (RG ?_)
  refine RP [] (.d .a) 1 .z .a 151 [.int .i64 s.id, .int .i64 s.line, .string (mkS s.cond), .string (mkS s.watch), .bool s.off] fun g1 => ?_
  refine RR [] .z (.i 2 (.string ⟨#[]⟩) .a) .a ?_
  refine RZ (NT (SQ (RG ?_)))
  refine RR [1] (.d (.d .a)) (.i 5 (.int .i64 s.id) .a) .a ?_
  refine RCG (dst := some 6) .a (hI) (GV (GI []) 0 view_gPow) ?_
  rintro r _ ⟨rfl, rfl⟩
  refine RN [] (.d .a) 7 (fun g2 => (.slice (some ⟨g2, 0, none⟩) 2 2)) (.d (.d (.k .a))) .a 9 [.string (ByteArray.mk #[35]), .string (mkS I)] fun g2 => ?_
  refine RR [] .z (.i 3 (.slice (some ⟨g2, 0, none⟩) 2 2) (.d (.k .a))) .a ?_
  refine RZ (NT (SQ (BK (SQ (RG ?_)))))
  refine RR [1] .z (.i 14 (.bool !decide (s.watch = [])) .a) .a ?_
  refine RZ (NT ?_)
  refine wpc_ent (ent_turn 2 (row 9 1 (some ⟨g2, 0, none⟩) 2 2 (strsC [[35], I])) rfl (turn_blk rfl (strs_one [[35], I]) (by decide)) rfl) ?_
  obtain ⟨P, hP⟩ : ∃ P, P = (if s.watch ≠ [] then [[32, 119, 97, 116, 99, 104, 32], s.watch] else if s.cond ≠ [] then [[32, 108, 105, 110, 101, 32], Ln, [32, 105, 102, 32], s.cond] else [[32, 108, 105, 110, 101, 32], Ln]) := ⟨_, rfl⟩
  rw [← hP]
  refine wpc_joinx (X := Option Addr × Nat) (fun y => St.mk [(3, .slice y.1 ([[35], I] ++ P).length y.2), (2, .string ⟨#[]⟩), (1, .pointer (some ⟨g1, 0, none⟩))]
    [gPow, .blk g1 151 [.int .i64 s.id, .int .i64 s.line, .string (mkS s.cond), .string (mkS s.watch), .bool s.off], row 9 1 y.1 ([[35], I] ++ P).length y.2 (strsC ([[35], I] ++ P))]) (fun Q1 hQ1 hk => ?_) ?_
  · by_cases hw : s.watch = []
    · rw [if_neg (by rw [hw]; decide)] at hP
      by_cases hc : s.cond = []
      · rw [if_neg (by rw [hc]; decide)] at hP
        refine SC 14 (!decide (s.watch = [])) false (by simp; omega) ?_
        refine CF (SQ (RG ?_))
        refine RR [1] .z (.i 23 (.bool !decide (s.cond = [])) (.d (.d (.k .a)))) .a ?_
        refine RZ (NT ?_)
        refine SC 23 (!decide (s.cond = [])) false (by simp; omega) ?_
        refine CF (RG ?_)
        refine RR [1] (.d (.d (.d .a))) (.i 10 (.int .i64 s.line) (.i 8 (.slice (some ⟨g2, 0, none⟩) 2 2) (.d (.d (.k .a))))) .a ?_
        refine RCG (dst := some 11) .a (hL) (GV (GI []) 0 view_gPow) ?_
        rintro r _ ⟨rfl, rfl⟩
        refine RN [] (.d .a) 12 (fun g3 => (.slice (some ⟨g3, 0, none⟩) 2 2)) (.d (.d (.k .a))) .a 9 [.string (ByteArray.mk #[32, 108, 105, 110, 101, 32]), .string (mkS Ln)] fun g3 => ?_
        refine wpr_ent (ent_turn 3 (ro (some ⟨g3, 0, none⟩) (strsC P)) rfl (by rw [hP]; exact turn_rblk (strs_one [[32, 108, 105, 110, 101, 32], Ln])) rfl) ?_
        refine wpr_app (a := (some ⟨g2, 0, none⟩)) (n := 2) (cap := 2) (x := (.slice (some ⟨g3, 0, none⟩) 2 2)) (t := 22) (xt := 22) (dst := some 13) (by kernel_rfl) (e := 9) (sz := 1) (bytes := 16) (by kernel_rfl) 2 (xs := (strsC [[35], I])) (by kernel_rfl) (m := 2) (news := (strsC P)) (fun w h => src_ro h 3 rfl (by rw [hP]; rfl) (fun e => by cases e)) (by unfold maxLen; omega) (by omega) ?_
        intro a2 c2 hn2
        rw [strs_apps, show 2 + 2 = ([[35], I] ++ P).length from by rw [hP]; rfl]
        refine RR [] .z (.i 3 (.slice a2 ([[35], I] ++ P).length c2) (.d (.d (.d (.d (.k .a)))))) .a ?_
        refine RZ ?_
        exact nx_ent (ent_hp [0, 0, 0] rfl) (nx_ent (ent_fr (by kernel_rfl)) (hk (a2, c2)))
      · rw [if_pos hc] at hP
        refine SC 14 (!decide (s.watch = [])) false (by simp; omega) ?_
        refine CF (SQ (RG ?_))
        refine RR [1] .z (.i 23 (.bool !decide (s.cond = [])) (.d (.d (.k .a)))) .a ?_
        refine RZ (NT ?_)
        refine SC 23 (!decide (s.cond = [])) true (by simp; omega) ?_
        refine CT ?_
        refine wpc_draw (by kernel_rfl) [gPow, .blk g1 151 [.int .i64 s.id, .int .i64 s.line, .string (mkS s.cond), .string (mkS s.watch), .bool s.off]] (sub_of [0, 1] (by kernel_rfl)) 9 (by kernel_rfl) ?_
        refine TK 4 [(0, []), (1, []), (2, [1]), (4, []), (5, [1])] (.i 32 (.string (mkS s.cond)) (.i 29 (.int .i64 s.line) (.i 27 (.slice (some ⟨g2, 0, none⟩) 2 2) (.d (.d (.k .a)))))) (#[true, true, true, false, true, true, false, false, false]) ?_
        refine AC (dst := some 30) 3 3 .a (hL) (GV (GI []) 0 view_gPow) [0, 1] ?_
        rintro r _ ⟨rfl, rfl⟩
        refine wpa_new (n := 2) true 6 [] (fun g3 => [(33, .slice (some ⟨g3, 0, none⟩) 4 4), (27, .slice (some ⟨g2, 0, none⟩) 2 2), (3, .slice (some ⟨g2, 0, none⟩) 2 2), (2, .string ⟨#[]⟩), (1, .pointer (some ⟨g1, 0, none⟩))]) (fun g3 => [gPow, .blk g1 151 [.int .i64 s.id, .int .i64 s.line, .string (mkS s.cond), .string (mkS s.watch), .bool s.off], row 9 1 (some ⟨g2, 0, none⟩) 2 2 (strsC [[35], I]), .blk g3 9 [.string (ByteArray.mk #[32, 108, 105, 110, 101, 32]), .string (mkS Ln), .string (ByteArray.mk #[32, 105, 102, 32]), .string (mkS s.cond)]]) (fun g3 => []) (by kernel_rfl) (fun g3 => by kernel_rfl) (fun g3 => by kernel_rfl) (fun g3 => trivial) (fun g3 => sub_of [0, 1] (by kernel_rfl)) fun g3 => ?_
        refine wpa_ent (ent_turn 3 (ro (some ⟨g3, 0, none⟩) (strsC P)) rfl (by rw [hP]; exact turn_rblk (strs_one [[32, 108, 105, 110, 101, 32], Ln, [32, 105, 102, 32], s.cond])) rfl) ?_
        refine wpa_app (i := 7) (nf := 1) (by kernel_rfl) (a := (some ⟨g2, 0, none⟩)) (n := 2) (cap := 2) (x := (.slice (some ⟨g3, 0, none⟩) 4 4)) (t := 22) (xt := 22) (dst := some 34) (by kernel_rfl) (e := 9) (sz := 1) (bytes := 16) (by kernel_rfl) 2 (xs := (strsC [[35], I])) (by kernel_rfl) (m := 4) (news := (strsC P)) (fun w h => src_ro h 3 rfl (by rw [hP]; rfl) (fun e => by cases e)) (by unfold maxLen; omega) (by omega) [0, 1] (by kernel_rfl) ?_
        intro a2 c2 hn2
        rw [strs_apps, show 2 + 4 = ([[35], I] ++ P).length from by rw [hP]; rfl]
        refine TK 0 [(8, [])] (.i 3 (.slice a2 ([[35], I] ++ P).length c2) (.d (.d (.d (.d (.k .a)))))) (#[true, true, true, true, true, true, true, true, true]) ?_
        refine wpa_done 0 (by kernel_rfl) ?_
        exact nx_ent (ent_hp [0, 0, 0] rfl) (nx_ent (ent_fr (by kernel_rfl)) (hk (a2, c2)))
    · rw [if_pos hw] at hP
      refine SC 14 (!decide (s.watch = [])) true (by simp; omega) ?_
      refine CT (RG ?_)
      refine RN [1] (.d (.d (.d (.d .a)))) 21 (fun g3 => (.slice (some ⟨g3, 0, none⟩) 2 2)) (.i 18 (.slice (some ⟨g2, 0, none⟩) 2 2) (.d (.d (.k .a)))) .a 9 [.string (ByteArray.mk #[32, 119, 97, 116, 99, 104, 32]), .string (mkS s.watch)] fun g3 => ?_
      refine wpr_ent (ent_turn 3 (ro (some ⟨g3, 0, none⟩) (strsC P)) rfl (by rw [hP]; exact turn_rblk (strs_one [[32, 119, 97, 116, 99, 104, 32], s.watch])) rfl) ?_
      refine wpr_app (a := (some ⟨g2, 0, none⟩)) (n := 2) (cap := 2) (x := (.slice (some ⟨g3, 0, none⟩) 2 2)) (t := 22) (xt := 22) (dst := some 22) (by kernel_rfl) (e := 9) (sz := 1) (bytes := 16) (by kernel_rfl) 2 (xs := (strsC [[35], I])) (by kernel_rfl) (m := 2) (news := (strsC P)) (fun w h => src_ro h 3 rfl (by rw [hP]; rfl) (fun e => by cases e)) (by unfold maxLen; omega) (by omega) ?_
      intro a2 c2 hn2
      rw [strs_apps, show 2 + 2 = ([[35], I] ++ P).length from by rw [hP]; rfl]
      refine RR [] .z (.i 3 (.slice a2 ([[35], I] ++ P).length c2) (.d (.d (.d (.d (.k .a)))))) .a ?_
      refine RZ ?_
      exact nx_ent (ent_hp [0, 0, 0] rfl) (nx_ent (ent_fr (by kernel_rfl)) (hk (a2, c2)))
  · rintro ⟨a2, c2⟩
    dsimp only
    have hPl : P.length ≤ 4 := by rw [hP]; (repeat' split) <;> simp
    have hPf : P.flatten.length ≤ 3000000 := by
      rw [hP]
      (repeat' split) <;> simp only [List.flatten_cons, List.flatten_nil, List.length_append, List.length_cons, List.length_nil] <;> omega
    have hTl : ([[35], I] ++ P).length = 2 + P.length := by rw [List.length_append]; rfl
    cases ho : s.off with
    | false =>
      refine BN (NT (SQ (SQ (RG ?_))))
      refine RR [1] .z (.i 36 (.bool false) (.k (.k .z))) .a ?_
      refine RZ (NT (CF (SK (NT (SQ (RG ?_))))))
      refine RR [] (.d .a) (.i 40 (.slice a2 ([[35], I] ++ P).length c2) (.d (.d (.k .a)))) .a ?_
      refine wpr_fact (fun w h => row_cap h 2 rfl) ?_
      rintro ⟨-, hc2, -⟩
      refine RCG (dst := some 41) .a (line_spec a2 c2 ([[35], I] ++ P) (by omega) hc2 (by rw [List.flatten_append, List.length_append]; simp only [List.flatten_cons, List.flatten_nil, List.length_append, List.length_cons, List.length_nil]; omega)) (GV (GI []) 2 view_row) ?_
      rintro r _ ⟨rfl, rfl⟩
      refine RR [] .z (.i 2 (.string (mkS (lineT ([[35], I] ++ P)))) .z) .a ?_
      refine RZ (NT (RE ?_))
      refine NE [] .z .a [] (.string (mkS (lineT ([[35], I] ++ P)))) ?_
      exact ⟨by rw [if_neg (by decide), List.append_nil], rfl⟩
    | true =>
      refine BN (NT (SQ (SQ (RG ?_))))
      refine RR [1] .z (.i 36 (.bool true) (.k (.k .z))) .a ?_
      refine RZ (NT (CT (RG ?_)))
      refine RN [] (.d (.d .a)) 38 (fun g3 => (.slice (some ⟨g3, 0, none⟩) 1 1)) (.i 37 (.slice a2 ([[35], I] ++ P).length c2) (.d (.k .a))) .a 9 [.string (ByteArray.mk #[32, 111, 102, 102])] fun g3 => ?_
      refine wpr_ent (ent_turn 3 (ro (some ⟨g3, 0, none⟩) (strsC [[32, 111, 102, 102]])) rfl (turn_rblk (strs_one [[32, 111, 102, 102]])) rfl) ?_
      refine wpr_app (a := a2) (n := (([[35], I] ++ P).length)) (cap := c2) (x := (.slice (some ⟨g3, 0, none⟩) 1 1)) (t := 22) (xt := 22) (dst := some 39) (by kernel_rfl) (e := 9) (sz := 1) (bytes := 16) (by kernel_rfl) 2 (xs := (strsC ([[35], I] ++ P))) (by kernel_rfl) (m := 1) (news := (strsC [[32, 111, 102, 102]])) (fun w h => src_ro h 3 rfl rfl (fun e => by cases e)) (by unfold maxLen; omega) (by omega) ?_
      intro a3 c3 hn3
      obtain ⟨P9, hP9⟩ : ∃ P9, P9 = [[35], I] ++ P ++ [[32, 111, 102, 102]] := ⟨_, rfl⟩
      have hP9l : P9.length = ([[35], I] ++ P).length + 1 := by rw [hP9, List.length_append]; rfl
      have hP9f : P9.flatten.length ≤ 4000000 := by
        rw [hP9, List.flatten_append, List.flatten_append, List.length_append, List.length_append]
        simp only [List.flatten_cons, List.flatten_nil, List.length_append, List.length_cons, List.length_nil]
        omega
      rw [if_pos rfl, strs_apps, ← hP9, ← hP9l]
      refine RR [] .z (.i 3 (.slice a3 P9.length c3) (.d (.d (.d (.d (.k .a)))))) .a ?_
      refine RZ (NT (SQ (RG ?_)))
      refine RR [] (.d .a) (.i 40 (.slice a3 P9.length c3) (.d (.k .a))) .a ?_
      refine wpr_fact (fun w h => row_cap h 2 rfl) ?_
      rintro ⟨-, hc2, -⟩
      refine RCG (dst := some 41) .a (line_spec a3 c3 P9 (by omega) hc2 (by omega)) (GV (GI []) 2 view_row) ?_
      rintro r _ ⟨rfl, rfl⟩
      refine RR [] .z (.i 2 (.string (mkS (lineT P9))) .z) .a ?_
      refine RZ (NT (RE ?_))
      refine NE [] .z .a [] (.string (mkS (lineT P9))) ?_
      exact ⟨rfl, rfl⟩
theorem reply_spec (e n : Int) (says : Tx) (he : i64r e) (hn : i64r n) (hs : okText says) : Does Tryz.prog 81 [.agg #[.int .i64 e, .int .i64 n, .string (mkS says)]] [gPow] (fun r hp' => r = .string (mkS (replyT e n says)) ∧ hp' = []) := by
  unfold okText at hs
  have hE := Itoa_spec e he.1 he.2
  have hN := Itoa_spec n hn.1 hn.2
  have hEl := itoa_len20 he
  have hNl := itoa_len20 hn
  unfold replyT replyL
  obtain ⟨E, hEe⟩ : ∃ I, I = Lib.itoa e := ⟨_, rfl⟩
  obtain ⟨N, hNe⟩ : ∃ I, I = Lib.itoa n := ⟨_, rfl⟩
  rw [← hEe] at hE hEl
  rw [← hNe] at hN hNl
  rw [← hEe, ← hNe]
  obtain ⟨P, hP⟩ : ∃ P, P = (if e ≠ 0 then [[101, 114, 114, 111, 114, 32], E] else [[111, 107]] : List Tx) := ⟨_, rfl⟩
  have hPl : P.length ≤ 2 := by rw [hP]; (repeat' split) <;> simp
  have hPf : P.flatten.length ≤ 100 := by
    rw [hP]
    (repeat' split) <;> simp only [List.flatten_cons, List.flatten_nil, List.length_append, List.length_cons, List.length_nil] <;> omega
  rw [← hP]
  refine fn_enter Tryz.func81 rfl 31 rfl fun w0 h0 => ?_
  refine SQ (RG ?_)
  refine RP [] (.d .a) 1 .z .a 74 [.int .i64 e, .int .i64 n, .string (mkS says)] fun g1 => ?_
  refine RR [] .z (.i 2 (.string ⟨#[]⟩) .a) .a ?_
  refine RZ (NT (SQ (RG ?_)))
  refine RN [] (.d .a) 4 (fun g2 => (.slice (some ⟨g2, 0, none⟩) 1 1)) .a .a 9 [.string (ByteArray.mk #[111, 107])] fun g2 => ?_
  refine RR [] .z (.i 3 (.slice (some ⟨g2, 0, none⟩) 1 1) (.d (.k .a))) .a ?_
  refine RZ (NT (SQ (SQ (RG ?_))))
  refine RR [1] .z (.i 7 (.bool (e != (0 : Int))) .a) .a ?_
  refine RZ (NT ?_)
  refine wpc_joinx (X := Option Addr × Nat) (fun y => St.mk [(3, .slice y.1 P.length y.2), (2, .string ⟨#[]⟩), (1, .pointer (some ⟨g1, 0, none⟩))]
    [gPow, .blk g1 74 [.int .i64 e, .int .i64 n, .string (mkS says)], row 9 1 y.1 P.length y.2 (strsC P)]) (fun Q1 hQ1 hk => ?_) ?_
  · by_cases h0 : e = 0
    · rw [if_neg (fun h => h h0)] at hP
      refine wpc_ent (ent_turn 2 (row 9 1 (some ⟨g2, 0, none⟩) 1 1 (strsC [[111, 107]])) rfl (turn_blk rfl (strs_one [[111, 107]]) (by decide)) rfl) ?_
      rw [hP] at hk
      refine SC 7 (e != (0 : Int)) false (by simp only [bne_eq_false_iff_eq, beq_eq_false_iff_ne, ne_eq]; omega) ?_
      refine CF (SK ?_)
      exact nx_ent (ent_hp [0, 0, 0] rfl) (nx_ent (ent_fr (by kernel_rfl)) (hk (some ⟨g2, 0, none⟩, 1)))
    · rw [if_pos h0] at hP
      refine SC 7 (e != (0 : Int)) true (by simp only [bne_iff_ne, beq_iff_eq, ne_eq]; omega) ?_
      refine CT (RG ?_)
      refine RR [1] (.d (.d .a)) (.i 9 (.int .i64 e) (.d (.d (.k .a)))) .a ?_
      refine RCG (dst := some 10) .a (hE) (GV (GI []) 0 view_gPow) ?_
      rintro r _ ⟨rfl, rfl⟩
      refine RN [] (.d .a) 11 (fun g3 => (.slice (some ⟨g3, 0, none⟩) 2 2)) (.d (.d (.k .a))) .a 9 [.string (ByteArray.mk #[101, 114, 114, 111, 114, 32]), .string (mkS E)] fun g3 => ?_
      refine RR [] .z (.i 3 (.slice (some ⟨g3, 0, none⟩) 2 2) (.d (.d (.k .a)))) .a ?_
      refine RZ ?_
      refine nx_ent (ent_turn 3 (row 9 1 (some ⟨g3, 0, none⟩) 2 2 (strsC [[101, 114, 114, 111, 114, 32], E])) rfl (turn_blk rfl (strs_one [[101, 114, 114, 111, 114, 32], E]) (by decide)) rfl) ?_
      rw [hP] at hk
      exact nx_ent (ent_hp [0, 0, 1] rfl) (nx_ent (ent_fr (by kernel_rfl)) (hk (some ⟨g3, 0, none⟩, 2)))
  rintro ⟨a2, c2⟩
  dsimp only
  obtain ⟨P2, hP2⟩ : ∃ P2, P2 = P ++ (if n ≠ 0 then [[32], N] else [] : List Tx) := ⟨_, rfl⟩
  have hP2l : P2.length ≤ 4 := by rw [hP2, List.length_append]; (repeat' split) <;> simp <;> omega
  have hP2f : P2.flatten.length ≤ 200 := by
    rw [hP2, List.flatten_append, List.length_append]
    (repeat' split) <;> simp only [List.flatten_cons, List.flatten_nil, List.length_append, List.length_cons, List.length_nil] <;> omega
  rw [← hP2]
  refine NT (SQ (SQ (RG ?_)))
  refine RR [1] .z (.i 14 (.bool (n != (0 : Int))) .a) .a ?_
  refine RZ (NT ?_)
  refine wpc_joinx (X := Option Addr × Nat) (fun y => St.mk [(3, .slice y.1 P2.length y.2), (2, .string ⟨#[]⟩), (1, .pointer (some ⟨g1, 0, none⟩))]
    [gPow, .blk g1 74 [.int .i64 e, .int .i64 n, .string (mkS says)], row 9 1 y.1 P2.length y.2 (strsC P2)]) (fun Q1 hQ1 hk => ?_) ?_
  · by_cases h0 : n = 0
    · rw [if_neg (fun h => h h0), List.append_nil] at hP2
      rw [hP2] at hk
      refine SC 14 (n != (0 : Int)) false (by simp only [bne_eq_false_iff_eq, beq_eq_false_iff_ne, ne_eq]; omega) ?_
      refine CF (SK ?_)
      exact nx_ent (ent_hp [0, 0, 0] rfl) (nx_ent (ent_fr (by kernel_rfl)) (hk (a2, c2)))
    · rw [if_pos h0] at hP2
      refine SC 14 (n != (0 : Int)) true (by simp only [bne_iff_ne, beq_iff_eq, ne_eq]; omega) ?_
      refine CT (RG ?_)
      refine RR [1] (.d (.d (.d .a))) (.i 17 (.int .i64 n) (.i 15 (.slice a2 P.length c2) (.d (.d (.k .a))))) .a ?_
      refine RCG (dst := some 18) .a (hN) (GV (GI []) 0 view_gPow) ?_
      rintro r _ ⟨rfl, rfl⟩
      refine RN [] (.d .a) 19 (fun g3 => (.slice (some ⟨g3, 0, none⟩) 2 2)) (.d (.d (.k .a))) .a 9 [.string (ByteArray.mk #[32]), .string (mkS N)] fun g3 => ?_
      refine wpr_ent (ent_turn 3 (ro (some ⟨g3, 0, none⟩) (strsC [[32], N])) rfl (turn_rblk (strs_one [[32], N])) rfl) ?_
      refine wpr_app (a := a2) (n := P.length) (cap := c2) (x := (.slice (some ⟨g3, 0, none⟩) 2 2)) (t := 22) (xt := 22) (dst := some 20) (by kernel_rfl) (e := 9) (sz := 1) (bytes := 16) (by kernel_rfl) 2 (xs := (strsC P)) (by kernel_rfl) (m := 2) (news := (strsC [[32], N])) (fun w h => src_ro h 3 rfl rfl (fun e => by cases e)) (by unfold maxLen; omega) (by omega) ?_
      intro a3 c3 hn3
      rw [strs_apps, show P.length + 2 = (P ++ [[32], N]).length from by rw [List.length_append]; rfl, ← hP2]
      refine RR [] .z (.i 3 (.slice a3 P2.length c3) (.d (.d (.d (.d (.k .a)))))) .a ?_
      refine RZ ?_
      exact nx_ent (ent_hp [0, 0, 0] rfl) (nx_ent (ent_fr (by kernel_rfl)) (hk (a3, c3)))
  rintro ⟨a3, c3⟩
  dsimp only
  obtain ⟨P3, hP3⟩ : ∃ P3, P3 = P2 ++ (if says ≠ [] then [[32], says] else [] : List Tx) := ⟨_, rfl⟩
  have hP3l : P3.length ≤ 6 := by rw [hP3, List.length_append]; (repeat' split) <;> simp <;> omega
  have hP3f : P3.flatten.length ≤ 2000000 := by
    rw [hP3, List.flatten_append, List.length_append]
    (repeat' split) <;> simp only [List.flatten_cons, List.flatten_nil, List.length_append, List.length_cons, List.length_nil] <;> omega
  rw [← hP3]
  refine NT (SQ (SQ (RG ?_)))
  refine RR [1] .z (.i 23 (.bool !decide (says = [])) .a) .a ?_
  refine RZ (NT ?_)
  refine wpc_joinx (X := Option Addr × Nat) (fun y => St.mk [(3, .slice y.1 P3.length y.2), (2, .string ⟨#[]⟩)]
    [row 9 1 y.1 P3.length y.2 (strsC P3)]) (fun Q1 hQ1 hk => ?_) ?_
  · by_cases h0 : says = []
    · rw [if_neg (fun h => h h0), List.append_nil] at hP3
      rw [hP3] at hk
      refine SC 23 (!decide (says = [])) false (by simp; omega) ?_
      refine CF (SK ?_)
      exact nx_ent (ent_hp [2] rfl) (nx_ent (ent_fr (by kernel_rfl)) (hk (a3, c3)))
    · rw [if_pos h0] at hP3
      refine SC 23 (!decide (says = [])) true (by simp; omega) ?_
      refine CT (RG ?_)
      refine RN [1] (.d (.d (.d (.d .a)))) 27 (fun g3 => (.slice (some ⟨g3, 0, none⟩) 2 2)) (.i 24 (.slice a3 P2.length c3) (.d (.d (.k (.k .z))))) .a 9 [.string (ByteArray.mk #[32]), .string (mkS says)] fun g3 => ?_
      refine wpr_ent (ent_turn 3 (ro (some ⟨g3, 0, none⟩) (strsC [[32], says])) rfl (turn_rblk (strs_one [[32], says])) rfl) ?_
      refine wpr_app (a := a3) (n := P2.length) (cap := c3) (x := (.slice (some ⟨g3, 0, none⟩) 2 2)) (t := 22) (xt := 22) (dst := some 28) (by kernel_rfl) (e := 9) (sz := 1) (bytes := 16) (by kernel_rfl) 2 (xs := (strsC P2)) (by kernel_rfl) (m := 2) (news := (strsC [[32], says])) (fun w h => src_ro h 3 rfl rfl (fun e => by cases e)) (by unfold maxLen; omega) (by omega) ?_
      intro a4 c4 hn4
      rw [strs_apps, show P2.length + 2 = (P2 ++ [[32], says]).length from by rw [List.length_append]; rfl, ← hP3]
      refine RR [] .z (.i 3 (.slice a4 P3.length c4) (.d (.d (.d (.d (.k .a)))))) .a ?_
      refine RZ ?_
      exact nx_ent (ent_hp [2] rfl) (nx_ent (ent_fr (by kernel_rfl)) (hk (a4, c4)))
  rintro ⟨a4, c4⟩
  dsimp only
  refine NT (SQ (RG ?_))
  refine RR [] (.d .a) (.i 29 (.slice a4 P3.length c4) (.d (.k .a))) .a ?_
  refine wpr_fact (fun w h => row_cap h 0 rfl) ?_
  rintro ⟨-, hc2, -⟩
  refine RCG (dst := some 30) .a (line_spec a4 c4 P3 (by omega) hc2 (by omega)) (GV (GI []) 0 view_row) ?_
  rintro r _ ⟨rfl, rfl⟩
  refine RR [] .z (.i 2 (.string (mkS (lineT P3))) .z) .a ?_
  refine RZ (NT (RE ?_))
  refine NE [] .z .a [] (.string (mkS (lineT P3))) ?_
  exact ⟨rfl, rfl⟩
end Go.Proofs.YtgcfomhlgipllaaGreatDoor
namespace Go.Proofs.YtgcfomhlgipllaaGreatDoor
open Go.RowKit
set_option maxHeartbeats 1000000 in
set_option maxRecDepth 100000 in
theorem indexByte_calls (s : ByteArray) (c : Int) (w : World) :
    Calls Tryz.prog 217 #[.string s, .int .u8 c] w fun e w' => e = .returned (.int .i64 (Lib.indexByte s.data.toList c.toNat.toUInt8)) ∧ w' = w := by
  go_enter Tryz.func217, Tryz.ntmps217
  go_wp2
  rw [run_callFunc_extern Tryz.func227 (by kernel_rfl) (by kernel_rfl) (by kernel_rfl) (e := Extern.BytealgIndexByte.indexByte) (by kernel_rfl), Lib.run_indexByteString]
  simp only [Result.andThen]
  rw [Oper.upon_value]
  go_wp2
  go_ret
  exact ⟨rfl, rfl⟩
open Go.Sx in
theorem IndexByte_spec (t : List UInt8) (c : UInt8) : Does Tryz.prog 217 [.string (mkS t), .int .u8 (c.toNat : Int)] [] (fun v hp' => v = .int .i64 (Lib.indexByte t c) ∧ hp' = []) :=
  does_of_calls fun w => (indexByte_calls (mkS t) c.toNat w).mono fun e w' ⟨h1, h2⟩ => by
    have hc : ((c.toNat : Nat) : Int).toNat.toUInt8 = c := by rw [Int.toNat_natCast]; exact UInt8.ofNat_toNat
    rw [hc] at h1
    exact ⟨h1, h2 ▸ Below.refl _ _⟩
end Go.Proofs.YtgcfomhlgipllaaGreatDoor
namespace Go.Proofs.YtgcfomhlgipllaaGreatDoor
open Go Go.Sx
theorem bt_one (c : UInt8) : bt (mkS [c]) 0 = (c.toNat : Int) := bt_at (s := [c]) (i := 0) (by simp)
theorem lIndex_spec (s : Tx) (c : UInt8) : Does Tryz.prog 210 [.string (mkS s), .string (mkS [c])] [] (fun v hp' => v = .int .i64 (Lib.indexByte s c) ∧ hp' = []) := by
  have hI := IndexByte_spec s c
  have hb := bt_one c
  rw [← hb] at hI
  have hz : (mkS [c]).size = 1 := rfl
  by_cases hcs : [c] = s
  · subst hcs
    have h0 : Lib.indexByte [c] c = 0 := by unfold Lib.indexByte; rw [if_pos (by simp)]
    rw [h0]
    refine fn_enter Tryz.func210 rfl 143 rfl fun w0 h0 => ?_
    refine SQ (RG ?_)
    refine RR [] .z (.i 4 (.int .i64 0) .a) .a ?_
    refine RZ (NT (SQ (RG ?_)))
    refine RR [] .z (.i 5 (.int .i64 (↑[c].length : Int)) .a) .a ?_
    refine RZ (NT (SQ (BK (SQ ?_))))
    refine wpc_ent (ent_set 5 (.int .i64 (↑[c].length : Int)) (Value.int .i64 1) (by kernel_rfl) rfl) ?_
    refine RG ?_
    refine RR [] .z (.i 16 (.bool (decide ([c] = [c]))) (.k (.d (.k .a)))) .a ?_
    refine RZ (NT ?_)
    refine SC 16 (decide ([c] = [c])) true (by simp) ?_
    refine CT (SQ (RG ?_))
    refine RR [] .z (.i 4 (.int .i64 0) (.d (.d (.k (.d (.k .a)))))) .a ?_
    refine RZ (NT (RE (BR (TR ?_))))
    refine NE [] .a .a [] (.int .i64 0) ?_
    exact ⟨rfl, rfl⟩
  · refine fn_enter Tryz.func210 rfl 143 rfl fun w0 h0 => ?_
    refine SQ (RG ?_)
    refine RR [] .z (.i 4 (.int .i64 0) .a) .a ?_
    refine RZ (NT (SQ (RG ?_)))
    refine RR [] .z (.i 5 (.int .i64 (↑[c].length : Int)) .a) .a ?_
    refine RZ (NT (SQ (BK (SQ ?_))))
    refine wpc_ent (ent_set 5 (.int .i64 (↑[c].length : Int)) (Value.int .i64 1) (by kernel_rfl) rfl) ?_
    refine RG ?_
    refine RR [] .z (.i 16 (.bool (decide ([c] = s))) (.k (.d (.k .a)))) .a ?_
    refine RZ (NT ?_)
    refine SC 16 (decide ([c] = s)) false (decide_eq_false (by omega)) ?_
    refine CF (SQ (RG ?_))
    refine RR [] .z (.i 24 (.bool true) (.d (.d (.k .a)))) .a ?_
    refine RZ (NT (CT (SQ (RG ?_))))
    refine RV true [] (.d (.d (.d .a))) (.i 29 (.int .u8 (bt (mkS [c]) 0)) (.i 27 (.string (mkS s)) (.d (.k .a)))) .a [(0 : Int) ≤ (0 : Int) ∧ (0 : Int) < (↑[c].length : Int)] ⟨by simp, trivial⟩ ?_
    refine RCA (dst := some 30) (hI) ?_
    rintro v _ ⟨rfl, rfl⟩
    refine RR [] .z (.i 4 (.int .i64 (Lib.indexByte s c)) (.d (.d (.d (.k (.d (.k .a))))))) .a ?_
    refine RZ (NT (RE (BR (TR ?_))))
    refine NE [] .a .a [] (.int .i64 (Lib.indexByte s c)) ?_
    exact ⟨rfl, rfl⟩
theorem Index_spec (s : Tx) (c : UInt8) : Does Tryz.prog 193 [.string (mkS s), .string (mkS [c])] [] (fun v hp' => v = .int .i64 (Lib.indexByte s c) ∧ hp' = []) := by
  refine fn_enter Tryz.func193 rfl 8 rfl fun w0 h0 => ?_
  refine SQ (RG ?_)
  refine RR [] .z (.i 4 (.int .i64 0) .a) .a ?_
  refine RZ (NT (SQ (RG ?_)))
  refine RR [] (.d (.d .a)) (.i 6 (.string (mkS [c])) (.i 5 (.string (mkS s)) (.k .z))) .a ?_
  refine RCA (dst := some 7) (lIndex_spec s c) ?_
  rintro v _ ⟨rfl, rfl⟩
  refine RR [] .z (.i 4 (.int .i64 (Lib.indexByte s c)) .z) .a ?_
  refine RZ (NT (RE ?_))
  refine NE [] .a .a [] (.int .i64 (Lib.indexByte s c)) ?_
  exact ⟨rfl, rfl⟩
theorem split_ne : ∀ t : Tx, splitT t ≠ []
  | [] => by simp [splitT]
  | b :: t => by
    unfold splitT
    split
    · simp
    · split <;> simp
theorem split_len : ∀ t : Tx, (splitT t).length = t.count 10 + 1
  | [] => rfl
  | b :: t => by
    have ih := split_len t
    unfold splitT
    rw [List.count_cons]
    by_cases h : b = 10
    · rw [if_pos h, List.length_cons, ih, h]; rfl
    · rw [if_neg h, if_neg (by simpa using h)]
      split
      · rename_i e; exact absurd e (split_ne t)
      · rename_i x r e
        rw [e] at ih
        simpa using ih
theorem split_one : ∀ {t x : Tx}, splitT t = [x] → x = t
  | [], x, h => by
    simp [splitT] at h; exact h
  | b :: t, x, h => by
    unfold splitT at h
    by_cases hb : b = 10
    · rw [if_pos hb] at h
      exact absurd (List.cons.inj h).2 (split_ne t)
    · rw [if_neg hb] at h
      split at h
      · rename_i e; exact absurd e (split_ne t)
      · rename_i y r e
        obtain ⟨h1, h2⟩ := List.cons.inj h
        subst h2
        rw [← h1, split_one e]
theorem split_step : ∀ {t x y : Tx} {ys : List Tx}, splitT t = x :: y :: ys → Lib.indexByte t 10 = (x.length : Int) ∧ x = t.take x.length ∧ splitT (t.drop (x.length + 1)) = y :: ys ∧ x.length < t.length
  | [], x, y, ys, h => by simp [splitT] at h
  | b :: t, x, y, ys, h => by
    unfold splitT at h
    by_cases hb : b = 10
    · rw [if_pos hb] at h
      obtain ⟨h1, h2⟩ := List.cons.inj h
      subst h1 hb
      exact ⟨rfl, rfl, h2, Nat.succ_pos _⟩
    · rw [if_neg hb] at h
      split at h
      · rename_i e; exact absurd e (split_ne t)
      · rename_i z r e
        obtain ⟨h1, h2⟩ := List.cons.inj h
        subst h1 h2
        obtain ⟨e1, e2, e3, e4⟩ := split_step e
        refine ⟨?_, ?_, e3, ?_⟩
        · unfold Lib.indexByte
          rw [if_neg (by simpa using hb), e1, if_neg (by simp)]
          rw [List.length_cons]; omega
        · rw [List.length_cons, List.take_succ_cons, ← e2]
        · rw [List.length_cons, List.length_cons]; omega
theorem genSplit_spec (s : Tx) (hs : s.length ≤ 1048576) : Does Tryz.prog 166 [.string (mkS s), .string (mkS [10]), .int .i64 0, .int .i64 (-1)] []
    (fun v hp' => ∃ g, v = .slice (some ⟨g, 0, none⟩) (splitT s).length (splitT s).length ∧ hp' = [row 9 1 (some ⟨g, 0, none⟩) (splitT s).length (splitT s).length (strsC (splitT s))]) := by
  have hsl := split_len s
  have hcl := List.count_le_length (a := (10 : UInt8)) (l := s)
  have hC := Count_spec s 10
  have hsz : (mkS s).size = s.length := mkS_size _
  have hz : (mkS [10]).size = 1 := rfl
  obtain ⟨L, hL⟩ : ∃ L, L = splitT s := ⟨_, rfl⟩
  obtain ⟨n, hn⟩ : ∃ n : Nat, n = s.count 10 := ⟨_, rfl⟩
  rw [← hL, ← hn] at hsl
  rw [← hn] at hC hcl
  rw [← hL]
  refine fn_enter Tryz.func166 rfl 66 rfl fun w0 h0 => ?_
  refine SQ (RG ?_)
  refine RR [] .z (.i 8 (.slice none 0 0) .a) .a ?_
  refine RZ (NT (SQ (SQ (RG ?_))))
  refine RR [] .z (.i 13 (.bool false) .a) .a ?_
  refine RZ (NT (CF (SK (NT (SQ (SQ (RG ?_)))))))
  refine RR [] .z (.i 15 (.bool false) (.d (.k .a))) .a ?_
  refine RZ (NT (CF (SK (NT (SQ (SQ (RG ?_)))))))
  refine RR [] .z (.i 20 (.bool true) (.d (.k .a))) .a ?_
  refine RZ (NT (CT (RG ?_)))
  refine RR [] (.d (.d .a)) (.i 22 (.string (mkS [10])) (.i 21 (.string (mkS s)) (.d (.k .a)))) .a ?_
  refine RCA (dst := some 23) (hC) ?_
  rintro v _ ⟨rfl, rfl⟩
  refine RV true [] .z (.i 3 (.int .i64 ((↑n : Int) + 1)) (.d (.d (.d (.k (.k (.k (.k .z)))))))) .a ([inI64 ((↑n : Int) + (1 : Int))]) ⟨by unfold inI64; omega, trivial⟩ ?_
  refine RZ (NT (SQ (RG ?_)))
  refine RV true [] .z (.i 3 (.int .i64 (if (↑(List.length s) : Int) + 1 < (↑n : Int) + 1 then (↑(List.length s) : Int) + 1 else (↑n : Int) + 1)) (.d (.k .a))) .a ([inI64 ((↑(List.length s) : Int) + (1 : Int))]) ⟨by unfold inI64; omega, trivial⟩ ?_
  refine RZ (NT (SQ ?_))
  refine wpc_ent (ent_set 3 (.int .i64 (if (↑(List.length s) : Int) + 1 < (↑n : Int) + 1 then (↑(List.length s) : Int) + 1 else (↑n : Int) + 1)) (Value.int .i64 ((n : Int) + 1)) (by kernel_rfl) (by rw [if_neg (by omega)])) ?_
  refine RG ?_
  refine RR [] (.d .a) (.i 30 (.int .i64 ((↑n : Int) + 1)) (.k (.d (.k .a)))) .a ?_
  refine wpr_make (m := n + 1) (t := 22) (dst := some 31) (by kernel_rfl) (e := 9) (sz := 1) (bytes := 16) (by kernel_rfl) (by omega) (by omega) ?_
  intro gb zs hzs
  refine RR [] .z (.i 9 (.slice (some ⟨gb, 0, none⟩) (n + 1) (n + 1)) (.d (.d (.k .a)))) .a ?_
  refine RZ (NT (SQ (RG ?_)))
  refine RV true [] .z (.i 3 (.int .i64 ((↑n : Int) + 1 - 1)) (.k (.d (.k .a)))) .a ([inI64 ((↑n : Int) + (1 : Int) - (1 : Int))]) ⟨by unfold inI64; omega, trivial⟩ ?_
  refine RZ (NT (SQ ?_))
  refine wpc_ent (ent_set 3 (.int .i64 ((↑n : Int) + 1 - 1)) (Value.int .i64 (n : Int)) (by kernel_rfl) (by rw [Int.add_sub_cancel])) ?_
  refine RG ?_
  refine RR [] .z (.i 10 (.int .i64 0) (.k (.d (.k .a)))) .a ?_
  refine RZ (NT (SQ (BK ?_)))
  refine wpc_loop (X := {x : Nat × Tx × List Value // x.1 ≤ n ∧ splitT x.2.1 = L.drop x.1 ∧ x.1 + x.2.2.length = n + 1 ∧ x.2.1.length ≤ s.length}) (fun x => St.mk [(10, .int .i64 (x.1.1 : Int)), (9, .slice (some ⟨gb, 0, none⟩) (n + 1) (n + 1)), (8, .slice none 0 0), (0, .string (mkS x.1.2.1)), (1, .string (mkS [10])), (2, .int .i64 0), (3, .int .i64 (n : Int))]
    [row 9 1 (some ⟨gb, 0, none⟩) (n + 1) (n + 1) (strsC (L.take x.1.1) ++ x.1.2.2)]) (fun x => n - x.1.1) ⟨(0, s, zs), Nat.zero_le _, hL.symm, by dsimp only; omega, Nat.le_refl _⟩ (ent_fr (by kernel_rfl)) ?_
  rintro ⟨⟨i, r, ys⟩, hi, hr, hys, hrl⟩
  dsimp only at hi hr hys hrl ⊢
  by_cases hlt : i < n
  · obtain ⟨x, hx⟩ : ∃ x, x = L[i]'(by omega) := ⟨_, rfl⟩
    have hd : splitT r = x :: L[i + 1]'(by omega) :: L.drop (i + 2) := by rw [hr, hx, List.drop_eq_getElem_cons (by omega), List.drop_eq_getElem_cons (by omega)]
    obtain ⟨q1, q2, q3, q4⟩ := split_step hd
    have hI := Index_spec r 10
    rw [q1] at hI
    have hrz : (mkS r).size = r.length := mkS_size _
    have hrow : (strsC (L.take i) ++ ys).take (i * 1) ++ [.string (mkS x)] ++ (strsC (L.take i) ++ ys).drop (i * 1 + 1) = strsC (L.take (i + 1)) ++ ys.drop 1 := by
      have hl : (strsC (L.take i)).length = i := by rw [strsC_len, List.length_take]; omega
      rw [Nat.mul_one, List.take_append_of_le_length (by omega), List.take_of_length_le (by omega), List.drop_append, List.drop_of_length_le (by omega), List.nil_append, hl, Nat.add_sub_cancel_left, ← List.take_append_getElem (by omega : i < L.length), ← strs_app, ← hx]
    refine SQ (SQ (RG ?_))
    refine RR [] .z (.i 36 (.bool (decide ((↑i : Int) < (↑n : Int)))) .a) .a ?_
    refine RZ (NT ?_)
    refine SC 36 (decide ((↑i : Int) < (↑n : Int))) true (decide_eq_true (by omega)) ?_
    refine CT (SK (NT (BK (SQ (RG ?_)))))
    refine RR [] (.d (.d .a)) (.i 38 (.string (mkS [10])) (.i 37 (.string (mkS r)) (.d (.d (.k .a))))) .a ?_
    refine RC (dst := some 39) [] .a (hI) ?_
    rintro v _ ⟨rfl, rfl⟩
    refine RR [] .z (.i 11 (.int .i64 (↑(List.length x) : Int)) (.d (.d (.d (.k .a))))) .a ?_
    refine RZ (NT (SQ (SQ (RG ?_))))
    refine RR [] .z (.i 41 (.bool false) .a) .a ?_
    refine RZ (NT (CF (SK (NT (SQ (RG ?_))))))
    refine RV true [] (.d (.d (.d (.d (.d (.d (.d (.d .a)))))))) (.i 49 (.pointer (some ⟨gb, 0 + i * 1, none⟩)) (.i 48 (.string (mkS (List.take (Int.toNat ((↑(List.length x) : Int) + 0 - 0)) (List.drop (Int.toNat 0) r)))) (.d (.k .a)))) .a ([inI64 ((↑(List.length x) : Int) + (0 : Int)), (0 : Int) ≤ (↑(List.length x) : Int) + (0 : Int) ∧ (↑(List.length x) : Int) + (0 : Int) ≤ (↑(List.length r) : Int), (0 : Int) ≤ (↑i : Int) ∧ (↑i : Int) < (↑(n + (1 : Nat)) : Int)]) ⟨by unfold inI64; omega, by omega, by omega, trivial⟩ ?_
    refine wpr_ent (ent_set 48 (.string (mkS (List.take (Int.toNat ((↑(List.length x) : Int) + 0 - 0)) (List.drop (Int.toNat 0) r)))) (.string (mkS x)) (by kernel_rfl) (by rw [show (↑x.length + 0 - 0 : Int).toNat = x.length by omega, show Int.toNat 0 = 0 from rfl, List.drop_zero, ← q2])) ?_
    refine wpr_eq (stq' (t := 9) (g := gb) (off := 0) (q := (i * 1)) (v := (.string (mkS x))) (dst := none) (by kernel_rfl) 0 (T := 9) (sz := 1) (n := (n + 1)) (cap := (n + 1)) (xs := (strsC (List.take i L) ++ ys)) (by kernel_rfl) [.string (mkS x)] (by kernel_rfl) (by kernel_rfl) (by simp [Go.Sx.One, Value.oneCell']) (by rw [List.length_append, strsC_len, List.length_take]; show i * 1 + 1 ≤ _; omega) (xs' := (strsC (L.take (i + 1)) ++ ys.drop 1)) hrow) ?_
    refine RZ (NT (SQ (RG ?_)))
    refine RV true [] .z (.i 0 (.string (mkS (List.take (Int.toNat ((↑(List.length r) : Int) - ((↑(List.length x) : Int) + 1))) (List.drop (Int.toNat ((↑(List.length x) : Int) + 1)) r)))) (.d (.d (.d (.d (.k (.k (.k (.d (.k .a)))))))))) .a ([inI64 ((↑(List.length x) : Int) + (1 : Int)), (0 : Int) ≤ (↑(List.length x) : Int) + (1 : Int) ∧ (↑(List.length x) : Int) + (1 : Int) ≤ (↑(List.length r) : Int)]) ⟨by unfold inI64; omega, by omega, trivial⟩ ?_
    refine RZ (NT (RG ?_))
    refine RV true [] .z (.i 10 (.int .i64 ((↑i : Int) + 1)) (.k (.d (.k .a)))) .a ([inI64 ((↑i : Int) + (1 : Int))]) ⟨by unfold inI64; omega, trivial⟩ ?_
    refine RZ (BN ?_)
    refine nx_ent (ent_set 0 (.string (mkS (List.take (Int.toNat ((↑(List.length r) : Int) - ((↑(List.length x) : Int) + 1))) (List.drop (Int.toNat ((↑(List.length x) : Int) + 1)) r)))) (.string (mkS (r.drop (x.length + 1)))) (by kernel_rfl) (by rw [List.take_of_length_le (by rw [List.length_drop]; omega), show (↑x.length + 1 : Int).toNat = x.length + 1 by omega])) ?_
    exact fun a' w' hS' => ⟨⟨(i + 1, r.drop (x.length + 1), ys.drop 1), hlt, (by rw [q3, List.drop_eq_getElem_cons (by omega : i + 1 < L.length)]), (by rw [List.length_drop]; omega), (by rw [List.length_drop]; omega)⟩, by dsimp only; omega, ent_fr (by kernel_rfl) _ _ (ent_hp [0] rfl _ _ hS')⟩
  · obtain rfl : i = n := by omega
    have hd : splitT r = [L[i]'(by omega)] := by rw [hr, List.drop_eq_getElem_cons (by omega), List.drop_of_length_le (by omega)]
    have hx := split_one hd
    have hrow : (strsC (L.take i) ++ ys).take (i * 1) ++ [.string (mkS r)] ++ (strsC (L.take i) ++ ys).drop (i * 1 + 1) = strsC L := by
      have hl : (strsC (L.take i)).length = i := by rw [strsC_len, List.length_take]; omega
      rw [Nat.mul_one, List.take_append_of_le_length (by omega), List.take_of_length_le (by omega), List.drop_append, List.drop_of_length_le (by omega), List.nil_append, hl, Nat.add_sub_cancel_left, List.drop_of_length_le (by omega), List.append_nil, strs_app, ← hx, List.take_append_getElem (by omega : i < L.length), List.take_of_length_le (by omega)]
    refine SQ (SQ (RG ?_))
    refine RR [] .z (.i 36 (.bool (decide ((↑i : Int) < (↑i : Int)))) .a) .a ?_
    refine RZ (NT ?_)
    refine SC 36 (decide ((↑i : Int) < (↑i : Int))) false (by simp) ?_
    refine CF (EX (TE (TE (BH (NT (SQ (RG ?_)))))))
    refine RV true [] (.d (.d (.d (.d .a)))) (.i 61 (.pointer (some ⟨gb, 0 + i * 1, none⟩)) (.i 60 (.string (mkS r)) (.d (.d (.k (.k (.k .z))))))) .a ([(0 : Int) ≤ (↑i : Int) ∧ (↑i : Int) < (↑(i + (1 : Nat)) : Int)]) ⟨by omega, trivial⟩ ?_
    refine wpr_eq (stq' (t := 9) (g := gb) (off := 0) (q := (i * 1)) (v := (.string (mkS r))) (dst := none) (by kernel_rfl) 0 (T := 9) (sz := 1) (n := (i + 1)) (cap := (i + 1)) (xs := (strsC (List.take i L) ++ ys)) (by kernel_rfl) [.string (mkS r)] (by kernel_rfl) (by kernel_rfl) (by simp [Go.Sx.One, Value.oneCell']) (by rw [List.length_append, strsC_len, List.length_take]; show i * 1 + 1 ≤ _; omega) (xs' := (strsC L)) hrow) ?_
    refine RZ (NT (SQ (RG ?_)))
    refine RV true [] .z (.i 8 (.slice (some ⟨gb, 0, none⟩) (Int.toNat ((↑i : Int) + 1)) (i + 1)) .z) .a ([inI64 ((↑i : Int) + (1 : Int)), (0 : Int) ≤ (↑i : Int) + (1 : Int) ∧ (↑i : Int) + (1 : Int) ≤ (↑(i + (1 : Nat)) : Int)]) ⟨by unfold inI64; omega, by omega, trivial⟩ ?_
    refine RZ (NT (RE ?_))
    refine NE [0] .a .z [] (.slice (some ⟨gb, 0, none⟩) (Int.toNat ((↑i : Int) + 1)) (i + 1)) ?_
    exact ⟨gb, by rw [hsl]; rfl, by rw [hsl]; rfl⟩
end Go.Proofs.YtgcfomhlgipllaaGreatDoor
namespace Go.Proofs.YtgcfomhlgipllaaGreatDoor
open Go Go.Sx
theorem Split_spec (s : Tx) (hs : s.length ≤ 1048576) : Does Tryz.prog 128 [.string (mkS s), .string (mkS [10])] []
    (fun v hp' => ∃ g, v = .slice (some ⟨g, 0, none⟩) (splitT s).length (splitT s).length ∧ hp' = [row 9 1 (some ⟨g, 0, none⟩) (splitT s).length (splitT s).length (strsC (splitT s))]) := by
  have hG := genSplit_spec s hs
  obtain ⟨L, hL⟩ : ∃ L, L = splitT s := ⟨_, rfl⟩
  rw [← hL] at hG ⊢
  refine fn_enter Tryz.func128 rfl 8 rfl fun w0 h0 => ?_
  refine SQ (RG ?_)
  refine RR [] .z (.i 4 (.slice none 0 0) .a) .a ?_
  refine RZ (NT (SQ (RG ?_)))
  refine RR [] (.d (.d .a)) (.i 6 (.string (mkS [10])) (.i 5 (.string (mkS s)) (.k .z))) .a ?_
  refine RCA (dst := some 7) (hG) ?_
  rintro v _ ⟨g, rfl, rfl⟩
  refine RR [] .z (.i 4 (.slice (some ⟨g, 0, none⟩) L.length L.length) .z) .a ?_
  refine RZ (NT (RE ?_))
  refine NE [0] .a .z [] (.slice (some ⟨g, 0, none⟩) L.length L.length) ?_
  exact ⟨g, rfl, rfl⟩
theorem tail_spec (s : Tx) (hs : s.length ≤ 1048576) : Does Tryz.prog 79 [.string (mkS s)] []
    (fun v hp' => ∃ g off c n xs, v = .slice (some ⟨g, off, none⟩) (tailT s).length c ∧ hp' = [row 9 1 (some ⟨g, 0, none⟩) n n xs] ∧ View (ro (some ⟨g, 0, none⟩) xs) (ro (some ⟨g, off, none⟩) (strsC (tailT s)))) := by
  have hG := Split_spec s hs
  have hsl := split_len s
  have hcl := List.count_le_length (a := (10 : UInt8)) (l := s)
  unfold tailT
  obtain ⟨L, hL⟩ : ∃ L, L = splitT s := ⟨_, rfl⟩
  obtain ⟨n, hn⟩ : ∃ n : Nat, n = s.count 10 := ⟨_, rfl⟩
  rw [← hL] at hG hsl
  rw [← hn] at hsl hcl
  rw [← hL]
  dsimp only
  have hdl : L.dropLast.length = n := by rw [List.length_dropLast]; omega
  rw [hsl] at hG
  rw [hdl]
  refine fn_enter Tryz.func79 rfl 17 rfl fun w0 h0 => ?_
  refine SQ (RG ?_)
  refine RR [] .z (.i 2 (.slice none 0 0) .a) .a ?_
  refine RZ (NT (SQ (RG ?_)))
  refine RR [] (.d .a) (.i 4 (.string (mkS s)) (.k .z)) .a ?_
  refine RCA (dst := some 5) (hG) ?_
  rintro v _ ⟨g, rfl, rfl⟩
  refine RR [] .z (.i 3 (.slice (some ⟨g, 0, none⟩) (n + 1) (n + 1)) (.d (.d (.k .a)))) .a ?_
  refine RZ (NT (SQ (RG ?_)))
  refine RV true [] .z (.i 3 (.slice (some ⟨g, 0, none⟩) (Int.toNat ((↑(n + 1) : Int) - 1)) (n + 1)) (.d (.k .a))) .a ([inI64 ((↑(n + (1 : Nat)) : Int) - (1 : Int)), (0 : Int) ≤ (↑(n + (1 : Nat)) : Int) - (1 : Int) ∧ (↑(n + (1 : Nat)) : Int) - (1 : Int) ≤ (↑(n + (1 : Nat)) : Int)]) ⟨by unfold inI64; omega, by omega, trivial⟩ ?_
  refine RZ (NT (SQ (RG ?_)))
  refine RV true [] .z (.i 2 (.slice (some (Addr.mk g (sOff 0 (if (↑(Int.toNat ((↑(n + 1) : Int) - 1)) : Int) - 4 > 0 then (↑(Int.toNat ((↑(n + 1) : Int) - 1)) : Int) - 4 else 0) (↑(n + 1) : Int) 1) none)) (Int.toNat ((↑(Int.toNat ((↑(n + 1) : Int) - 1)) : Int) - if (↑(Int.toNat ((↑(n + 1) : Int) - 1)) : Int) - 4 > 0 then (↑(Int.toNat ((↑(n + 1) : Int) - 1)) : Int) - 4 else 0)) (Int.toNat ((↑(n + 1) : Int) - if (↑(Int.toNat ((↑(n + 1) : Int) - 1)) : Int) - 4 > 0 then (↑(Int.toNat ((↑(n + 1) : Int) - 1)) : Int) - 4 else 0))) .z) .a ([inI64 ((↑(Int.toNat ((↑(n + (1 : Nat)) : Int) - (1 : Int))) : Int) - (4 : Int)), ((0 : Int) ≤ if (↑(Int.toNat ((↑(n + (1 : Nat)) : Int) - (1 : Int))) : Int) - (4 : Int) > (0 : Int) then (↑(Int.toNat ((↑(n + (1 : Nat)) : Int) - (1 : Int))) : Int) - (4 : Int) else (0 : Int)) ∧ (if (↑(Int.toNat ((↑(n + (1 : Nat)) : Int) - (1 : Int))) : Int) - (4 : Int) > (0 : Int) then (↑(Int.toNat ((↑(n + (1 : Nat)) : Int) - (1 : Int))) : Int) - (4 : Int) else (0 : Int)) ≤ (↑(Int.toNat ((↑(n + (1 : Nat)) : Int) - (1 : Int))) : Int)]) ⟨by unfold inI64; omega, by omega, trivial⟩ ?_
  refine RZ (NT (RE ?_))
  have hq : (if ((((n + 1 : Nat) : Int) - 1).toNat : Int) - 4 > 0 then ((((n + 1 : Nat) : Int) - 1).toNat : Int) - 4 else 0) = ((n - 4 : Nat) : Int) := by split <;> omega
  have hm : (((((n + 1 : Nat) : Int) - 1).toNat : Int) - ((n - 4 : Nat) : Int)).toNat = (L.dropLast.drop (n - 4)).length := by rw [List.length_drop, hdl]; omega
  rw [hq, hm]
  refine NE [0] .a .z [] (.slice (some (Addr.mk g (sOff 0 (↑(n - 4) : Int) (↑(n + 1) : Int) 1) none)) (List.length (List.drop (n - 4) (List.dropLast L))) (Int.toNat ((↑(n + 1) : Int) - (↑(n - 4) : Int)))) ?_
  refine ⟨g, sOff 0 ((n - 4 : Nat) : Int) ((n + 1 : Nat) : Int) 1, _, n + 1, strsC L, rfl, rfl, ?_⟩
  have v1 := view_rest (g := g) (off := 0) (xs := strsC L) (n - 4) (sOff 0 ((n - 4 : Nat) : Int) ((n + 1 : Nat) : Int) 1) (fun h => by rw [strsC_len] at h; unfold sOff; rw [if_neg (by omega)]; simp)
  have v2 := view_front (a := some ⟨g, sOff 0 ((n - 4 : Nat) : Int) ((n + 1 : Nat) : Int) 1, none⟩) (xs := (strsC L).drop (n - 4)) (n - (n - 4))
  have e : ((strsC L).drop (n - 4)).take (n - (n - 4)) = strsC (L.dropLast.drop (n - 4)) := by
    rw [List.dropLast_eq_take, hsl, Nat.add_sub_cancel, List.drop_take]
    simp [strsC, List.map_take, List.map_drop]
  rw [← e]
  exact v1.trans v2
end Go.Proofs.YtgcfomhlgipllaaGreatDoor
namespace Go.Proofs.YtgcfomhlgipllaaGreatDoor
open Go Go.Sx
theorem right_zero {v : V} (m : Int) (h : ¬ v.k = 4) : rightB v 0 = rightB v m := by
  unfold rightB
  rw [if_neg h, if_neg h]
theorem object_ro (g : Nat) (most : Int) (used : Nat) (a : Option Addr) (c : Nat) (l : List Ob) (v : V) (hl : l.length ≤ 4096) (hv : v.sm) (hk : v.k = 4) :
    Does Tryz.prog 190 [.pointer (some ⟨g, 0, none⟩), valV v] [ro (some ⟨g, 0, none⟩) [.bool true, .int .i64 most, .int .i64 used, .slice a l.length c], ro a (l.flatMap objC)]
      (fun r hp' => (if rightB v l.length then ∃ g0 o0, a = some ⟨g0, o0, none⟩ ∧ r = .tuple #[.pointer (some ⟨g0, o0 + v.n.toNat * 2, none⟩), .int .i64 0] else r = .tuple #[.pointer none, .int .i64 2]) ∧ hp' = []) := by
  have hck := Check_spec v l.length hv
  have hR : refB v l.length = rightB v l.length := by unfold refB; rw [decide_eq_true hk]; rfl
  have hlt := @refB_lt v l.length
  rw [hR] at hlt
  obtain ⟨k, n, s⟩ := v
  dsimp only at hk hlt
  subst hk
  unfold valV at hck ⊢
  dsimp only at hck ⊢
  refine fn_enter Tryz.func190 rfl 31 rfl fun w0 h0 => ?_
  refine SQ (RG ?_)
  refine RP [] (.d .a) 3 (.k .z) .a 94 [.int .i64 4, .int .i64 n, .string (mkS s)] fun g1 => ?_
  refine RR [] .z (.i 5 (.int .i64 0) (.i 4 (.pointer none) .a)) .a ?_
  refine RZ (NT (SQ (BK (SQ (RG ?_)))))
  refine RR [] (.d .a) (.i 7 (.pointer (some ⟨g, 0, none⟩)) .a) .a ?_
  refine RCG (dst := some 8) .a (isRo_spec g (.int .i64 most) (.int .i64 used) (.slice a l.length c)) (GV (GI []) 0 view_ro) ?_
  rintro v _ ⟨rfl, rfl⟩
  refine RR [] .z (.i 6 (.bool false) (.d (.d (.k .a)))) .a ?_
  refine RZ (NT (CF (SQ ?_)))
  refine wpc_draw (by kernel_rfl) [ro (some ⟨g, 0, none⟩) [.bool true, .int .i64 most, .int .i64 (↑used : Int), .slice a l.length c], .blk g1 94 [.int .i64 4, .int .i64 n, .string (mkS s)]] (sub_of [0, 2] (by kernel_rfl)) 14 (by kernel_rfl) ?_
  refine TK 6 [(0, []), (1, [1]), (2, []), (3, []), (4, [1, 1, 1]), (5, []), (6, []), (7, [])] (.i 18 (.pointer (some ⟨g, 3, none⟩)) (.i 15 (.agg #[.int .i64 4, .int .i64 n, .string (mkS s)]) (.i 14 (.bool false) (.d (.k .a))))) (#[true, true, true, true, true, true, true, true, false, false, false, false, false, false]) ?_
  refine wpa_qld (i := 8) (n := 5) (by kernel_rfl) (by kernel_rfl) (by kernel_rfl) (t := 80) (a := ⟨g, 3, none⟩) (dst := some 19) (by kernel_rfl) false 1 (by kernel_rfl) (by simp) [.slice a l.length c] rfl (fun w h => ld_roL h 0 rfl 3 rfl) ?_
  refine TK 4 [(9, [])] (.i 20 (.int .i64 (↑l.length : Int)) (.d (.d (.k .a)))) (#[true, true, true, true, true, true, true, true, true, true, false, false, false, false]) ?_
  refine AC (dst := some 21) 3 10 .a (hck) (GI []) [0, 2] ?_
  rintro v _ ⟨rfl, rfl⟩
  cases hr : rightB (V.mk 4 n s) l.length with
  | false =>
    refine TK 0 [(11, []), (12, []), (13, [])] (.i 10 (.bool true) (.d (.d (.d (.d (.k .a)))))) (#[true, true, true, true, true, true, true, true, true, true, true, true, true, true]) ?_
    refine wpa_done 0 (by kernel_rfl) ?_
    refine NT (CT (SQ (RG ?_)))
    refine RR [] .z (.i 5 (.int .i64 2) (.d (.d (.k .a)))) .a ?_
    refine RZ (NT (RE (BR (TR ?_))))
    refine NE [] .z .a [] (.tuple #[.pointer none, .int .i64 2]) ?_
    exact ⟨rfl, rfl⟩
  | true =>
    obtain ⟨_, hs0, hn0, hnl⟩ := hlt hr
    refine wpa_fact (fun w h => ro_addr h 1 rfl (by rw [objs_len]; omega)) ?_
    rintro ⟨g0, o0, rfl⟩
    refine TK 0 [(11, []), (12, []), (13, [])] (.i 10 (.bool false) (.d (.d (.d (.d (.k .a)))))) (#[true, true, true, true, true, true, true, true, true, true, true, true, true, true]) ?_
    refine wpa_done 0 (by kernel_rfl) ?_
    refine NT (CF (SK (BN (NT (SQ ?_)))))
    refine wpc_draw (by kernel_rfl) [ro (some ⟨g, 0, none⟩) [.bool true, .int .i64 most, .int .i64 (↑used : Int), .slice (some ⟨g0, o0, none⟩) l.length c], .blk g1 94 [.int .i64 4, .int .i64 n, .string (mkS s)]] (sub_of [0, 2] (by kernel_rfl)) 9 (by kernel_rfl) ?_
    refine TK 4 [(0, []), (1, []), (2, []), (4, []), (5, [1])] (.i 29 (.int .i64 n) (.i 26 (.pointer (some ⟨g, 3, none⟩)) (.d (.k (.k .z))))) (#[true, true, true, false, true, true, false, false, false]) ?_
    refine wpa_qld (i := 3) (n := 3) (by kernel_rfl) (by kernel_rfl) (by kernel_rfl) (t := 80) (a := ⟨g, 3, none⟩) (dst := some 27) (by kernel_rfl) false 1 (by kernel_rfl) (by simp) [.slice (some ⟨g0, o0, none⟩) l.length c] rfl (fun w h => ld_roL h 0 rfl 3 rfl) ?_
    refine wpa_take true [(6, []), (7, []), (8, [])] ([(5, .int .i64 0), (4, .pointer (some ⟨g0, o0 + Int.toNat n * 2, none⟩))]) (#[true, true, true, true, true, true, true, true, true]) [(0 : Int) ≤ n ∧ n < (↑l.length : Int)] (n := 0) (by kernel_rfl) (by kernel_rfl) (by kernel_rfl) ⟨by omega, trivial⟩ ?_
    refine wpa_done 0 (by kernel_rfl) ?_
    refine NT (RE ?_)
    refine NE [] .z .a [] (.tuple #[.pointer (some ⟨g0, o0 + Int.toNat n * 2, none⟩), .int .i64 0]) ?_
    exact ⟨⟨g0, o0, rfl, rfl⟩, rfl⟩
theorem Len_ro (g : Nat) (most : Int) (used : Nat) (a : Option Addr) (c : Nat) (l : List Ob) (v : V) (hl : l.length ≤ 4096) (hv : v.sm) (hk : v.k = 4) :
    Does Tryz.prog 165 [.pointer (some ⟨g, 0, none⟩), valV v] [ro (some ⟨g, 0, none⟩) [.bool true, .int .i64 most, .int .i64 used, .slice a l.length c], ro a (l.flatMap objC)]
      (fun r hp' => (∃ x, r = .tuple #[.int .i64 x, .int .i64 (if rightB v l.length then 0 else 2)]) ∧ hp' = []) := by
  have hob := object_ro g most used a c l v hl hv hk
  have hlt := @refB_lt v l.length
  have hR : refB v l.length = rightB v l.length := by unfold refB; rw [decide_eq_true hk]; rfl
  rw [hR] at hlt
  refine fn_enter Tryz.func165 rfl 22 rfl fun w0 h0 => ?_
  refine SQ (RG ?_)
  refine RP [] (.d .a) 3 (.k .z) .a 94 [.int .i64 v.k, .int .i64 v.n, .string (mkS v.s)] fun g1 => ?_
  refine RR [] .z (.i 5 (.int .i64 0) (.i 4 (.int .i64 0) .a)) .a ?_
  refine RZ (NT (SQ (RG ?_)))
  refine RR [2, 2, 2] (.d (.d .a)) (.i 10 (.agg #[.int .i64 v.k, .int .i64 v.n, .string (mkS v.s)]) (.i 9 (.pointer (some ⟨g, 0, none⟩)) (.k (.k .z)))) .a ?_
  refine RCG (dst := some 11) .a (hob) (GV (GV (GI []) 1 view_ro) 0 view_ro) ?_
  rintro r _ ⟨h, rfl⟩
  cases hr : rightB v l.length with
  | false =>
    rw [hr] at h
    obtain rfl := h
    refine RR [] .z (.i 7 (.int .i64 2) (.i 6 (.pointer none) (.d (.d (.d (.k .a)))))) .a ?_
    refine RZ (NT (SQ (SQ (RG ?_))))
    refine RR [] .z (.i 15 (.bool true) .a) .a ?_
    refine RZ (NT (CT (SQ (RG ?_))))
    refine RR [] .z (.i 5 (.int .i64 2) (.i 4 (.int .i64 0) (.d (.d (.k .z))))) .a ?_
    refine RZ (NT (RE (TR ?_)))
    refine NE [] .z .a [] (.tuple #[.int .i64 0, .int .i64 2]) ?_
    exact ⟨⟨_, rfl⟩, rfl⟩
  | true =>
    rw [hr, if_pos rfl] at h
    obtain ⟨g0, o0, rfl, rfl⟩ := h
    obtain ⟨_, hs0, hn0, hnl⟩ := hlt hr
    have hq : v.n.toNat < l.length := by omega
    refine RR [] .z (.i 7 (.int .i64 0) (.i 6 (.pointer (some (Addr.mk g0 (o0 + Int.toNat (V.n v) * 2) none))) (.d (.d (.d (.k .a)))))) .a ?_
    refine RZ (NT (SQ (SQ (RG ?_))))
    refine RR [] .z (.i 15 (.bool false) .a) .a ?_
    refine RZ (NT (CF (SK (NT (SQ (RG ?_))))))
    refine RR [] (.d (.d (.d .a))) (.i 19 (.pointer (some (Addr.mk g0 (o0 + Int.toNat (V.n v) * 2 + 1) none))) (.d (.d (.d (.k .a))))) .a ?_
    refine wpr_eq (ld (t := 81) (a := (Addr.mk g0 (o0 + Int.toNat (V.n v) * 2 + 1) none)) (dst := some 20) (by kernel_rfl) false 1 (by kernel_rfl) (by simp) [.slice l[v.n.toNat].a l[v.n.toNat].cells.length l[v.n.toNat].c] rfl (fun w h => ld_ro h 1 rfl (v.n.toNat * 2 + 1) (obj_cells hq))) ?_
    refine RR [] .z (.d (.d (.k (.i 4 (.int .i64 (↑(List.length (Ob.cells l[Int.toNat (V.n v)])) : Int)) .z)))) .a ?_
    refine RZ (NT (RE ?_))
    refine NE [] .z .a [] (.tuple #[.int .i64 (↑(List.length (Ob.cells l[Int.toNat (V.n v)])) : Int), .int .i64 0]) ?_
    exact ⟨⟨_, rfl⟩, rfl⟩
theorem right_spec (g : Nat) (most : Int) (used : Nat) (a : Option Addr) (c : Nat) (l : List Ob) (v : V) (hl : l.length ≤ 4096) (hv : v.sm) :
    Does Tryz.prog 127 [.pointer (some ⟨g, 0, none⟩), valV v] [ro (some ⟨g, 0, none⟩) [.bool true, .int .i64 most, .int .i64 used, .slice a l.length c], ro a (l.flatMap objC)]
      (fun r hp' => r = .bool (rightB v l.length) ∧ hp' = []) := by
  by_cases hk : v.k = 4
  · have hL := Len_ro g most used a c l v hl hv hk
    obtain ⟨k, n, s⟩ := v
    dsimp only at hk
    subst hk
    unfold valV at hL ⊢
    dsimp only at hL ⊢
    obtain ⟨b, hb⟩ : ∃ b, b = rightB (V.mk 4 n s) l.length := ⟨_, rfl⟩
    rw [← hb] at hL ⊢
    refine fn_enter Tryz.func127 rfl 21 rfl fun w0 h0 => ?_
    refine SQ (RG ?_)
    refine RP [] (.d .a) 3 (.k .z) .a 94 [.int .i64 4, .int .i64 n, .string (mkS s)] fun g1 => ?_
    refine RR [] .z (.i 4 (.bool false) .a) .a ?_
    refine RZ (NT (SQ (SQ (RG ?_))))
    refine RR [2] .z (.i 9 (.bool false) .a) .a ?_
    refine RZ (NT (CF (SK (NT (SQ (RG ?_))))))
    refine RR [2, 2, 2] (.d (.d .a)) (.i 15 (.agg #[.int .i64 4, .int .i64 n, .string (mkS s)]) (.i 14 (.pointer (some ⟨g, 0, none⟩)) (.d (.k .z)))) .a ?_
    refine RCG (dst := some 16) .a (hL) (GV (GV (GI []) 1 view_ro) 0 view_ro) ?_
    rintro r _ ⟨⟨x, rfl⟩, rfl⟩
    cases b with
    | false =>
      refine RR [] .z (.i 6 (.int .i64 2) (.d (.d (.d (.k .a))))) .a ?_
      refine RZ (NT (SQ (RG ?_)))
      refine RR [] .z (.d (.k .a)) .a ?_
      refine RZ (NT (RE ?_))
      refine NE [] .z .a [] (.bool false) ?_
      exact ⟨rfl, rfl⟩
    | true =>
      refine RR [] .z (.i 6 (.int .i64 0) (.d (.d (.d (.k .a))))) .a ?_
      refine RZ (NT (SQ (RG ?_)))
      refine RR [] .z (.i 4 (.bool true) .z) .a ?_
      refine RZ (NT (RE ?_))
      refine NE [] .z .a [] (.bool true) ?_
      exact ⟨rfl, rfl⟩
  · have hC := Check_spec v 0 hv
    rw [right_zero l.length hk] at hC
    obtain ⟨k, n, s⟩ := v
    dsimp only at hk
    obtain ⟨b, hb⟩ : ∃ b, b = rightB (V.mk k n s) l.length := ⟨_, rfl⟩
    rw [← hb] at hC ⊢
    unfold valV at hC ⊢
    dsimp only at hC ⊢
    refine fn_enter Tryz.func127 rfl 21 rfl fun w0 h0 => ?_
    refine SQ (RG ?_)
    refine RP [] (.d .a) 3 (.k .z) .a 94 [.int .i64 k, .int .i64 n, .string (mkS s)] fun g1 => ?_
    refine RR [] .z (.i 4 (.bool false) .a) .a ?_
    refine RZ (NT (SQ (SQ (RG ?_))))
    refine RR [2] .z (.i 9 (.bool (k != (4 : Int))) .a) .a ?_
    refine RZ (NT ?_)
    refine SC 9 (k != (4 : Int)) true (by simp only [bne_iff_ne, beq_iff_eq, ne_eq]; omega) ?_
    refine CT (SQ (RG ?_))
    refine RR [2, 2, 2] (.d .a) (.i 10 (.agg #[.int .i64 k, .int .i64 n, .string (mkS s)]) (.d (.d (.k .a)))) .a ?_
    refine RC (dst := some 11) [] .a (hC) ?_
    rintro r _ ⟨rfl, rfl⟩
    cases b with
    | false =>
      refine RR [] .z (.d (.d (.k .a))) .a ?_
      refine RZ (NT (RE (TR ?_)))
      refine NE [] .z .a [] (.bool false) ?_
      exact ⟨rfl, rfl⟩
    | true =>
      refine RR [] .z (.i 4 (.bool true) (.d (.d (.d (.k .a))))) .a ?_
      refine RZ (NT (RE (TR ?_)))
      refine NE [] .z .a [] (.bool true) ?_
      exact ⟨rfl, rfl⟩
end Go.Proofs.YtgcfomhlgipllaaGreatDoor
namespace Go.Proofs.YtgcfomhlgipllaaGreatDoor
open Go Go.Sx
theorem showT_len (L : List O) (v : V) : (showT L v).length ≤ 200 := by
  unfold showT cutT
  split
  · split
    · simp only [List.length_append, List.length_take, List.length_cons, List.length_nil]; omega
    · omega
  · simp
theorem biTs_len (L : List O) (l : List Bi) : (l.flatMap (biT L)).length = l.length * 4 := by
  induction l with
  | nil => rfl
  | cons x l ih => rw [List.flatMap_cons, List.length_append, ih, List.length_cons]; show 4 + _ = _; omega
theorem biTs_flat (L : List O) : ∀ l : List Bi, (∀ b ∈ l, b.ok) → (l.flatMap (biT L)).flatten.length ≤ l.length * 1048800
  | [], _ => by simp
  | x :: l, h => by
    have ih := biTs_flat L l fun b hb => h b (List.mem_cons_of_mem _ hb)
    obtain ⟨h1, -, -⟩ := h x (List.mem_cons_self ..)
    have h1 : x.name.length ≤ 1048576 := h1
    have h2 := showT_len L x.v
    rw [List.flatMap_cons, List.flatten_append, List.length_append, List.length_cons]
    have : (biT L x).flatten.length ≤ 1048800 := by
      unfold biT
      simp only [List.flatten_cons, List.flatten_nil, List.length_append, List.length_cons, List.length_nil]
      omega
    omega
theorem biTs_succ (L : List O) {l : List Bi} {i : Nat} (h : i < l.length) : (l.take (i + 1)).flatMap (biT L) = (l.take i).flatMap (biT L) ++ biT L l[i] := by
  rw [← List.take_append_getElem h, List.flatMap_append]; simp
theorem frame_spec (g : Nat) (most : Int) (used : Nat) (a : Option Addr) (c : Nat) (l : List Ob) (hl4 : l.length ≤ 4096) (hL : okHeap (l.map Ob.o)) (f : FrV) (hf : f.ok) (mark : Tx) (hm : mark.length ≤ 2) :
    Does Tryz.prog 78 [.agg (frC f).toArray, .string (mkS mark), .pointer (some ⟨g, 0, none⟩)] [ro (some ⟨g, 0, none⟩) [.bool true, .int .i64 most, .int .i64 used, .slice a l.length c], ro a (l.flatMap objC), gBag l, gPow, ro f.a (f.vars.flatMap biC)]
      (fun r hp' => (if frameB l.length f then r = .tuple #[.string (mkS (frameT (l.map Ob.o) mark f)), .bool true] else r = .tuple #[.string (mkS []), .bool false]) ∧ hp' = []) := by
  obtain ⟨hf1, hf2, hf3, hf4⟩ := hf
  unfold okText at hf1
  have hI := Itoa_spec f.line hf2.1 hf2.2
  have hIl := itoa_len20 hf2
  unfold frameT
  obtain ⟨I, hIe⟩ : ∃ I, I = Lib.itoa f.line := ⟨_, rfl⟩
  rw [← hIe] at hI hIl ⊢
  rw [show frC f = [.string (mkS f.fn), .int .i64 f.line, .slice f.a f.vars.length f.c] from rfl]
  obtain ⟨L, hLe⟩ : ∃ L, L = l.map Ob.o := ⟨_, rfl⟩
  have hShow := fun v hs hi => Show_spec g most used a c l hl4 hL v hs hi
  rw [← hLe] at hShow ⊢
  refine fn_enter Tryz.func78 rfl 42 rfl fun w0 h0 => ?_
  refine SQ (RG ?_)
  refine RP [] (.d .a) 3 (.d (.k .a)) .a 90 [.string (mkS f.fn), .int .i64 f.line, .slice f.a f.vars.length f.c] fun g1 => ?_
  refine RR [] .z (.i 7 (.bool false) (.i 6 (.string ⟨#[]⟩) .a)) .a ?_
  refine RZ (NT (SQ ?_))
  refine wpc_draw (by kernel_rfl) [gPow, .blk g1 90 [.string (mkS f.fn), .int .i64 f.line, .slice f.a f.vars.length f.c]] (sub_of [3, 5] (by kernel_rfl)) 8 (by kernel_rfl) ?_
  refine TK 3 [(0, []), (1, []), (2, [1]), (3, []), (4, [1])] (.i 15 (.int .i64 f.line) (.i 13 (.string (mkS f.fn)) (.i 11 (.string (mkS mark)) (.k (.k (.k (.d (.k .a)))))))) (#[true, true, true, true, true, false, false, false]) ?_
  refine AC (dst := some 16) 2 5 .a (hI) (GV (GI []) 3 view_gPow) [3, 5] ?_
  rintro r _ ⟨rfl, rfl⟩
  refine wpa_new (n := 1) true 6 [] (fun g2 => [(17, .slice (some ⟨g2, 0, none⟩) 4 4), (7, .bool false), (6, .string ⟨#[]⟩), (3, .pointer (some ⟨g1, 0, none⟩)), (2, .pointer (some ⟨g, 0, none⟩))]) (fun g2 => [ro (some ⟨g, 0, none⟩) [.bool true, .int .i64 most, .int .i64 (↑used : Int), .slice a l.length c], ro a (List.flatMap objC l), gBag l, gPow, ro f.a (List.flatMap biC f.vars), .blk g1 90 [.string (mkS f.fn), .int .i64 f.line, .slice f.a f.vars.length f.c], .blk g2 9 [.string (mkS mark), .string (mkS f.fn), .string (ByteArray.mk #[58]), .string (mkS I)]]) (fun g2 => []) (by kernel_rfl) (fun g2 => by kernel_rfl) (fun g2 => by kernel_rfl) (fun g2 => trivial) (fun g2 => sub_of [3, 5] (by kernel_rfl)) fun g2 => ?_
  refine TK 0 [(7, [])] (.i 8 (.slice (some ⟨g2, 0, none⟩) 4 4) (.d (.k .a))) (#[true, true, true, true, true, true, true, true]) ?_
  refine wpa_done 0 (by kernel_rfl) ?_
  refine NT (SQ (SQ (RG ?_)))
  refine RR [5] .z (.i 21 (.int .i64 0) (.i 20 (.int .i64 (↑f.vars.length : Int)) (.i 19 (.slice f.a f.vars.length f.c) (.k (.k (.k (.d (.k .a)))))))) .a ?_
  refine RZ (NT (BK ?_))
  refine wpc_ent (ent_turn 6 (row 9 1 (some ⟨g2, 0, none⟩) 4 4 (strsC [mark, f.fn, [58], I])) rfl (turn_blk rfl (strs_one [mark, f.fn, [58], I]) (by decide)) rfl) ?_
  obtain ⟨T, hT⟩ : ∃ T : Nat → List Tx, T = fun i => [mark, f.fn, [58], I] ++ (f.vars.take i).flatMap (biT L) := ⟨_, rfl⟩
  have hTl : ∀ i, i ≤ f.vars.length → (T i).length = 4 + i * 4 := fun i hi => by rw [hT]; dsimp only; rw [List.length_append, biTs_len, List.length_take, Nat.min_eq_left hi]; rfl
  have hTf : ∀ i, (T i).flatten.length ≤ 4000000000000 := fun i => by
    have h1 := biTs_flat L (f.vars.take i) fun b hb => hf4 b (List.mem_of_mem_take hb)
    have h2 : (f.vars.take i).length ≤ 1048576 := by rw [List.length_take]; omega
    have h3 : (f.vars.take i).length * 1048800 ≤ 1048576 * 1048800 := Nat.mul_le_mul_right _ h2
    rw [hT]; dsimp only
    rw [List.flatten_append, List.length_append]
    simp only [List.flatten_cons, List.flatten_nil, List.length_append, List.length_cons, List.length_nil]
    omega
  have hT0 : [mark, f.fn, [58], I] = T 0 := by rw [hT]; simp
  have hTe : [mark, f.fn, [58], I] ++ f.vars.flatMap (biT L) = T f.vars.length := by rw [hT]; simp
  have hTs : ∀ i (h : i < f.vars.length), T i ++ biT L f.vars[i] = T (i + 1) := fun i h => by rw [hT]; dsimp only; rw [biTs_succ L h, List.append_assoc]
  rw [hTe, hT0]
  refine wpc_loop (X := {x : Nat × Option Addr × Nat // x.1 ≤ f.vars.length ∧ ∀ b ∈ f.vars.take x.1, rightB b.v l.length = true}) (fun x => St.mk [(21, .int .i64 (x.1.1 : Int)), (20, .int .i64 f.vars.length), (19, .slice f.a f.vars.length f.c), (8, .slice x.1.2.1 (T x.1.1).length x.1.2.2), (7, .bool false), (6, .string ⟨#[]⟩), (2, .pointer (some ⟨g, 0, none⟩))]
    [ro (some ⟨g, 0, none⟩) [.bool true, .int .i64 most, .int .i64 used, .slice a l.length c], ro a (l.flatMap objC), gBag l, gPow, ro f.a (f.vars.flatMap biC), row 9 1 x.1.2.1 (T x.1.1).length x.1.2.2 (strsC (T x.1.1))]) (fun x => f.vars.length - x.1.1) ⟨(0, some ⟨g2, 0, none⟩, 4), Nat.zero_le _, fun b hb => by simp at hb⟩ ?_ ?_
  · have h4 : (T 0).length = 4 := hTl 0 (Nat.zero_le _)
    dsimp only
    rw [h4]
    exact Ent.trans (ent_hp [0, 0, 0, 0, 0, 1] rfl) (ent_fr (by kernel_rfl))
  rintro ⟨⟨i, a1, c1⟩, hi, hal⟩
  dsimp only at hi hal ⊢
  have hTi := hTl i hi
  by_cases hlt : i < f.vars.length
  · obtain ⟨b1, b2, b3⟩ := hf4 _ (List.getElem_mem hlt)
    have hS := hShow _ b2 b3
    have hR := right_spec g most used a c l f.vars[i].v hl4 b2
    have hat := bis_at hlt
    have hsucc := hTs i hlt
    unfold biT at hsucc
    have hTn := hTl (i + 1) hlt
    rw [show biC f.vars[i] = [.string (mkS f.vars[i].name), .int .i64 f.vars[i].v.k, .int .i64 f.vars[i].v.n, .string (mkS f.vars[i].v.s)] from rfl] at hat
    unfold valV at hS hR
    obtain ⟨S, hSe⟩ : ∃ S, S = showT L f.vars[i].v := ⟨_, rfl⟩
    rw [← hSe] at hS hsucc
    refine wpc_fact (fun w h => ro_addr h 4 rfl (by rw [bis_len]; omega)) ?_
    rintro ⟨g0, o0, hfa⟩
    rw [hfa]
    refine SQ (RG ?_)
    refine RR [] .z (.i 22 (.bool (decide ((↑i : Int) < (↑f.vars.length : Int)))) .a) .a ?_
    refine RZ (NT (SQ ?_))
    refine SC 22 (decide ((↑i : Int) < (↑f.vars.length : Int))) true (decide_eq_true (by omega)) ?_
    refine CT (SK (NT (SQ (BK (SQ (RG ?_))))))
    refine RV true [] (.d .a) (.i 23 (.pointer (some ⟨g0, o0 + i * 4, none⟩)) (.d (.d (.k .a)))) .a [(0 : Int) ≤ (↑i : Int) ∧ (↑i : Int) < (↑f.vars.length : Int)] ⟨by omega, trivial⟩ ?_
    refine wpr_eq (ld (t := 96) (a := ⟨g0, o0 + i * 4, none⟩) (dst := some 24) (by kernel_rfl) true 4 (by kernel_rfl) (by simp) [.string (mkS f.vars[i].name), .int .i64 f.vars[i].v.k, .int .i64 f.vars[i].v.n, .string (mkS f.vars[i].v.s)] rfl (fun w h => ld_ro h 4 rfl (i * 4) hat)) ?_
    refine RP [] (.d .a) 10 (.i 24 (.agg #[.string (mkS f.vars[i].name), .int .i64 f.vars[i].v.k, .int .i64 f.vars[i].v.n, .string (mkS f.vars[i].v.s)]) (.d (.d (.k .a)))) .a 96 [.string ⟨#[]⟩, .int .i64 0, .int .i64 0, .string ⟨#[]⟩] fun g3 => ?_
    refine RR [6, 6, 6, 6] .z (.k (.d (.k .a))) (.k (.k (.k (.k (.k (.k (.u (.i (.string (mkS f.vars[i].name)) (.i (.int .i64 f.vars[i].v.k) (.i (.int .i64 f.vars[i].v.n) (.i (.string (mkS f.vars[i].v.s)) .z)))) .a))))))) ?_
    refine RZ (NT (SQ (SQ (RG ?_))))
    refine RR [6, 6, 6] (.d (.d (.d .a))) (.i 27 (.agg #[.int .i64 f.vars[i].v.k, .int .i64 f.vars[i].v.n, .string (mkS f.vars[i].v.s)]) (.i 25 (.pointer (some ⟨g, 0, none⟩)) .a)) .a ?_
    refine RCG (dst := some 28) .a (hR) (GV (GV (GI []) 1 view_ro) 0 view_ro) ?_
    rintro r _ ⟨rfl, rfl⟩
    cases hb : rightB f.vars[i].v l.length with
    | false =>
      have hF : frameB l.length f = false := by
        unfold frameB
        rw [List.all_eq_false]
        exact ⟨_, List.getElem_mem hlt, by rw [hb]; decide⟩
      refine RR [] .z (.i 29 (.bool true) (.d (.d (.d (.k .a))))) .a ?_
      refine RZ (NT (CT (SQ (RG ?_))))
      refine RR [] .z (.i 7 (.bool false) (.i 6 (.string ⟨#[]⟩) (.d (.k (.k (.k (.k (.k (.d (.d (.k .a))))))))))) .a ?_
      refine RZ (NT (RE (TR (BR (TR (TR (BR (TR ?_))))))))
      refine NE [] .z .a [] (.tuple #[.string ⟨#[]⟩, .bool false]) ?_
      rw [hF]
      exact ⟨rfl, rfl⟩
    | true =>
      refine RR [] .z (.i 29 (.bool false) (.d (.d (.d (.k .a))))) .a ?_
      refine RZ (NT (CF (SK (NT ?_))))
      refine wpc_draw (by kernel_rfl) [ro (some ⟨g, 0, none⟩) [.bool true, .int .i64 most, .int .i64 (↑used : Int), .slice a l.length c], ro a (List.flatMap objC l), gBag l, gPow, .blk g3 96 [.string (mkS f.vars[i].name), .int .i64 f.vars[i].v.k, .int .i64 f.vars[i].v.n, .string (mkS f.vars[i].v.s)]] (sub_of [0, 1, 2, 3, 6] (by kernel_rfl)) 10 (by kernel_rfl) ?_
      refine TK 4 [(0, []), (1, []), (2, [4]), (3, []), (4, []), (5, [4, 4, 4])] (.i 35 (.agg #[.int .i64 f.vars[i].v.k, .int .i64 f.vars[i].v.n, .string (mkS f.vars[i].v.s)]) (.i 33 (.pointer (some ⟨g, 0, none⟩)) (.i 32 (.string (mkS f.vars[i].name)) (.i 30 (.slice a1 (T i).length c1) (.d (.d (.k .a))))))) (#[true, true, true, true, true, true, false, false, false, false]) ?_
      refine AC (dst := some 36) 3 6 .a (hS) (GV (GV (GV (GV (GI []) 3 view_gPow) 2 view_self) 1 view_ro) 0 view_ro) [0, 1, 2, 3, 6] ?_
      rintro r _ ⟨rfl, rfl⟩
      refine wpa_new (n := 2) true 7 [] (fun g4 => [(37, .slice (some ⟨g4, 0, none⟩) 4 4), (30, .slice a1 (T i).length c1), (21, .int .i64 (↑i : Int)), (20, .int .i64 (↑f.vars.length : Int)), (19, .slice (some ⟨g0, o0, none⟩) f.vars.length f.c), (8, .slice a1 (T i).length c1), (7, .bool false), (6, .string ⟨#[]⟩), (2, .pointer (some ⟨g, 0, none⟩))]) (fun g4 => [ro (some ⟨g, 0, none⟩) [.bool true, .int .i64 most, .int .i64 (↑used : Int), .slice a l.length c], ro a (List.flatMap objC l), gBag l, gPow, ro (some ⟨g0, o0, none⟩) (List.flatMap biC f.vars), row 9 1 a1 (T i).length c1 (strsC (T i)), .blk g3 96 [.string (mkS f.vars[i].name), .int .i64 f.vars[i].v.k, .int .i64 f.vars[i].v.n, .string (mkS f.vars[i].v.s)], .blk g4 9 [.string (ByteArray.mk #[32]), .string (mkS f.vars[i].name), .string (ByteArray.mk #[61]), .string (mkS S)]]) (fun g4 => []) (by kernel_rfl) (fun g4 => by kernel_rfl) (fun g4 => by kernel_rfl) (fun g4 => trivial) (fun g4 => sub_of [0, 1, 2, 3, 6] (by kernel_rfl)) fun g4 => ?_
      refine wpa_ent (ent_turn 7 (ro (some ⟨g4, 0, none⟩) (strsC [[32], f.vars[i].name, [61], S])) rfl (turn_rblk (strs_one [[32], f.vars[i].name, [61], S])) rfl) ?_
      refine wpa_app (i := 8) (nf := 1) (by kernel_rfl) (a := a1) (n := ((T i).length)) (cap := c1) (x := (.slice (some ⟨g4, 0, none⟩) 4 4)) (t := 22) (xt := 22) (dst := some 38) (by kernel_rfl) (e := 9) (sz := 1) (bytes := 16) (by kernel_rfl) 5 (xs := (strsC (T i))) (by kernel_rfl) (m := 4) (news := (strsC [[32], f.vars[i].name, [61], S])) (fun w h => src_ro h 7 rfl rfl (fun e => by cases e)) (by unfold maxLen; omega) (by omega) [0, 1, 2, 3, 5] (by kernel_rfl) ?_
      intro a2 c2 hn2
      rw [strs_apps, hsucc, show (T i).length + 4 = (T (i + 1)).length by omega]
      refine TK 0 [(9, [])] (.i 8 (.slice a2 (T (i + 1)).length c2) (.d (.d (.d (.k (.k (.k (.d (.k .a))))))))) (#[true, true, true, true, true, true, true, true, true, true]) ?_
      refine wpa_done 0 (by kernel_rfl) ?_
      refine BN (NT (RG ?_))
      refine RV true [] .z (.i 21 (.int .i64 ((↑i : Int) + 1)) (.k (.d (.k .a)))) .a ([inI64 ((↑i : Int) + (1 : Int))]) ⟨by unfold inI64; omega, trivial⟩ ?_
      refine RZ ?_
      rw [← hfa]
      exact fun a' w' hS' => ⟨⟨(i + 1, a2, c2), hlt, fun b hb' => by
              rw [← List.take_append_getElem hlt] at hb'
              rcases List.mem_append.1 hb' with h | h
              · exact hal b h
              · rw [List.mem_singleton.1 h]; exact hb⟩, by dsimp only; omega, ent_fr (by kernel_rfl) _ _ (ent_hp [0, 0, 0, 0, 0, 0] rfl _ _ hS')⟩
  · obtain rfl : i = f.vars.length := by omega
    have hF : frameB l.length f = true := by
      unfold frameB
      rw [List.all_eq_true]
      intro b hb
      exact hal b (by rw [List.take_length]; exact hb)
    refine SQ (RG ?_)
    refine RR [] .z (.i 22 (.bool (decide ((↑f.vars.length : Int) < (↑f.vars.length : Int)))) .a) .a ?_
    refine RZ (NT (SQ ?_))
    refine SC 22 (decide ((↑f.vars.length : Int) < (↑f.vars.length : Int))) false (by simp) ?_
    refine CF (EX (TE (TE (BH (NT (SQ (RG ?_)))))))
    refine RR [] (.d .a) (.i 40 (.slice a1 (T f.vars.length).length c1) (.d (.d (.d (.d (.d (.d (.k (.k .z))))))))) .a ?_
    refine wpr_fact (fun w h => row_cap h 5 rfl) ?_
    rintro ⟨-, hc2, -⟩
    refine RCG (dst := some 41) .a (line_spec a1 c1 (T f.vars.length) (by omega) hc2 (by have := hTf f.vars.length; omega)) (GV (GI []) 5 view_row) ?_
    rintro r _ ⟨rfl, rfl⟩
    refine RR [] .z (.i 7 (.bool true) (.i 6 (.string (mkS (lineT (T f.vars.length)))) .z)) .a ?_
    refine RZ (NT (RE ?_))
    refine NE [] .z .a [] (.tuple #[.string (mkS (lineT (T f.vars.length))), .bool true]) ?_
    rw [hF]
    exact ⟨rfl, rfl⟩
end Go.Proofs.YtgcfomhlgipllaaGreatDoor
namespace Go.Sx
open Go
variable {Γ : Cx} {s : St} {Q : Exit → Act → World → Prop}
structure Keys (α : Type) [DecidableEq α] (P : Program) (k : TypeId) (kv : α → Value) : Prop where
  ty : ∃ d, P.underlying k = some d ∧ (d = .int .i64 ∨ d = .string) ∧ ∀ a b, Instr.sameNow d (kv a) (kv b) = some (decide (a = b))
end Go.Sx
namespace Go.Sx
open Go
variable {P : Program} {Γ : Cx} {Q : Exit → Act → World → Prop} {s : St}
def recL (fn : FuncId) (tmps : Array Value) (ps : Array Tmp) (assign body : Code) (D : Nat) : Loop := { rec0 .done fn tmps ps assign body D with pending := some .ret }
theorem wpc_range2 {g : Operand} {ps : Array Tmp} {assign body : Code} {f : Nat} {lb : Array Value} (t : Nat) (hgt : g = .tmp t) (hg : look s.fr t = some (.func (.func f) #[] lb)) (he : enters Γ.P f = true) (hds : Γ.ds = [])
    (hf : ∀ a : Act, a.tmps.size = Γ.nt → (∀ i v, look s.fr i = some v → a.tmps.getD i undef = v) → ∀ fn l D, ∃ R pre rest, Does Γ.P f (.func (.yield l) #[] #[] :: lb.toList) pre R ∧ Give (ob l (.loop (rec0 .ready fn a.tmps ps assign body D)) :: ob D (.deferred (some [])) :: s.hp) pre rest ∧
      ∀ v hp', R v hp' → (∃ hp'', hp' = ob l (.loop (rec0 .ready fn a.tmps ps assign body D)) :: ob D (.deferred (some [])) :: hp'' ∧
        Nx { Γ with ds := [{ target := .collected D, args := #[] }] } ⟨s.fr, ob D (.deferred (some [])) :: (hp'' ++ rest)⟩ Q .normal) ∨
        (∃ hp'', hp' = ob l (.loop (recL fn a.tmps ps assign body D)) :: ob D (.deferred (some [])) :: hp'' ∧
        Nx { Γ with ds := [{ target := .collected D, args := #[] }] } ⟨s.fr, ob D (.deferred (some [])) :: (hp'' ++ rest)⟩ Q .ret)) :
    WpC Γ (.rangeFunc g ps assign body) s Q := fun a w hS => by
  subst hgt
  have hev : a.eval (.tmp t) = .func (.func f) #[] lb := hS.fr t _ hg
  refine (wpIn_wide (n := 0)).1 (wpIn_rangeFunc fun fn _ => ?_)
  have hS1 := (hS.newOb (.deferred (some []))).newOb (.loop (rec0 .ready fn a.tmps ps assign body w.heap.size))
  have hsz : (w.alloc (.deferred (some []))).heap.size = w.heap.size + 1 := World.size_alloc ..
  rw [hsz] at hS1
  obtain ⟨R, pre, rest, hD, hG, hRR⟩ := hf a hS.size hS.fr fn (w.heap.size + 1) w.heap.size
  refine ⟨w.heap.size + 1, [{ target := .collected w.heap.size, args := #[] }], (w.alloc (.deferred (some []))).alloc (.loop (rec0 .ready fn a.tmps ps assign body w.heap.size)), { target := .fn (.func f) lb, args := #[.func (.yield (w.heap.size + 1)) #[] #[]] }, (w.alloc (.deferred (some []))).alloc (.loop (rec0 .ready fn a.tmps ps assign body w.heap.size)), f,
    #[.func (.yield (w.heap.size + 1)) #[] #[]] ++ lb, (w.alloc (.deferred (some []))).alloc (.loop (rec0 .ready fn a.tmps ps assign body w.heap.size)), run_enterLoop_outer _ _ _ _ _, ?_, fun _ _ => trivial, ?_, fun h => (by cases h), ?_⟩
  · simp only [resolve, hev]
    simp [go_sem]
  · simp [invoke, run_enters he]
  · have hargs : #[.func (.yield (w.heap.size + 1)) #[] #[]] ++ lb = (Value.func (.yield (w.heap.size + 1)) #[] #[] :: lb.toList).toArray := by apply Array.ext'; simp
    rw [hargs]
    refine callsIn_wide.2 ((hD _ (hG.sat _ hS1.hs).1).mono ?_)
    rintro e w3 ⟨v, hp', hR, rfl, h1, h2, h3, h4⟩
    rcases hRR v hp' hR with ⟨hp'', rfl, hN⟩ | ⟨hp'', rfl, hN⟩
    · obtain ⟨k1, k2, k3⟩ := hS1.behind hG h1 h2 h3 h4
      have hS3 : Sat Γ ⟨s.fr, ob (w.heap.size + 1) (.loop (rec0 .ready fn a.tmps ps assign body w.heap.size)) :: ob w.heap.size (.deferred (some [])) :: (hp'' ++ rest)⟩ a w3 := ⟨hS.size, hS.defers, hS.fr, k1, k2, k3⟩
      have hS4 := (hS3.setOb (.loop { rec0 .ready fn a.tmps ps assign body w.heap.size with state := .exhausted })).drop1
      exact ⟨none, _, run_endLoop (ob_holds k1 (List.mem_cons_self ..)) (by simp [rec0]), hN _ _ ⟨hS4.size, by show _ ++ a.defers = _; rw [hS.defers, hds]; rfl, hS4.fr, hS4.hs, hS4.ext, hS4.bd⟩⟩
    · obtain ⟨k1, k2, k3⟩ := hS1.behind hG h1 h2 h3 h4
      have hS3 : Sat Γ ⟨s.fr, ob (w.heap.size + 1) (.loop (recL fn a.tmps ps assign body w.heap.size)) :: ob w.heap.size (.deferred (some [])) :: (hp'' ++ rest)⟩ a w3 := ⟨hS.size, hS.defers, hS.fr, k1, k2, k3⟩
      have hS4 := (hS3.setOb (.loop { recL fn a.tmps ps assign body w.heap.size with state := .exhausted })).drop1
      exact ⟨some .ret, _, run_endLoop (ob_holds k1 (List.mem_cons_self ..)) (by simp [recL, rec0]), wpIn_ret (hN _ _ ⟨hS4.size, by show _ ++ a.defers = _; rw [hS.defers, hds]; rfl, hS4.fr, hS4.hs, hS4.ext, hS4.bd⟩)⟩
/-! ### a function that holds one, and may end ahead of it -/
def QM2 (P : Program) (fn : Func) (w0 : World) (pre : Hp) (R : Value → Hp → Prop) : Exit → Act → World → Prop := fun e a w => (e = .normal ∨ e = .ret) ∧
  ((a.defers = [] ∧ ∃ v, (results fn a.tmps).run P w = .ok v w ∧ Post w0 pre R (.returned v) w) ∨
   ∃ D w', a.defers = [{ target := .collected D, args := #[] }] ∧ (Instr.takeDeferred D).run P w = .ok [] w' ∧ ∃ v, (results fn a.tmps).run P w' = .ok v w' ∧ Post w0 pre R (.returned v) w')
instance {fn : Func} {w0 : World} {pre : Hp} {R : Value → Hp → Prop} : PanicOk (QM2 P fn w0 pre R) := ⟨fun c a a' w _ h => by obtain ⟨h, _⟩ := h; rcases h with h | h <;> cases h⟩
theorem fn_enter_m2 {f : FuncId} {fn : Func} {c : Code} {args : List Value} {pre : Hp} {R : Value → Hp → Prop} (hf : P.funcs[f]? = some fn) (hb : fn.body = some c)
    (nt : Nat) (hnt : args.length + (fn.ntmps - args.length) = nt) (h : ∀ w0, HS pre w0 → WpC ⟨P, w0, foot pre, nt, []⟩ c ⟨enum 0 args, pre⟩ (QM2 P fn w0 pre R)) : Does P f args pre R := fun w hw => by
  refine (callsIn_wide (n := 0)).1 (callsIn_of_wp_marks (F := Fence.wide) hf hb trivial (wpIn_wide.2 (wp_mono (h w hw _ w ⟨by simp [hnt], rfl, fun i v hi => ?_, hw, Ext.refl _ _, Bd.self _ _⟩) ?_)))
  · obtain ⟨_, h1⟩ := look_enum _ _ _ _ hi
    simp only [Nat.sub_zero] at h1
    obtain ⟨hlt, h2⟩ := List.getElem?_eq_some_iff.1 h1
    simp [Array.getD_eq_getD_getElem?, Array.getElem?_append, hlt, h2]
  · rintro e a w' ⟨he, ⟨hd, v, hr, hp⟩ | ⟨D, w2, hd, ht, v, hr, hp⟩⟩
    · rcases he with rfl | rfl
      · show LeavesInM _ _ _ _ _ _ a.defers _ _
        rw [hd]; exact ⟨v, hr, hp⟩
      · show LeavesInM _ _ _ _ _ _ a.defers _ _
        rw [hd]; exact ⟨v, hr, hp⟩
    · rcases he with rfl | rfl
      · show LeavesInM _ _ _ _ _ _ a.defers _ _
        rw [hd]; exact ⟨by simp, .inl ⟨D, w2, rfl, ht, v, hr, hp⟩⟩
      · show LeavesInM _ _ _ _ _ _ a.defers _ _
        rw [hd]; exact ⟨by simp, .inl ⟨D, w2, rfl, ht, v, hr, hp⟩⟩
theorem end_post {w0 : World} {pre : Hp} {nt : Nat} {ds : List Deferred} {fn : Func} {R : Value → Hp → Prop} (sc : List Nat) (v : Value)
    (h1 : (resOf P fn s.fr s.hp sc).isSome = true) (h2 : (resOf P fn s.fr s.hp sc).map (fun r => (r.1, r.2.1)) = (resOf P fn s.fr s.hp sc).map (fun r => (v, r.2.2.1)))
    {hp' rest : Hp} (g : Give s.hp hp' rest) (hrw : AllRw hp') (hR : R v hp') {a : Act} {w : World} (hS : Sat ⟨P, w0, foot pre, nt, ds⟩ s a w) : (results fn a.tmps).run P w = .ok v w ∧ Post w0 pre R (.returned v) w := by
  obtain ⟨r, hr⟩ := Option.isSome_iff_exists.1 h1
  rw [hr] at h2
  simp only [Option.map_some, Option.some.injEq, Prod.mk.injEq] at h2
  obtain ⟨h3, h4⟩ := h2
  have hres := resOf_sound (Γ := ⟨P, w0, foot pre, nt, ds⟩) (s := s) (v := r.1) (gs := r.2.1) (ws := r.2.2.1) (sc' := r.2.2.2) hr h4 hS
  rw [h3] at hres
  exact ⟨hres, v, hp', hR, rfl, (g.sat w hS.hs).1, hS.ext, fun c hc hcr k hk => by
    obtain ⟨d, hd, hdr, hdk⟩ := g.foot k ⟨c, hc, hcr, hk⟩
    exact hS.bd d hd hdr k hdk, allRw_mem hrw⟩
theorem nx_end0 {w0 : World} {pre : Hp} {nt : Nat} {fn : Func} {R : Value → Hp → Prop} (is : List Nat) (sc : List Nat) (v : Value) {hp' rest : Hp} {e : Exit} (hR : R v hp')
    (h1 : (resOf P fn s.fr s.hp sc).isSome = true := by kernel_rfl) (h2 : (resOf P fn s.fr s.hp sc).map (fun r => (r.1, r.2.1)) = (resOf P fn s.fr s.hp sc).map (fun r => (v, r.2.2.1)) := by kernel_rfl)
    (g : picks is s.hp = some (hp', rest) := by exact rfl) (hrw : AllRw hp' := by repeat (first | exact trivial | refine ⟨trivial, ?_⟩))
    (he : e = .normal ∨ e = .ret := by first | exact .inl rfl | exact .inr rfl) : Nx ⟨P, w0, foot pre, nt, []⟩ s (QM2 P fn w0 pre R) e := fun a w hS =>
  ⟨he, .inl ⟨hS.defers, v, (end_post sc v h1 h2 (give is g) hrw hR hS).1, (end_post sc v h1 h2 (give is g) hrw hR hS).2⟩⟩
theorem nx_end2 {w0 : World} {pre : Hp} {nt D : Nat} {fn : Func} {fr : Fr} {hp : Hp} {R : Value → Hp → Prop} (is : List Nat) (sc : List Nat) (v : Value) {hp' rest : Hp} {e : Exit} (hR : R v hp')
    (h1 : (resOf P fn fr hp sc).isSome = true := by kernel_rfl) (h2 : (resOf P fn fr hp sc).map (fun r => (r.1, r.2.1)) = (resOf P fn fr hp sc).map (fun r => (v, r.2.2.1)) := by kernel_rfl)
    (g : picks is hp = some (hp', rest) := by exact rfl) (hrw : AllRw hp' := by repeat (first | exact trivial | refine ⟨trivial, ?_⟩))
    (he : e = .normal ∨ e = .ret := by first | exact .inl rfl | exact .inr rfl) :
    Nx ⟨P, w0, foot pre, nt, [{ target := .collected D, args := #[] }]⟩ ⟨fr, ob D (.deferred (some [])) :: hp⟩ (QM2 P fn w0 pre R) e := fun a w hS => by
  have hD := ob_holds hS.hs (List.mem_cons_self ..)
  have hS2 := (hS.setOb (.deferred none)).drop1
  obtain ⟨q1, q2⟩ := end_post (s := ⟨fr, hp⟩) sc v h1 h2 (give is g) hrw hR hS2
  exact ⟨he, .inr ⟨D, _, hS.defers, run_takeDeferred hD, v, q1, q2⟩⟩
theorem Does.ent2 {P : Program} {f : FuncId} {args : List Value} {pre pre' : Hp} {R R2 : Value → Hp → Prop} (h : Does P f args pre R) (e : ∀ Γ : Cx, Ent Γ ⟨[], pre'⟩ ⟨[], pre⟩)
    (k : ∀ v hp', R v hp' → ∃ hp2, R2 v hp2 ∧ (∀ Γ : Cx, Ent Γ ⟨[], hp'⟩ ⟨[], hp2⟩) ∧ ∀ c ∈ hp2, c.rw) : Does P f args pre' R2 := fun w hw => by
  have hS : Sat ⟨P, w, foot pre', 0, []⟩ ⟨[], pre'⟩ ⟨#[], []⟩ w := ⟨rfl, rfl, fun i v hi => (by cases hi), hw, Ext.refl _ _, Bd.self _ _⟩
  have h2 := e _ _ _ hS
  refine (h w h2.hs).mono ?_
  rintro e' w' ⟨v, hp', hR, rfl, h3, h4, h5, h6⟩
  obtain ⟨hp2, hR2, he2, hrw⟩ := k v hp' hR
  have hS' : Sat ⟨P, w, foot pre, 0, []⟩ ⟨[], hp'⟩ ⟨#[], []⟩ w' := ⟨rfl, rfl, fun i v hi => (by cases hi), h3, h4, h5⟩
  have h7 := he2 _ _ _ hS'
  have hsub : ∀ k, foot pre k → foot pre' k ∨ w.heap.size ≤ k := fun k ⟨c, hc, hcr, hk⟩ => h2.bd c hc hcr k hk
  refine ⟨v, hp2, hR2, rfl, h7.hs, ⟨h7.ext.os, h7.ext.tape, h7.ext.output, h7.ext.size, fun k hk hF => h7.ext.block k hk fun hF' => ?_⟩, fun c hc hcr k hk => ?_, hrw⟩
  · rcases hsub k hF' with h8 | h8
    · exact hF h8
    · omega
  · rcases h7.bd c hc hcr k hk with h8 | h8
    · exact hsub k h8
    · exact .inr h8
/-! ### within a round -/
theorem rnd_cond {l t : Nat} {b : Bool} {x y : Code} (hl : look s.fr t = some (.bool b)) {a : Act} {w : World} (hS : Sat Γ s a w) (h : (if b then x else y).wpIn (Fence.wide.inRound l) 0 Γ.P Q a w) :
    (Code.cond (.tmp t) x y).wpIn (Fence.wide.inRound l) 0 Γ.P Q a w := wpIn_cond (hS.fr t _ hl) h
end Go.Sx
namespace Go.Proofs.YtgcfomhlgipllaaGreatDoor
open Go Go.Sx
theorem inward_spec (a : Option Addr) (n c : Nat) : Does Tryz.prog 77 [.slice a n c] [] (fun r hp' => ∃ g, r = .func (.func 126) #[] #[.pointer (some ⟨g, 0, none⟩)] ∧ hp' = [.blk g 69 [.slice a n c]]) := by
  refine fn_enter Tryz.func77 rfl 4 rfl fun w0 h0 => ?_
  refine SQ (RG ?_)
  refine RP [] (.d .a) 1 .z .a 69 [.slice a n c] fun g1 => ?_
  refine RR [] .z (.i 2 Value.nilFunc .a) .a ?_
  refine RZ (NT (SQ (RG ?_)))
  refine RR [] .z (.i 2 (Value.func (Fn.func 126) #[] #[.pointer (some ⟨g1, 0, none⟩)]) .z) .a ?_
  refine RZ (NT (RE ?_))
  refine NE [0] .a .z [] (Value.func (Fn.func 126) #[] #[.pointer (some ⟨g1, 0, none⟩)]) ?_
  exact ⟨g1, rfl, rfl⟩
theorem nx_cut {Γ : Cx} {s : St} {Q : Exit → Act → World → Prop} {K : Act → World → Prop} (h : ∀ a w, Sat Γ s a w → K a w) : Nx Γ s (Exit.then K Q) .normal := fun a w hS => h a w hS
def rdH (g : Nat) (most : Int) (used : Nat) (a : Option Addr) (c : Nat) (l : List Ob) (f : FrV) (C : Ch) : Hp :=
  [ro (some ⟨g, 0, none⟩) [.bool true, .int .i64 most, .int .i64 used, .slice a l.length c], ro a (l.flatMap objC), gBag l, gPow, ro f.a (f.vars.flatMap biC), C]
def inFr (l : List FrV) (i : Nat) : FrV := l.getD (l.length - 1 - i) ⟨[], 0, none, 0, []⟩
theorem inFr_at {l : List FrV} {i : Nat} (h : i < l.length) : inFr l i = l[l.length - 1 - i]'(by omega) := by
  unfold inFr
  rw [List.getD_eq_getElem?_getD, List.getElem?_eq_getElem (by omega)]; rfl
theorem inFr_mem {l : List FrV} {i : Nat} (h : i < l.length) : inFr l i ∈ l := by rw [inFr_at h]; exact List.getElem_mem _
theorem inFr_all {l : List FrV} {p : FrV → Bool} (h : ∀ i, i < l.length → p (inFr l i) = true) : l.all p = true := by
  rw [List.all_eq_true]
  intro x hx
  obtain ⟨q, hq, rfl⟩ := List.getElem_of_mem hx
  have h1 := h (l.length - 1 - q) (by omega)
  rw [inFr_at (by omega)] at h1
  rwa [show l[l.length - 1 - (l.length - 1 - q)]'(by omega) = l[q] from by congr 1; omega] at h1
theorem inFr_not {l : List FrV} {p : FrV → Bool} {i : Nat} (hi : i < l.length) (h : p (inFr l i) = false) : l.all p = false := by
  rw [List.all_eq_false]
  exact ⟨_, inFr_mem hi, by rw [h]; decide⟩
theorem inward1_spec (y bx : Nat) (g : Nat) (most : Int) (used : Nat) (ao : Option Addr) (c : Nat) (l : List Ob) (fa : Option Addr) (fc : Nat) (fs : List FrV) (hfs : fs.length ≤ 1048576)
    (C : Option Addr × Nat → Nat → Ch) (E : Option Addr × Nat → Ch) (hC : ∀ s i, (C s i).rw) (hE : ∀ s, (E s).rw) (s0 : Option Addr × Nat)
    (hY : ∀ s i, i < fs.length → frameB l.length (inFr fs i) = true → YDoes Tryz.prog y [.int .i64 (i : Int), .agg #[.string (mkS (inFr fs i).fn), .int .i64 (inFr fs i).line, .slice (inFr fs i).a (inFr fs i).vars.length (inFr fs i).c]] (rdH g most used ao c l (inFr fs i) (C s i)) (fun v hp' => v = .bool true ∧ ∃ s', hp' = [C s' (i + 1)]))
    (hN : ∀ s i, i < fs.length → frameB l.length (inFr fs i) = false → YDoes Tryz.prog y [.int .i64 (i : Int), .agg #[.string (mkS (inFr fs i).fn), .int .i64 (inFr fs i).line, .slice (inFr fs i).a (inFr fs i).vars.length (inFr fs i).c]] (rdH g most used ao c l (inFr fs i) (C s i)) (fun v hp' => v = .bool false ∧ ∃ s', hp' = [E s'])) :
    Does Tryz.prog 126 [.func (.yield y) #[] #[], .pointer (some ⟨bx, 0, none⟩)] [C s0 0, .blk bx 69 [.slice fa fs.length fc], ro (some ⟨g, 0, none⟩) [.bool true, .int .i64 most, .int .i64 used, .slice ao l.length c], ro ao (l.flatMap objC), gBag l, gPow, ro fa (fs.flatMap frC), gFr fs]
      (fun v hp' => ∃ s, if fs.all (frameB l.length) then hp' = [C s fs.length, .blk bx 69 [.slice fa fs.length fc]] else hp' = [E s, .blk bx 69 [.slice fa fs.length fc]]) := by
  refine fn_enter Tryz.func126 rfl 22 rfl fun w0 h0 => ?_
  refine SQ (RG ?_)
  refine RR [1] .z (.i 6 (.int .i64 0) (.i 5 (.int .i64 (↑fs.length : Int)) .a)) .a ?_
  refine RZ (NT (BK ?_))
  refine wpc_loop (X := {x : (Option Addr × Nat) × Nat // x.2 ≤ fs.length ∧ ∀ k, k < x.2 → frameB l.length (inFr fs k) = true}) (fun x => St.mk [(6, .int .i64 (x.1.2 : Int)), (5, .int .i64 fs.length), (0, .func (.yield y) #[] #[]), (1, .pointer (some ⟨bx, 0, none⟩))]
    [C x.1.1 x.1.2, .blk bx 69 [.slice fa fs.length fc], ro (some ⟨g, 0, none⟩) [.bool true, .int .i64 most, .int .i64 used, .slice ao l.length c], ro ao (l.flatMap objC), gBag l, gPow, ro fa (fs.flatMap frC), gFr fs]) (fun x => fs.length - x.1.2) ⟨(s0, 0), Nat.zero_le _, fun k hk => absurd hk (Nat.not_lt_zero k)⟩ (ent_fr (by kernel_rfl)) ?_
  rintro ⟨⟨s, i⟩, hi, hal⟩
  dsimp only at hi hal ⊢
  by_cases hlt : i < fs.length
  · refine wpc_fact (fun w h => ro_addr h 6 rfl (by rw [frs_len]; omega)) ?_
    rintro ⟨g0, o0, rfl⟩
    have hfl := inFr_at hlt
    have hat : ((fs.flatMap frC).drop (((fs.length : Int) - 1 - (i : Int)).toNat * 3)).take 3 = [.string (mkS (inFr fs i).fn), .int .i64 (inFr fs i).line, .slice (inFr fs i).a (inFr fs i).vars.length (inFr fs i).c] := by
      rw [hfl, show ((fs.length : Int) - 1 - (i : Int)).toNat = fs.length - 1 - i by omega]
      exact frs_at (by omega)
    have hin : ro (inFr fs i).a ((inFr fs i).vars.flatMap biC) ∈ fs.map frRo := by rw [hfl]; exact frRo_in (by omega)
    have hYi := hY s i hlt
    have hNi := hN s i hlt
    have hG : Give [C s i, .blk bx 69 [.slice (some ⟨g0, o0, none⟩) fs.length fc], ro (some ⟨g, 0, none⟩) [.bool true, .int .i64 most, .int .i64 used, .slice ao l.length c], ro ao (l.flatMap objC), gBag l, gPow, ro (some ⟨g0, o0, none⟩) (fs.flatMap frC), gFr fs]
        (rdH g most used ao c l (inFr fs i) (C s i)) [.blk bx 69 [.slice (some ⟨g0, o0, none⟩) fs.length fc], ro (some ⟨g, 0, none⟩) [.bool true, .int .i64 most, .int .i64 used, .slice ao l.length c], ro ao (l.flatMap objC), gBag l, gPow, ro (some ⟨g0, o0, none⟩) (fs.flatMap frC), gFr fs] :=
      GV (GV (GV (GV (GV (GI [0] rfl) 6 (view_in hin view_ro)) 4 view_gPow) 3 view_self) 2 view_ro) 1 view_ro
    obtain ⟨F, hF⟩ : ∃ F, F = inFr fs i := ⟨_, rfl⟩
    rw [← hF] at hat hYi hNi hG
    cases hb : frameB l.length (inFr fs i) with
    | true =>
      rw [← hF] at hb
      refine SQ (RG ?_)
      refine RR [] .z (.i 7 (.bool (decide ((↑i : Int) < (↑fs.length : Int)))) .a) .a ?_
      refine RZ (NT (SQ ?_))
      refine SC 7 (decide ((↑i : Int) < (↑fs.length : Int))) true (decide_eq_true (by omega)) ?_
      refine CT (SK (NT (SQ (BK (SQ (RG ?_))))))
      refine RR [] .z (.i 3 (.int .i64 (↑i : Int)) (.d (.d (.k .a)))) .a ?_
      refine RZ (NT (SQ ?_))
      refine wpc_region_cut [0, 1, 2, 3, 4, 5, 6, 7, 8, 9] [10, 11] (by kernel_rfl) (by kernel_rfl) ?_ ?_
      · rintro ⟨a', w', v, hp', _, h, _⟩; cases h
      refine RV true [1, 1] (.d (.d (.d (.d (.d (.d (.d (.d (.d .a))))))))) (.i 17 (.pointer (some (Addr.mk g0 (o0 + Int.toNat ((↑(List.length fs) : Int) - 1 - (↑i : Int)) * 3) none))) (.i 16 (.int .i64 ((↑fs.length : Int) - 1 - (↑i : Int))) (.i 15 (.int .i64 (↑i : Int)) (.i 14 (.int .i64 ((↑fs.length : Int) - 1)) (.i 13 (.int .i64 (↑fs.length : Int)) (.i 12 (.slice (some ⟨g0, o0, none⟩) fs.length fc) (.i 11 (.slice (some ⟨g0, o0, none⟩) fs.length fc) (.i 10 (.int .i64 (↑i : Int)) (.i 9 (Value.func (Fn.yield y) #[] #[]) .a))))))))) .a [inI64 ((↑fs.length : Int) - (1 : Int)), inI64 ((↑fs.length : Int) - (1 : Int) - (↑i : Int)), (0 : Int) ≤ (↑fs.length : Int) - (1 : Int) - (↑i : Int) ∧ (↑fs.length : Int) - (1 : Int) - (↑i : Int) < (↑fs.length : Int)] ⟨by unfold inI64; omega, by unfold inI64; omega, by omega, trivial⟩ ?_
      refine wpr_eq (ld (t := 90) (a := (Addr.mk g0 (o0 + Int.toNat ((↑(List.length fs) : Int) - 1 - (↑i : Int)) * 3) none)) (dst := some 18) (by kernel_rfl) true 3 (by kernel_rfl) (by simp) [.string (mkS F.fn), .int .i64 F.line, .slice F.a F.vars.length F.c] rfl (fun w h => ld_ro h 6 rfl _ hat)) ?_
      refine RZ ?_
      refine nx_cut fun a1 w1' hS1 => yield_sound (Γ := ⟨Tryz.prog, w0, _, 22, []⟩) (l := y) (args := [.int .i64 (i : Int), .agg #[.string (mkS F.fn), .int .i64 F.line, .slice F.a F.vars.length F.c]]) (dst := some 19) (by kernel_rfl) (by kernel_rfl) (by rintro ⟨a', w', v, hp', _, h, _⟩; cases h) (hYi hb) hG ?_ hS1
      rintro v _ ⟨rfl, s', rfl⟩
      refine RR [] .z (.i 20 (.bool false) (.d (.d (.d (.d (.d (.d (.d (.d (.d (.d (.d (.d (.k .a)))))))))))))) .a ?_
      refine RZ (NT (CF (SK (BN (NT (RG ?_))))))
      refine RV true [] .z (.i 6 (.int .i64 ((↑i : Int) + 1)) (.d (.d (.k .a)))) .a ([inI64 ((↑i : Int) + (1 : Int))]) ⟨by unfold inI64; omega, trivial⟩ ?_
      refine RZ ?_
      exact fun a' w hS => ⟨⟨(s', i + 1), hlt, fun k hk => by
        by_cases hki : k < i
        · exact hal k hki
        · obtain rfl : k = i := by dsimp only at hk; omega
          rw [← hF]; exact hb⟩, by dsimp only; omega, ent_fr (by kernel_rfl) _ _ (ent_hp [0, 0, 0, 0, 0, 0, 0, 0] rfl _ _ hS)⟩
    | false =>
      have hA := inFr_not hlt hb
      rw [← hF] at hb
      refine SQ (RG ?_)
      refine RR [] .z (.i 7 (.bool (decide ((↑i : Int) < (↑fs.length : Int)))) .a) .a ?_
      refine RZ (NT (SQ ?_))
      refine SC 7 (decide ((↑i : Int) < (↑fs.length : Int))) true (decide_eq_true (by omega)) ?_
      refine CT (SK (NT (SQ (BK (SQ (RG ?_))))))
      refine RR [] .z (.i 3 (.int .i64 (↑i : Int)) (.d (.d (.k .a)))) .a ?_
      refine RZ (NT (SQ ?_))
      refine wpc_region_cut [0, 1, 2, 3, 4, 5, 6, 7, 8, 9] [10, 11] (by kernel_rfl) (by kernel_rfl) ?_ ?_
      · rintro ⟨a', w', v, hp', _, h, _⟩; cases h
      refine RV true [1, 1] (.d (.d (.d (.d (.d (.d (.d (.d (.d .a))))))))) (.i 17 (.pointer (some (Addr.mk g0 (o0 + Int.toNat ((↑(List.length fs) : Int) - 1 - (↑i : Int)) * 3) none))) (.i 16 (.int .i64 ((↑fs.length : Int) - 1 - (↑i : Int))) (.i 15 (.int .i64 (↑i : Int)) (.i 14 (.int .i64 ((↑fs.length : Int) - 1)) (.i 13 (.int .i64 (↑fs.length : Int)) (.i 12 (.slice (some ⟨g0, o0, none⟩) fs.length fc) (.i 11 (.slice (some ⟨g0, o0, none⟩) fs.length fc) (.i 10 (.int .i64 (↑i : Int)) (.i 9 (Value.func (Fn.yield y) #[] #[]) .a))))))))) .a [inI64 ((↑fs.length : Int) - (1 : Int)), inI64 ((↑fs.length : Int) - (1 : Int) - (↑i : Int)), (0 : Int) ≤ (↑fs.length : Int) - (1 : Int) - (↑i : Int) ∧ (↑fs.length : Int) - (1 : Int) - (↑i : Int) < (↑fs.length : Int)] ⟨by unfold inI64; omega, by unfold inI64; omega, by omega, trivial⟩ ?_
      refine wpr_eq (ld (t := 90) (a := (Addr.mk g0 (o0 + Int.toNat ((↑(List.length fs) : Int) - 1 - (↑i : Int)) * 3) none)) (dst := some 18) (by kernel_rfl) true 3 (by kernel_rfl) (by simp) [.string (mkS F.fn), .int .i64 F.line, .slice F.a F.vars.length F.c] rfl (fun w h => ld_ro h 6 rfl _ hat)) ?_
      refine RZ ?_
      refine nx_cut fun a1 w1' hS1 => yield_sound (Γ := ⟨Tryz.prog, w0, _, 22, []⟩) (l := y) (args := [.int .i64 (i : Int), .agg #[.string (mkS F.fn), .int .i64 F.line, .slice F.a F.vars.length F.c]]) (dst := some 19) (by kernel_rfl) (by kernel_rfl) (by rintro ⟨a', w', v, hp', _, h, _⟩; cases h) (hNi hb) hG ?_ hS1
      rintro v _ ⟨rfl, s', rfl⟩
      refine RR [] .z (.i 20 (.bool true) (.d (.d (.d (.d (.d (.d (.d (.d (.d (.d (.d (.d (.k .a)))))))))))))) .a ?_
      refine RZ (NT (CT (RE (BR (TR (TR (BR ?_)))))))
      have hr : AllRw [E s', .blk bx 69 [.slice (some ⟨g0, o0, none⟩) fs.length fc]] := ⟨hE s', trivial, trivial⟩
      refine NE [0, 0] (.k (.k .z)) (.d (.d (.k .a))) [] (.tuple #[]) ?_
      exact ⟨s', by rw [hA]; rfl⟩
  · obtain rfl : i = fs.length := by omega
    have hA := inFr_all hal
    refine SQ (RG ?_)
    refine RR [] .z (.i 7 (.bool (decide ((↑fs.length : Int) < (↑fs.length : Int)))) .a) .a ?_
    refine RZ (NT (SQ ?_))
    refine SC 7 (decide ((↑fs.length : Int) < (↑fs.length : Int))) false (by simp) ?_
    refine CF (EX (TE (TE (BH ?_))))
    have hr : AllRw [C s fs.length, .blk bx 69 [.slice fa fs.length fc]] := ⟨hC s _, trivial, trivial⟩
    refine NE [0, 0] (.k (.k .z)) (.d (.d (.k .a))) [] (.tuple #[]) ?_
    exact ⟨s, by rw [hA]; rfl⟩
end Go.Proofs.YtgcfomhlgipllaaGreatDoor
namespace Go.Proofs.YtgcfomhlgipllaaGreatDoor
open Go Go.Sx
def asg2 : Code := ((Code.region 8 #[{ dst := some 9, op := Op.assign (Operand.tmp 42), type := 3, pos := "show.go:129", after := #[], guard := none }] false).seq (Code.region 9 #[{ dst := some 10, op := Op.alloc 90, type := 0, pos := "show.go:129", after := #[], guard := none }, { dst := none, op := Op.store 90 (Operand.tmp 10) (Operand.tmp 43), type := 0, pos := "show.go:129", after := #[{ on := 0, ground := Ground.data }, { on := 0, ground := Ground.phase }], guard := none }] false))
def rst2 : Code := ((Code.region 13 #[{ dst := some 49, op := Op.load 90 (Operand.tmp 10), type := 90, pos := "show.go:134", after := #[], guard := none }, { dst := some 50, op := Op.move (Operand.tmp 11), type := 9, pos := "show.go:134", after := #[], guard := none }, { dst := some 51, op := Op.load 84 (Operand.tmp 3), type := 84, pos := "show.go:134", after := #[], guard := none }, { dst := some 52, op := Op.call { callee := Callee.value (Operand.func 78), args := #[Operand.tmp 49, Operand.tmp 50, Operand.tmp 51], argTypes := #[90, 9, 84] }, type := 143, pos := "show.go:134", after := #[{ on := 0, ground := Ground.data }, { on := 1, ground := Ground.data }, { on := 2, ground := Ground.data }], guard := none }, { dst := some 48, op := Op.move (Operand.tmp 52), type := 143, pos := "show.go:134", after := #[{ on := 3, ground := Ground.data }], guard := none }, { dst := some 53, op := Op.extract (Operand.tmp 48) 0, type := 9, pos := "show.go:134", after := #[{ on := 4, ground := Ground.data }], guard := none }, { dst := some 54, op := Op.extract (Operand.tmp 48) 1, type := 4, pos := "show.go:134", after := #[{ on := 4, ground := Ground.data }, { on := 7, ground := Ground.gcOnly Departure.lateStores }], guard := none }, { dst := some 12, op := Op.assign (Operand.tmp 53), type := 9, pos := "show.go:134", after := #[{ on := 5, ground := Ground.data }, { on := 3, ground := Ground.chain }, { on := 0, ground := Ground.phase }, { on := 1, ground := Ground.phase }, { on := 2, ground := Ground.phase }, { on := 3, ground := Ground.phase }, { on := 4, ground := Ground.phase }, { on := 5, ground := Ground.phase }, { on := 6, ground := Ground.textOnly Departure.lateStores }], guard := none }, { dst := some 13, op := Op.assign (Operand.tmp 54), type := 4, pos := "show.go:134", after := #[{ on := 6, ground := Ground.data }, { on := 7, ground := Ground.chain }, { on := 0, ground := Ground.phase }, { on := 1, ground := Ground.phase }, { on := 2, ground := Ground.phase }, { on := 3, ground := Ground.phase }, { on := 4, ground := Ground.phase }, { on := 5, ground := Ground.phase }, { on := 6, ground := Ground.phase }, { on := 7, ground := Ground.phase }], guard := none }] false).seq (((Code.region 14 #[{ dst := some 55, op := Op.move (Operand.tmp 13), type := 4, pos := "show.go:135", after := #[], guard := none }, { dst := some 56, op := Op.unOp UnOp.not 4 (Operand.tmp 55), type := 4, pos := "show.go:135", after := #[{ on := 0, ground := Ground.data }], guard := none }] false).seq (Code.cond (Operand.tmp 56) ((Code.region 15 #[{ dst := none, op := Op.store 22 (Operand.tmp 4) (Operand.const (Value.slice none 0 0)), type := 0, pos := "show.go:136", after := #[], guard := none }, { dst := none, op := Op.store 30 (Operand.tmp 5) (Operand.const (Value.int IntKind.i64 2)), type := 0, pos := "show.go:136", after := #[{ on := 0, ground := Ground.chain }, { on := 0, ground := Ground.phase }], guard := none }] false).seq Code.ret) Code.skip)).seq (Code.region 16 #[{ dst := some 57, op := Op.load 22 (Operand.tmp 8), type := 22, pos := "show.go:138", after := #[], guard := none }, { dst := some 58, op := Op.move (Operand.tmp 12), type := 9, pos := "show.go:138", after := #[], guard := none }, { dst := some 59, op := Op.buildSlice 22 1 #[(0, Operand.tmp 58)], type := 22, pos := "show.go:138", after := #[{ on := 1, ground := Ground.data }], guard := none }, { dst := some 60, op := Op.call { callee := Callee.builtin Builtin.append, args := #[Operand.tmp 57, Operand.tmp 59], argTypes := #[22, 22] }, type := 22, pos := "show.go:138", after := #[{ on := 0, ground := Ground.data }, { on := 2, ground := Ground.data }], guard := none }, { dst := none, op := Op.store 22 (Operand.tmp 8) (Operand.tmp 60), type := 0, pos := "show.go:138", after := #[{ on := 3, ground := Ground.data }, { on := 3, ground := Ground.chain }, { on := 0, ground := Ground.phase }, { on := 1, ground := Ground.phase }, { on := 2, ground := Ground.phase }, { on := 3, ground := Ground.phase }], guard := none }] false)))
def bdy2 : Code := (Code.block 1 ((Code.region 10 #[{ dst := some 11, op := Op.assign (Operand.const (Value.string { data := #[32, 32] })), type := 9, pos := "show.go:130", after := #[], guard := none }] false).seq (((Code.region 11 #[{ dst := some 44, op := Op.move (Operand.tmp 9), type := 3, pos := "show.go:131", after := #[], guard := none }, { dst := some 45, op := Op.fieldAddr 76 (Operand.tmp 2) 1, type := 0, pos := "show.go:131", after := #[], guard := none }, { dst := some 46, op := Op.load 3 (Operand.tmp 45), type := 3, pos := "show.go:131", after := #[{ on := 1, ground := Ground.data }], guard := none }, { dst := some 47, op := Op.binOp BinOp.eql 3 (Operand.tmp 44) (Operand.tmp 46) 3, type := 4, pos := "show.go:131", after := #[{ on := 0, ground := Ground.data }, { on := 2, ground := Ground.data }], guard := none }] false).seq (Code.cond (Operand.tmp 47) (Code.region 12 #[{ dst := some 11, op := Op.assign (Operand.const (Value.string { data := #[62, 32] })), type := 9, pos := "show.go:132", after := #[], guard := none }] false) Code.skip)).seq rst2)))
def frT (L : List O) (sel : Int) (fs : List FrV) (P0 : Tx) (i : Nat) : List Tx := P0 :: (List.range i).map fun k => frameT L (markT k sel) (inFr fs k)
theorem frT_len (L : List O) (sel : Int) (fs : List FrV) (P0 : Tx) (i : Nat) : (frT L sel fs P0 i).length = i + 1 := by unfold frT; rw [List.length_cons, List.length_map, List.length_range]
theorem frT_succ (L : List O) (sel : Int) (fs : List FrV) (P0 : Tx) (i : Nat) : frT L sel fs P0 i ++ [frameT L (markT i sel) (inFr fs i)] = frT L sel fs P0 (i + 1) := by unfold frT; rw [List.range_succ, List.map_append, List.cons_append]; rfl
theorem markT_len (i : Nat) (sel : Int) : (markT i sel).length ≤ 2 := by unfold markT; split <;> decide
def CC2 (y D fn : Nat) (tm : Array Value) (g8 g4 g5 g2 g3 g : Nat) (v : List Value) (T : List Tx) (s : Option Addr × Nat) : Ch :=
  star [ob y (.loop (rec0 .ready fn tm #[42, 43] asg2 bdy2 D)), ob D (.deferred (some [])), .blk g8 22 [.slice s.1 T.length s.2], row 9 1 s.1 T.length s.2 (strsC T), .blk g4 22 [.slice none 0 0], .blk g5 30 [.int .i64 0], .blk g2 76 v, .blk g3 84 [.pointer (some ⟨g, 0, none⟩)]]
def EE2 (y D fn : Nat) (tm : Array Value) (g4 g5 : Nat) : Ch :=
  star [ob y (.loop (recL fn tm #[42, 43] asg2 bdy2 D)), ob D (.deferred (some [])), .blk g4 22 [.slice none 0 0], .blk g5 30 [.int .i64 2]]
set_option maxHeartbeats 4000000 in
theorem round2_spec (y D fn : Nat) (tm : Array Value) (hsz : tm.size = 96) (g8 g4 g5 g2 g3 g : Nat) (h8 : tm.getD 8 undef = .pointer (some ⟨g8, 0, none⟩)) (h4 : tm.getD 4 undef = .pointer (some ⟨g4, 0, none⟩)) (h5 : tm.getD 5 undef = .pointer (some ⟨g5, 0, none⟩)) (h2 : tm.getD 2 undef = .pointer (some ⟨g2, 0, none⟩)) (h3 : tm.getD 3 undef = .pointer (some ⟨g3, 0, none⟩))
    (most : Int) (used : Nat) (ao : Option Addr) (c : Nat) (l : List Ob) (hl4 : l.length ≤ 4096) (hL : okHeap (l.map Ob.o)) (v : ViV) (hv : v.ok) (P0 : Tx) (i : Nat) (hi : i < v.frames.length) (s : Option Addr × Nat) (R : Bool) (hR : frameB l.length (inFr v.frames i) = R) :
    YDoes Tryz.prog y [.int .i64 (i : Int), .agg #[.string (mkS (inFr v.frames i).fn), .int .i64 (inFr v.frames i).line, .slice (inFr v.frames i).a (inFr v.frames i).vars.length (inFr v.frames i).c]] (rdH g most used ao c l (inFr v.frames i) (CC2 y D fn tm g8 g4 g5 g2 g3 g (viC v) (frT (l.map Ob.o) v.sel v.frames P0 i) s))
      (fun r hp' => if R then r = .bool true ∧ ∃ s', hp' = [CC2 y D fn tm g8 g4 g5 g2 g3 g (viC v) (frT (l.map Ob.o) v.sel v.frames P0 (i + 1)) s'] else r = .bool false ∧ hp' = [EE2 y D fn tm g4 g5]) := by
  have hF : (inFr v.frames i).ok := hv.2.2.2.2.1 _ (inFr_mem hi)
  have hlen := frT_len (l.map Ob.o) v.sel v.frames P0 i
  have hsucc := frT_succ (l.map Ob.o) v.sel v.frames P0 i
  have hlen2 := frT_len (l.map Ob.o) v.sel v.frames P0 (i + 1)
  have hiv : i < 1048576 := Nat.lt_of_lt_of_le hi hv.2.2.2.1
  have hcall := frame_spec g most used ao c l hl4 hL (inFr v.frames i) hF (markT i v.sel) (markT_len i v.sel)
  obtain ⟨F, hFe⟩ : ∃ F, F = inFr v.frames i := ⟨_, rfl⟩
  rw [← hFe] at hR hsucc hcall ⊢
  rw [hR, show frC F = [.string (mkS F.fn), .int .i64 F.line, .slice F.a F.vars.length F.c] from rfl] at hcall
  obtain ⟨LN, hLN⟩ : ∃ N, N = frameT (l.map Ob.o) (markT i v.sel) F := ⟨_, rfl⟩
  rw [← hLN] at hcall hsucc
  obtain ⟨T, hT⟩ : ∃ T, T = frT (l.map Ob.o) v.sel v.frames P0 i := ⟨_, rfl⟩
  rw [← hT] at hlen hsucc ⊢
  obtain ⟨T2, hT2⟩ : ∃ T, T = frT (l.map Ob.o) v.sel v.frames P0 (i + 1) := ⟨_, rfl⟩
  rw [← hT2] at hlen2 hsucc ⊢
  intro w hw
  obtain ⟨PRE, hPRE⟩ : ∃ P, P = rdH g most used ao c l F (CC2 y D fn tm g8 g4 g5 g2 g3 g (viC v) T s) := ⟨_, rfl⟩
  obtain ⟨RQ, hRQ⟩ : ∃ RQ : Value → Hp → Prop, RQ = (fun r hp' => if R then r = .bool true ∧ ∃ s', hp' = [CC2 y D fn tm g8 g4 g5 g2 g3 g (viC v) T2 s'] else r = .bool false ∧ hp' = [EE2 y D fn tm g4 g5]) := ⟨_, rfl⟩
  rw [← hRQ]
  rw [← hPRE] at hw ⊢
  have hS0 : Sat ⟨Tryz.prog, w, foot PRE, 96, []⟩ ⟨[(42, .int .i64 (i : Int)), (43, .agg #[.string (mkS F.fn), .int .i64 F.line, .slice F.a F.vars.length F.c]), (2, .pointer (some ⟨g2, 0, none⟩)), (3, .pointer (some ⟨g3, 0, none⟩)), (4, .pointer (some ⟨g4, 0, none⟩)), (5, .pointer (some ⟨g5, 0, none⟩)), (8, .pointer (some ⟨g8, 0, none⟩))], rdH g most used ao c l F (CC2 y D fn tm g8 g4 g5 g2 g3 g (viC v) T s)⟩
      ⟨(tm.setIfInBounds 42 (.int .i64 (i : Int))).setIfInBounds 43 (.agg #[.string (mkS F.fn), .int .i64 F.line, .slice F.a F.vars.length F.c]), []⟩ w := by
    refine ⟨by simp [hsz], rfl, fun i v hi => ?_, hPRE ▸ hw, Ext.refl _ _, hPRE ▸ Bd.self _ _⟩
    simp only [Sx.look] at hi
    split at hi
    · rename_i e; subst e; cases hi; simp [Array.getD_eq_getD_getElem?, Array.getElem?_setIfInBounds, hsz]
    split at hi
    · rename_i e; subst e; cases hi; simp [Array.getD_eq_getD_getElem?, Array.getElem?_setIfInBounds, hsz]
    split at hi
    · rename_i e; subst e; cases hi; rw [← h2]; simp [Array.getD_eq_getD_getElem?, Array.getElem?_setIfInBounds]
    split at hi
    · rename_i e; subst e; cases hi; rw [← h3]; simp [Array.getD_eq_getD_getElem?, Array.getElem?_setIfInBounds]
    split at hi
    · rename_i e; subst e; cases hi; rw [← h4]; simp [Array.getD_eq_getD_getElem?, Array.getElem?_setIfInBounds]
    split at hi
    · rename_i e; subst e; cases hi; rw [← h5]; simp [Array.getD_eq_getD_getElem?, Array.getElem?_setIfInBounds]
    split at hi
    · rename_i e; subst e; cases hi; rw [← h8]; simp [Array.getD_eq_getD_getElem?, Array.getElem?_setIfInBounds]
    · cases hi
  have hS1 := ent_unstar _ _ (ent_hp [5, 0, 0, 0, 0, 0] rfl _ _ hS0)
  have hl : w.heap[y]? = some (.loop (rec0 .ready fn tm #[42, 43] asg2 bdy2 D)) := ob_holds hS1.hs (by simp)
  have hy := run_yield (P := Tryz.prog) (args := #[.int .i64 (i : Int), .agg #[.string (mkS F.fn), .int .i64 F.line, .slice F.a F.vars.length F.c]]) hl rfl
  rw [show (((rec0 .ready fn tm #[42, 43] asg2 bdy2 D).params.zip #[.int .i64 (i : Int), .agg #[.string (mkS F.fn), .int .i64 F.line, .slice F.a F.vars.length F.c]]).foldl (fun tmps (t, a) => tmps.setIfInBounds t a) (rec0 .ready fn tm #[42, 43] asg2 bdy2 D).tmps) = (tm.setIfInBounds 42 (.int .i64 (i : Int))).setIfInBounds 43 (.agg #[.string (mkS F.fn), .int .i64 F.line, .slice F.a F.vars.length F.c]) from by kernel_rfl] at hy
  refine ⟨fn, _, asg2, bdy2, hy, ?_⟩
  refine roundIn_of_wpIn trivial ?_
  unfold asg2 bdy2 rst2
  refine wpIn_seq (rnd_region (Γ := ⟨Tryz.prog, w, foot PRE, 96, []⟩) [0] (by kernel_rfl) (by kernel_rfl) ?_ ?_ hS1)
  · rintro ⟨a', w', h⟩; exact h
  refine RR [] .z (.i 9 (.int .i64 (↑i : Int)) (.d (.k .a))) (.k (.k (.k (.k (.k (.k (.u .a .a))))))) ?_
  refine RZ ?_
  refine nx_cut fun a2 w2 hS2 => rnd_region [0, 1] (by kernel_rfl) (by kernel_rfl) ?_ ?_ hS2
  · rintro ⟨a', w', h⟩; exact h
  refine RP [] (.d .a) 10 .a (.k (.k (.k (.k (.k (.k (.u .a .a))))))) 90 [.string ⟨#[]⟩, .int .i64 0, .slice none 0 0] fun g1 => ?_
  refine RR [13, 13, 13] .z (.k (.k (.d (.k .a)))) (.k (.k (.k (.k (.k (.k (.u .a (.k (.k (.k (.k (.k (.k (.u (.i (.string (mkS F.fn)) (.i (.int .i64 F.line) (.i (.slice F.a F.vars.length F.c) .z))) .a)))))))))))))) ?_
  refine RZ ?_
  refine nx_cut fun a3 w3 hS3 => ?_
  have hS4 := hS3.setOb (.loop { rec0 .ready fn tm #[42, 43] asg2 bdy2 D with state := .busy })
  refine ⟨_, run_beginRound (ob_holds hS3.hs (List.mem_cons_self ..)) rfl, ?_⟩
  refine wpIn_block (wpIn_seq (rnd_region [0] (by kernel_rfl) (by kernel_rfl) ?_ ?_ hS4))
  · rintro ⟨a', w', h⟩; exact h
  refine RR [] .z (.i 11 (.string (ByteArray.mk #[32, 32])) .a) (.k (.k (.k (.k (.k (.k (.u .a .a))))))) ?_
  refine RZ ?_
  refine nx_cut fun a5 w5 hS5 => wpIn_seq (wpIn_seq (rnd_region [0, 1, 2, 3] (by kernel_rfl) (by kernel_rfl) ?_ ?_ hS5))
  · rintro ⟨a', w', h⟩; exact h
  refine RR [6] .z (.i 47 (.bool ((↑i : Int) == v.sel)) (.k (.k (.d (.d (.k .a)))))) (.k (.k (.k (.k (.k (.k (.u .a .a))))))) ?_
  refine RZ ?_
  obtain ⟨gN, hgN⟩ : ∃ n, n = g1 := ⟨_, rfl⟩
  have rest : ∀ a7 w7, Sat ⟨Tryz.prog, w, foot PRE, 96, []⟩ ⟨[(11, .string (mkS (markT i v.sel))), (10, .pointer (some ⟨gN, 0, none⟩)), (3, .pointer (some ⟨g3, 0, none⟩)), (4, .pointer (some ⟨g4, 0, none⟩)), (5, .pointer (some ⟨g5, 0, none⟩)), (8, .pointer (some ⟨g8, 0, none⟩))],
      [ob y (.loop { rec0 .ready fn tm #[42, 43] asg2 bdy2 D with state := .busy }), ob D (.deferred (some [])), .blk g8 22 [.slice s.1 T.length s.2], row 9 1 s.1 T.length s.2 (strsC T), .blk g4 22 [.slice none 0 0], .blk g5 30 [.int .i64 0], .blk g2 76 (viC v), .blk g3 84 [.pointer (some ⟨g, 0, none⟩)],
       ro (some ⟨g, 0, none⟩) [.bool true, .int .i64 most, .int .i64 used, .slice ao l.length c], ro ao (l.flatMap objC), gBag l, gPow, ro F.a (F.vars.flatMap biC), .blk gN 90 [.string (mkS F.fn), .int .i64 F.line, .slice F.a F.vars.length F.c]]⟩ a7 w7 →
      rst2.wpIn (Fence.wide.inRound y) 0 Tryz.prog (Exit.inBlock 1 (roundPost Tryz.prog y (Post w PRE RQ))) a7 w7 := by
    intro a7 w7 hS7
    unfold rst2
    refine wpIn_seq (rnd_region (Γ := ⟨Tryz.prog, w, foot PRE, 96, []⟩) [0, 1, 2, 3, 4, 5, 6, 7, 8] (by kernel_rfl) (by kernel_rfl) ?_ ?_ hS7)
    · rintro ⟨a', w', h⟩; exact h
    refine RR [13, 13, 13, 7] (.d (.d (.d .a))) (.i 51 (.pointer (some ⟨g, 0, none⟩)) (.i 50 (.string (mkS (markT i v.sel))) (.i 49 (.agg #[.string (mkS F.fn), .int .i64 F.line, .slice F.a F.vars.length F.c]) (.d (.d (.d (.k .a))))))) (.k (.k (.k (.k (.k (.k (.u .a .a))))))) ?_
    refine RCG (dst := some 52) (.k (.k (.k (.k (.k (.k (.u .a .a))))))) (hcall) (GV (GV (GV (GV (GV (GI []) 12 view_ro) 11 view_gPow) 10 view_self) 9 view_ro) 8 view_ro) ?_
    rintro r _ ⟨hr, rfl⟩
    cases R with
    | true =>
      rw [if_pos rfl] at hr
      obtain rfl := hr
      refine RR [] .z (.i 13 (.bool true) (.i 12 (.string (mkS LN)) (.d (.d (.d (.d (.k .a))))))) (.k (.k (.k (.k (.k (.k (.u .a .a))))))) ?_
      refine RZ ?_
      refine nx_cut fun a8 w8 hS8 => wpIn_seq (wpIn_seq (rnd_region [0, 1] (by kernel_rfl) (by kernel_rfl) ?_ ?_ hS8))
      · rintro ⟨a', w', h⟩; exact h
      refine RR [] .z (.i 56 (.bool false) (.d (.k .a))) (.k (.k (.k (.k (.k (.k (.u .a .a))))))) ?_
      refine RZ ?_
      refine nx_cut fun a9 w9 hS9 => rnd_cond (l := y) (b := false) rfl hS9 (wpIn_skip ?_)
      refine rnd_region (Γ := ⟨Tryz.prog, w, foot PRE, 96, []⟩) [0, 1, 2, 3, 4] (by kernel_rfl) (by kernel_rfl) ?_ ?_ hS9
      · rintro ⟨a', w', h⟩; exact h
      refine RN [2] (.d (.d (.d .a))) 59 (fun g6 => (.slice (some ⟨g6, 0, none⟩) 1 1)) (.i 57 (.slice s.fst T.length s.snd) (.d (.d (.d (.d (.k .a)))))) (.k (.k (.k (.k (.k (.k (.u .a .a))))))) 9 [.string (mkS LN)] fun g6 => ?_
      refine wpr_ent (ent_turn 14 (ro (some ⟨g6, 0, none⟩) (strsC [LN])) rfl (turn_rblk (strs_one [LN])) rfl) ?_
      refine wpr_app (a := s.fst) (n := T.length) (cap := s.snd) (x := (.slice (some ⟨g6, 0, none⟩) 1 1)) (t := 22) (xt := 22) (dst := some 60) (by kernel_rfl) (e := 9) (sz := 1) (bytes := 16) (by kernel_rfl) 3 (xs := (strsC T)) (by kernel_rfl) (m := 1) (news := (strsC [LN])) (fun w h => src_ro h 14 rfl rfl (fun e => by cases e)) (by unfold maxLen; omega) (by omega) ?_
      intro a2 c2 hn2
      rw [strs_apps, hsucc, show T.length + 1 = T2.length by omega]
      refine RR [2] .z .z (.k (.k (.u (.i (.slice a2 T2.length c2) .z) (.k (.k (.k (.u .a .a))))))) ?_
      refine RZ (BN ?_)
      intro ab wb hSb
      have hlb := ob_holds hSb.hs (List.mem_cons_self ..)
      have hSc := ent_hp [0, 0, 0, 0, 0, 0, 0, 0] rfl _ _ (hSb.setOb (.loop (rec0 .ready fn tm #[42, 43] asg2 bdy2 D)))
      have hr : AllRw [ob y (.loop (rec0 .ready fn tm #[42, 43] asg2 bdy2 D)), ob D (.deferred (some [])), .blk g8 22 [.slice a2 T2.length c2], row 9 1 a2 T2.length c2 (strsC T2), .blk g4 22 [.slice none 0 0], .blk g5 30 [.int .i64 0], .blk g2 76 (viC v), .blk g3 84 [.pointer (some ⟨g, 0, none⟩)]] := ⟨trivial, trivial, trivial, trivial, trivial, trivial, trivial, trivial, trivial⟩
      have hSd := ent_star (rest := []) (allRw_mem hr) _ _ hSc
      exact ⟨_, _, run_endRound none hlb, .bool true, [CC2 y D fn tm g8 g4 g5 g2 g3 g (viC v) T2 (a2, c2)], by rw [hRQ]; exact ⟨rfl, (a2, c2), rfl⟩, rfl, hSd.hs, hSd.ext, hSd.bd, fun ch hch => by rw [List.mem_singleton.1 hch]; trivial⟩
    | false =>
      rw [if_neg (by decide)] at hr
      obtain rfl := hr
      refine RR [] .z (.i 13 (.bool false) (.i 12 (.string (mkS [])) (.d (.d (.d (.d (.k .a))))))) (.k (.k (.k (.k (.k (.k (.u .a .a))))))) ?_
      refine RZ ?_
      refine nx_cut fun a8 w8 hS8 => wpIn_seq (wpIn_seq (rnd_region [0, 1] (by kernel_rfl) (by kernel_rfl) ?_ ?_ hS8))
      · rintro ⟨a', w', h⟩; exact h
      refine RR [] .z (.i 56 (.bool true) (.d (.k .a))) (.k (.k (.k (.k (.k (.k (.u .a .a))))))) ?_
      refine RZ ?_
      refine nx_cut fun a9 w9 hS9 => rnd_cond (l := y) (b := true) rfl hS9 (wpIn_seq (rnd_region [0, 1] (by kernel_rfl) (by kernel_rfl) ?_ ?_ hS9))
      · rintro ⟨a', w', h⟩; exact h
      refine RR [4, 5] .z (.d (.k (.d (.d (.k .a))))) (.k (.k (.k (.k (.k (.u (.i (.int .i64 2) .z) (.u .a .a))))))) ?_
      refine RZ ?_
      refine nx_cut fun aa wb hSb => wpIn_ret ?_
      have hlb := ob_holds hSb.hs (List.mem_cons_self ..)
      have hSc := ent_hp [0, 0, 2, 2] rfl _ _ (hSb.setOb (.loop (recL fn tm #[42, 43] asg2 bdy2 D)))
      have hr : AllRw [ob y (.loop (recL fn tm #[42, 43] asg2 bdy2 D)), ob D (.deferred (some [])), .blk g4 22 [.slice none 0 0], .blk g5 30 [.int .i64 2]] := ⟨trivial, trivial, trivial, trivial, trivial⟩
      have hSd := ent_star (rest := []) (allRw_mem hr) _ _ hSc
      exact ⟨_, _, run_endRound (some .ret) hlb, .bool false, [EE2 y D fn tm g4 g5], by rw [hRQ]; exact ⟨rfl, rfl⟩, rfl, hSd.hs, hSd.ext, hSd.bd, fun ch hch => by rw [List.mem_singleton.1 hch]; trivial⟩
  subst hgN
  by_cases hsel : (i : Int) = v.sel
  · have hM : markT i v.sel = [62, 32] := by unfold markT; rw [if_pos hsel]
    refine nx_cut fun a6 w6 hS6 => rnd_cond (l := y) (b := ((i : Int) == v.sel)) rfl hS6 ?_
    rw [if_pos (by simpa using hsel)]
    refine rnd_region (Γ := ⟨Tryz.prog, w, foot PRE, 96, []⟩) [0] (by kernel_rfl) (by kernel_rfl) ?_ ?_ hS6
    · rintro ⟨a', w', h⟩; exact h
    refine RR [] .z (.i 11 (.string (ByteArray.mk #[62, 32])) (.d (.d (.k .a)))) (.k (.k (.k (.k (.k (.k (.u .a .a))))))) ?_
    refine RZ ?_
    rw [hM] at rest
    exact fun a7 w7 hS7 => rest a7 w7 (ent_fr (by kernel_rfl) _ _ hS7)
  · have hM : markT i v.sel = [32, 32] := by unfold markT; rw [if_neg hsel]
    refine nx_cut fun a6 w6 hS6 => rnd_cond (l := y) (b := ((i : Int) == v.sel)) rfl hS6 ?_
    rw [if_neg (by simpa using hsel)]
    rw [hM] at rest
    exact wpIn_skip (rest a6 w6 (ent_fr (by kernel_rfl) _ _ hS6))
end Go.Proofs.YtgcfomhlgipllaaGreatDoor
