import Derived.Test.YtpfhleghgkeemaaGreatDoorSp4
set_option linter.unusedVariables false
set_option linter.unusedSimpArgs false
namespace Go.Proofs.YtpfhleghgkeemaaGreatDoor
open Go Go.Sx
/-! The document's check and bytes; has a state few parts? -/
theorem rCheck_spec (s : Sv) (hs : s.ok) : Does Tryz.prog 43 [.agg (svC s).toArray] [ro s.ca (s.cl.flatMap clC), gCl s.cl, ro s.ha (s.hl.flatMap objC), gBag s.hl] (fun r hp' => r = .int .i64 (if mayB s.p then 0 else 2) ∧ hp' = []) := by
  have hm := rMay_spec s hs
  unfold svC at hm ⊢
  refine fn_enter Tryz.func43 rfl 6 rfl fun w0 h0 => ?_
  refine SQ (RG ?_)
  refine RP [] (.d .a) 1 .z .a 75 [.int .i64 s.pos, .int .i64 s.st, .int .i64 s.fa, .slice s.ca s.cl.length s.cc, .slice s.ha s.hl.length s.hc, .string (mkS s.out), .int .i64 s.rd] fun g1 => ?_
  refine RR [] .z (.i 2 (.int .i64 0) .a) .a ?_
  refine RZ (NT (SQ (SQ (RG ?_))))
  refine RR [4, 4, 4, 4, 4, 4, 4] (.d .a) (.i 3 (.agg #[.int .i64 s.pos, .int .i64 s.st, .int .i64 s.fa, .slice s.ca s.cl.length s.cc, .slice s.ha s.hl.length s.hc, .string (mkS s.out), .int .i64 s.rd]) (.k .z)) .a ?_
  refine RCG (dst := some 4) .a (hm) (GV (GV (GV (GV (GI []) 3 view_self) 2 view_ro) 1 view_self) 0 view_ro) ?_
  rintro r _ ⟨rfl, rfl⟩
  cases hb : mayB s.p with
  | false =>
    refine RR [] .z (.i 5 (.bool true) (.d (.d (.k .a)))) .a ?_
    refine RZ (NT (CT (SQ (RG ?_))))
    refine RR [] .z (.i 2 (.int .i64 2) .z) .a ?_
    refine RZ (NT (RE (TR ?_)))
    refine NE [] .z .a [] (.int .i64 2) ?_
    exact ⟨rfl, rfl⟩
  | true =>
    refine RR [] .z (.i 5 (.bool false) (.d (.d (.k .a)))) .a ?_
    refine RZ (NT (CF (SK (NT (SQ (RG ?_))))))
    refine RR [] .z (.d (.k .a)) .a ?_
    refine RZ (NT (RE ?_))
    refine NE [] .z .a [] (.int .i64 0) ?_
    exact ⟨rfl, rfl⟩
theorem rBytes_spec (s : Sv) (hs : s.ok) (hB : (encS s.p).length ≤ 549755813888) : Does Tryz.prog 41 [.agg (svC s).toArray] [ro s.ca (s.cl.flatMap clC), gCl s.cl, ro s.ha (s.hl.flatMap objC), gBag s.hl] (fun r hp' => r = (if mayB s.p then .tuple #[.string (mkS (encS s.p)), .int .i64 0] else .tuple #[.string (mkS []), .int .i64 2]) ∧ hp' = []) := by
  have hm := rMay_spec s hs
  have hp := rput_spec s hs hB
  unfold svC at hm hp ⊢
  refine fn_enter Tryz.func41 rfl 9 rfl fun w0 h0 => ?_
  refine SQ (RG ?_)
  refine RP [] (.d .a) 1 .z .a 75 [.int .i64 s.pos, .int .i64 s.st, .int .i64 s.fa, .slice s.ca s.cl.length s.cc, .slice s.ha s.hl.length s.hc, .string (mkS s.out), .int .i64 s.rd] fun g1 => ?_
  refine RR [] .z (.i 3 (.int .i64 0) (.i 2 (.string ⟨#[]⟩) .a)) .a ?_
  refine RZ (NT (SQ (SQ (RG ?_))))
  refine RR [4, 4, 4, 4, 4, 4, 4] (.d .a) (.i 4 (.agg #[.int .i64 s.pos, .int .i64 s.st, .int .i64 s.fa, .slice s.ca s.cl.length s.cc, .slice s.ha s.hl.length s.hc, .string (mkS s.out), .int .i64 s.rd]) .a) .a ?_
  refine RCG (dst := some 5) .a (hm) (GV (GV (GV (GV (GI []) 3 view_self) 2 view_ro) 1 view_self) 0 view_ro) ?_
  rintro r _ ⟨rfl, rfl⟩
  cases hb : mayB s.p with
  | false =>
    refine RR [] .z (.i 6 (.bool true) (.d (.d (.k .a)))) .a ?_
    refine RZ (NT (CT (SQ (RG ?_))))
    refine RR [] .z (.i 3 (.int .i64 2) (.d (.d (.k .a)))) .a ?_
    refine RZ (NT (RE (TR ?_)))
    refine NE [] .z .a [] (.tuple #[.string ⟨#[]⟩, .int .i64 2]) ?_
    exact ⟨rfl, rfl⟩
  | true =>
    refine RR [] .z (.i 6 (.bool false) (.d (.d (.k .a)))) .a ?_
    refine RZ (NT (CF (SK (NT (SQ (RG ?_))))))
    refine RR [4, 4, 4, 4, 4, 4, 4] (.d .a) (.i 7 (.agg #[.int .i64 s.pos, .int .i64 s.st, .int .i64 s.fa, .slice s.ca s.cl.length s.cc, .slice s.ha s.hl.length s.hc, .string (mkS s.out), .int .i64 s.rd]) (.d (.k (.k .z)))) .a ?_
    refine RCG (dst := some 8) .a (hp) (GV (GV (GV (GV (GI []) 3 view_self) 2 view_ro) 1 view_self) 0 view_ro) ?_
    rintro r _ ⟨rfl, rfl⟩
    refine RR [] .z (.d (.d (.k (.i 2 (.string (mkS (encS s.p))) .z)))) .a ?_
    refine RZ (NT (RE ?_))
    refine NE [] .z .a [] (.tuple #[.string (mkS (encS s.p)), .int .i64 0]) ?_
    exact ⟨rfl, rfl⟩
theorem cls_fld {l : List Cl} {q : Nat} (hq : q < l.length) (k m : Nat) (h : k + m ≤ 5) : ((l.flatMap clC).drop (q * 5 + k)).take m = ((clC l[q]).drop k).take m := by
  rw [← List.drop_drop, ← cls_at hq, List.drop_take, List.take_take]
  congr 1; omega
theorem light_spec (s : Sv) (hs : s.ok) : Does Tryz.prog 38 [.agg (svC s).toArray] [ro s.ca (s.cl.flatMap clC), gCl s.cl, ro s.ha (s.hl.flatMap objC), gBag s.hl] (fun r hp' => ∃ b, r = .bool b ∧ hp' = []) := by
  obtain ⟨-, -, -, -, hc1, hc2, hh1, hh2, hh3, ho, hu⟩ := hs
  unfold svC
  refine fn_enter Tryz.func38 rfl 63 rfl fun w0 h0 => ?_
  refine SQ (RG ?_)
  refine RP [] (.d .a) 1 .z .a 75 [.int .i64 s.pos, .int .i64 s.st, .int .i64 s.fa, .slice s.ca s.cl.length s.cc, .slice s.ha s.hl.length s.hc, .string (mkS s.out), .int .i64 s.rd] fun g1 => ?_
  refine RR [] .z (.i 2 (.bool false) .a) .a ?_
  refine RZ (NT (SQ (RG ?_)))
  refine RV true [4, 4] .z (.i 3 (.int .i64 ((↑s.cl.length : Int) + (↑s.hl.length : Int))) .a) .a ([inI64 ((↑s.cl.length : Int) + (↑s.hl.length : Int))]) ⟨by unfold inI64; omega, trivial⟩ ?_
  refine RZ (NT (SQ (SQ (RG ?_))))
  refine RR [] .z (.i 4 (.int .i64 0) .a) .a ?_
  refine RZ (NT (BK ?_))
  obtain ⟨n0, hn0, hn1⟩ : ∃ n0 : Int, (s.cl.length : Int) + s.hl.length = n0 ∧ 0 ≤ n0 ∧ n0 ≤ 4200000 := ⟨s.cl.length + s.hl.length, rfl, by omega, by omega⟩
  rw [hn0]
  refine wpc_loop (X := {x : Nat × Int // x.1 ≤ s.cl.length ∧ 0 ≤ x.2 ∧ x.2 ≤ 4200000}) (fun x => St.mk [(4, .int .i64 (x.1.1 : Int)), (3, .int .i64 x.1.2), (2, .bool false), (1, .pointer (some ⟨g1, 0, none⟩))] [ro s.ca (s.cl.flatMap clC), gCl s.cl, ro s.ha (s.hl.flatMap objC), gBag s.hl, .blk g1 75 [.int .i64 s.pos, .int .i64 s.st, .int .i64 s.fa, .slice s.ca s.cl.length s.cc, .slice s.ha s.hl.length s.hc, .string (mkS s.out), .int .i64 s.rd]]) (fun x => s.cl.length - x.1.1) ⟨(0, n0), Nat.zero_le _, hn1⟩ (ent_fr (by kernel_rfl)) ?_
  rintro ⟨⟨i, n⟩, hi, hn⟩
  dsimp only at hi hn ⊢
  by_cases hlt : i < s.cl.length ∧ n < 5000
  · obtain ⟨hlt, h5⟩ := hlt
    obtain ⟨-, -, -, x1, x2, -, -⟩ := hc2 _ (List.getElem_mem hlt)
    refine wpc_fact (fun w h => ro_addr h 0 rfl (by rw [cls_len]; omega)) ?_
    rintro ⟨g0, o0, hca⟩
    rw [hca]
    refine SQ (SQ (RG ?_))
    refine RR [4] (.d (.d (.d (.d (.d (.d .a)))))) (.i 18 (.bool (decide ((↑i : Int) < (↑s.cl.length : Int)))) .a) .a ?_
    refine SR 18 (decide ((↑i : Int) < (↑s.cl.length : Int))) true (decide_eq_true (by omega)) ?_
    refine RR [] .z (.i 21 (.bool (decide (n < (5000 : Int)))) (.d (.d (.k .a)))) .a ?_
    refine RZ (NT ?_)
    refine SC 21 (decide (n < (5000 : Int))) true (decide_eq_true (by omega)) ?_
    refine CT (SK (NT (SQ (BK ?_))))
    refine wpc_draw (by kernel_rfl) [ro (some ⟨g0, o0, none⟩) (List.flatMap clC s.cl), .blk g1 75 [.int .i64 s.pos, .int .i64 s.st, .int .i64 s.fa, .slice (some ⟨g0, o0, none⟩) s.cl.length s.cc, .slice s.ha s.hl.length s.hc, .string (mkS s.out), .int .i64 s.rd]] (sub_of [0, 4] (by kernel_rfl)) 18 (by kernel_rfl) ?_
    refine wpa_take true [(0, []), (1, []), (2, [1]), (3, []), (4, []), (5, []), (9, []), (10, [1]), (11, []), (12, []), (13, [])] ([(37, .pointer (some ⟨g0, o0 + i * 5 + 4, none⟩)), (29, .pointer (some ⟨g0, o0 + i * 5 + 3, none⟩)), (24, .int .i64 n), (4, .int .i64 (↑i : Int)), (3, .int .i64 n), (2, .bool false), (1, .pointer (some ⟨g1, 0, none⟩))]) (#[true, true, true, true, true, true, false, false, false, true, true, true, true, true, false, false, false, false]) [(0 : Int) ≤ (↑i : Int) ∧ (↑i : Int) < (↑s.cl.length : Int), (0 : Int) ≤ (↑i : Int) ∧ (↑i : Int) < (↑s.cl.length : Int)] (n := 7) (by kernel_rfl) (by kernel_rfl) (by kernel_rfl) ⟨by omega, by omega, trivial⟩ ?_
    refine wpa_qld (i := 6) (n := 6) (by kernel_rfl) (by kernel_rfl) (by kernel_rfl) (t := 25) (a := ⟨g0, o0 + i * 5 + 3, none⟩) (dst := some 30) (by kernel_rfl) false 1 (by kernel_rfl) (by simp) [.slice s.cl[i].sa s.cl[i].slots.length s.cl[i].sc] rfl (fun w h => ld_roL h 0 rfl (i * 5 + 3) (cls_fld hlt 3 1 (by decide))) ?_
    refine wpa_qld (i := 14) (n := 5) (by kernel_rfl) (by kernel_rfl) (by kernel_rfl) (t := 25) (a := ⟨g0, o0 + i * 5 + 4, none⟩) (dst := some 38) (by kernel_rfl) false 1 (by kernel_rfl) (by simp) [.slice s.cl[i].ta s.cl[i].stack.length s.cl[i].tc] rfl (fun w h => ld_roL h 0 rfl (i * 5 + 4) (cls_fld hlt 4 1 (by decide))) ?_
    refine wpa_take true [(7, []), (8, []), (15, []), (16, []), (17, [])] ([(3, .int .i64 (n + (↑s.cl[i].slots.length : Int) + (↑s.cl[i].stack.length : Int))), (4, .int .i64 (↑i : Int)), (2, .bool false), (1, .pointer (some ⟨g1, 0, none⟩))]) (#[true, true, true, true, true, true, true, true, true, true, true, true, true, true, true, true, true, true]) ([inI64 (n + (↑s.cl[i].slots.length : Int)), inI64 (n + (↑s.cl[i].slots.length : Int) + (↑s.cl[i].stack.length : Int))]) (n := 0) (by kernel_rfl) (by kernel_rfl) (by kernel_rfl) ⟨by unfold inI64; omega, by unfold inI64; omega, trivial⟩ ?_
    refine wpa_done 0 (by kernel_rfl) ?_
    refine BN (NT (RG ?_))
    refine RV true [] .z (.i 4 (.int .i64 ((↑i : Int) + 1)) (.k (.d (.k .a)))) .a ([inI64 ((↑i : Int) + (1 : Int))]) ⟨by unfold inI64; omega, trivial⟩ ?_
    refine RZ ?_
    rw [← hca]
    exact fun a' w' hS' => ⟨⟨(i + 1, n + s.cl[i].slots.length + s.cl[i].stack.length), hlt, by dsimp only; omega, by dsimp only; omega⟩, by dsimp only; omega, ent_fr (by kernel_rfl) _ _ (ent_hp [0, 0, 0, 0, 0] rfl _ _ hS')⟩
  · refine SQ (SQ (RG ?_))
    refine RR [4] (.d (.d (.d (.d (.d (.d .a)))))) (.i 18 (.bool (decide ((↑i : Int) < (↑s.cl.length : Int)))) .a) .a ?_
    refine wpr_join ⟨[(21, .bool false), (4, (.int .i64 (↑i : Int))), (3, (.int .i64 n)), (2, (.bool false)), (1, (.pointer (some ⟨g1, 0, none⟩)))], [ro s.ca (List.flatMap clC s.cl), gCl s.cl, ro s.ha (List.flatMap objC s.hl), gBag s.hl, .blk g1 75 [.int .i64 s.pos, .int .i64 s.st, .int .i64 s.fa, .slice s.ca s.cl.length s.cc, .slice s.ha s.hl.length s.hc, .string (mkS s.out), .int .i64 s.rd]]⟩ (fun Q1 hQ1 hk => ?_) ?_
    · by_cases h : i < s.cl.length
      · have h5 : ¬ n < 5000 := fun h5 => hlt ⟨h, h5⟩
        refine SR 18 (decide ((↑i : Int) < (↑s.cl.length : Int))) true (decide_eq_true (by omega)) ?_
        refine RR [] .z (.i 21 (.bool (decide (n < (5000 : Int)))) (.d (.d (.k .a)))) .a ?_
        refine RZ ?_
        rw [decide_eq_false h5]
        exact nx_ent (ent_hp [0, 0, 0, 0, 0] rfl) (nx_ent (ent_fr (by kernel_rfl)) hk)
      · refine SR 18 (decide ((↑i : Int) < (↑s.cl.length : Int))) false (decide_eq_false (by omega)) ?_
        refine RR [] .z (.i 21 (.bool false) (.d (.d (.k .a)))) .a ?_
        refine RZ ?_
        exact nx_ent (ent_hp [0, 0, 0, 0, 0] rfl) (nx_ent (ent_fr (by kernel_rfl)) hk)
    · refine NT (CF (EX (TE (TE (BH (NT (SQ (SQ (RG ?_)))))))))
      refine RR [] .z (.i 5 (.int .i64 0) (.d (.d (.k .a)))) .a ?_
      refine RZ (NT (BK ?_))
      refine wpc_loop (X := {x : Nat × Int // x.1 ≤ s.hl.length ∧ 0 ≤ x.2 ∧ x.2 ≤ 4200000}) (fun x => St.mk [(5, .int .i64 (x.1.1 : Int)), (3, .int .i64 x.1.2), (2, .bool false), (1, .pointer (some ⟨g1, 0, none⟩))] [ro s.ha (s.hl.flatMap objC), .blk g1 75 [.int .i64 s.pos, .int .i64 s.st, .int .i64 s.fa, .slice s.ca s.cl.length s.cc, .slice s.ha s.hl.length s.hc, .string (mkS s.out), .int .i64 s.rd]]) (fun x => s.hl.length - x.1.1) ⟨(0, n), Nat.zero_le _, hn⟩ (Ent.trans (ent_hp [2, 3] rfl) (ent_fr (by kernel_rfl))) ?_
      rintro ⟨⟨j, m⟩, hj, hm⟩
      dsimp only at hj hm ⊢
      by_cases hlt2 : j < s.hl.length ∧ m < 5000
      · obtain ⟨hlt2, h5⟩ := hlt2
        have v1 := (hh2 _ (List.getElem_mem hlt2)).2.2.1
        refine wpc_fact (fun w h => ro_addr h 0 rfl (by rw [objs_len]; omega)) ?_
        rintro ⟨g0, o0, hha⟩
        rw [hha]
        refine SQ (SQ (RG ?_))
        refine RR [1] (.d (.d (.d (.d (.d (.d .a)))))) (.i 46 (.bool (decide ((↑j : Int) < (↑s.hl.length : Int)))) .a) .a ?_
        refine SR 46 (decide ((↑j : Int) < (↑s.hl.length : Int))) true (decide_eq_true (by omega)) ?_
        refine RR [] .z (.i 49 (.bool (decide (m < (5000 : Int)))) (.d (.d (.k .a)))) .a ?_
        refine RZ (NT ?_)
        refine SC 49 (decide (m < (5000 : Int))) true (decide_eq_true (by omega)) ?_
        refine CT (SK (NT (SQ (BK (RG ?_)))))
        refine RV true [1] (.d (.d (.d (.d (.d (.d .a)))))) (.i 57 (.pointer (some ⟨g0, o0 + j * 2 + 1, none⟩)) (.i 52 (.int .i64 m) (.d (.d (.k .a))))) .a [(0 : Int) ≤ (↑j : Int) ∧ (↑j : Int) < (↑s.hl.length : Int)] ⟨by omega, trivial⟩ ?_
        refine wpr_eq (ld (t := 25) (a := ⟨g0, o0 + j * 2 + 1, none⟩) (dst := some 58) (by kernel_rfl) false 1 (by kernel_rfl) (by simp) [.slice s.hl[j].a s.hl[j].cells.length s.hl[j].c] rfl (fun w h => ld_ro h 0 rfl (j * 2 + 1) (obj_fld hlt2 1 1 (by decide)))) ?_
        refine RV true [] .z (.i 3 (.int .i64 (m + (↑s.hl[j].cells.length : Int))) (.d (.d (.d (.k (.d (.k .a))))))) .a ([inI64 (m + (↑s.hl[j].cells.length : Int))]) ⟨by unfold inI64; omega, trivial⟩ ?_
        refine RZ (BN (NT (RG ?_)))
        refine RV true [] .z (.i 5 (.int .i64 ((↑j : Int) + 1)) (.k (.d (.k .a)))) .a ([inI64 ((↑j : Int) + (1 : Int))]) ⟨by unfold inI64; omega, trivial⟩ ?_
        refine RZ ?_
        rw [← hha]
        exact fun a' w' hS' => ⟨⟨(j + 1, m + s.hl[j].cells.length), hlt2, by dsimp only; omega, by dsimp only; omega⟩, by dsimp only; omega, ent_fr (by kernel_rfl) _ _ (ent_hp [0, 0] rfl _ _ hS')⟩
      · refine SQ (SQ (RG ?_))
        refine RR [1] (.d (.d (.d (.d (.d (.d .a)))))) (.i 46 (.bool (decide ((↑j : Int) < (↑s.hl.length : Int)))) .a) .a ?_
        refine wpr_join ⟨[(49, .bool false), (5, (.int .i64 (↑j : Int))), (3, (.int .i64 m)), (2, (.bool false)), (1, (.pointer (some ⟨g1, 0, none⟩)))], [ro s.ha (List.flatMap objC s.hl), .blk g1 75 [.int .i64 s.pos, .int .i64 s.st, .int .i64 s.fa, .slice s.ca s.cl.length s.cc, .slice s.ha s.hl.length s.hc, .string (mkS s.out), .int .i64 s.rd]]⟩ (fun Q1 hQ1 hk2 => ?_) ?_
        · by_cases h : j < s.hl.length
          · have h5 : ¬ m < 5000 := fun h5 => hlt2 ⟨h, h5⟩
            refine SR 46 (decide ((↑j : Int) < (↑s.hl.length : Int))) true (decide_eq_true (by omega)) ?_
            refine RR [] .z (.i 49 (.bool (decide (m < (5000 : Int)))) (.d (.d (.k .a)))) .a ?_
            refine RZ ?_
            rw [decide_eq_false h5]
            exact nx_ent (ent_hp [0, 0] rfl) (nx_ent (ent_fr (by kernel_rfl)) hk2)
          · refine SR 46 (decide ((↑j : Int) < (↑s.hl.length : Int))) false (decide_eq_false (by omega)) ?_
            refine RR [] .z (.i 49 (.bool false) (.d (.d (.k .a)))) .a ?_
            refine RZ ?_
            exact nx_ent (ent_hp [0, 0] rfl) (nx_ent (ent_fr (by kernel_rfl)) hk2)
        · refine NT (CF (EX (TE (TE (BH (NT (SQ (RG ?_))))))))
          refine RR [] .z (.i 2 (.bool (decide (m < (5000 : Int)))) .z) .a ?_
          refine RZ (NT (RE ?_))
          refine NE [] .z .a [] (.bool (decide (m < 5000))) ?_
          exact ⟨_, rfl, rfl⟩
end Go.Proofs.YtpfhleghgkeemaaGreatDoor
namespace Go.Proofs.YtpfhleghgkeemaaGreatDoor
open Go Go.Sx
/-! What a reader that goes on reads: a value, a row, a call, an object, a state. -/
def rV (s : List UInt8) (p : At2) : V × At2 :=
  if (rI s p).1 = 1 ∨ (rI s p).1 = 2 ∨ (rI s p).1 = 4 then (⟨(rI s p).1, (rI s (rI s p).2).1, []⟩, (rI s (rI s p).2).2)
  else if (rI s p).1 = 3 then (⟨(rI s p).1, 0, (rT s 255 (rI s p).2).1⟩, (rT s 255 (rI s p).2).2)
  else (⟨(rI s p).1, 0, []⟩, (rI s p).2)
def rVs (s : List UInt8) (p : At2) : List V × At2 := rRows s (rV s) p
def rO (s : List UInt8) (p : At2) : O × At2 :=
  let t := rT s 255 p
  let l := rVs s t.2
  ((t.1, l.1), l.2)
def rCl (s : List UInt8) (p : At2) : C5 × At2 :=
  let u := rI s p
  let t := rI s u.2
  let m := rI s t.2
  let a := rVs s m.2
  let b := rVs s a.2
  ((u.1, t.1, m.1, a.1, b.1), b.2)
def rS (s : List UInt8) (p : At2) : SP × At2 :=
  let a := rI s p
  let b := rI s a.2
  let c := rI s b.2
  let d := rI s c.2
  let o := rT s 4096 d.2
  let C := rRows s (rCl s) o.2
  let L := rRows s (rO s) C.2
  (⟨a.1, b.1, c.1, C.1, L.1, o.1, d.1⟩, L.2)
theorem goes_rV (s : List UInt8) : Goes s (rV s) := fun p hp => by
  unfold rV
  split
  · exact goes_then (goes_rI s p hp) (fun h => let x := goes_rI s _ h; ⟨x.1, x.2.1, x.2.2.1⟩)
  · split
    · exact goes_then (goes_rI s p hp) (fun h => let x := goes_rT s 255 _ h; ⟨x.1, x.2.1, x.2.2.1⟩)
    · exact goes_rI s p hp
theorem goes_rVs (s : List UInt8) : Goes s (rVs s) := goes_rows (goes_rV s)
theorem goes_rO (s : List UInt8) : Goes s (rO s) := fun p hp => goes_then (goes_rT s 255 p hp) (fun h => goes_weak (goes_rVs s _ h))
theorem goes_rCl (s : List UInt8) : Goes s (rCl s) := fun p hp =>
  goes_then (goes_rI s p hp) fun h => goes_weak <| goes_then (goes_rI s _ h) fun h => goes_weak <| goes_then (goes_rI s _ h) fun h => goes_weak <|
    goes_then (goes_rVs s _ h) fun h => goes_weak (goes_rVs s _ h)
end Go.Proofs.YtpfhleghgkeemaaGreatDoor
namespace Go.Proofs.YtpfhleghgkeemaaGreatDoor
open Go Go.Sx
theorem readVal_spec (r A : Nat) (s : List UInt8) (e : Int) (hA : A ≤ s.length) (hl : s.length ≤ 1099511627776) :
    Does Tryz.prog 123 [.pointer (some ⟨r, 0, none⟩)] [rdr r s A e] (fun v hp' => v = valV (rV s (A, e)).1 ∧ hp' = [rdr r s (rV s (A, e)).2.1 (rV s (A, e)).2.2]) := by
  obtain ⟨g1, g2, -, -⟩ := goes_rI s (A, e) hA
  unfold valV rV
  refine fn_enter Tryz.func123 rfl 22 rfl fun w0 h0 => ?_
  refine SQ (RG ?_)
  refine RP [] .z 2 .a (.i (.blk r 166 [.bool true, .string (mkS s), .int .i64 (↑A : Int), .int .i64 e]) .z) 28 [.int .i64 0, .int .i64 0, .string ⟨#[]⟩] fun g3 => ?_
  refine RZ (NT (SQ (RG ?_)))
  refine RR [] (.d .a) (.i 4 (.pointer (some ⟨r, 0, none⟩)) .a) .a ?_
  refine RC (dst := some 5) [0] (.d (.k .a)) (Int_spec r A s e hA hl) ?_
  rintro v _ ⟨rfl, rfl⟩
  obtain ⟨⟨k, A1, e1⟩, hx⟩ : ∃ x, x = rI s (A, e) := ⟨_, rfl⟩
  have hx2 : rd 0 A e (num (s.drop A)) = (k, A1, e1) := hx.symm
  rw [← hx] at g1 g2 ⊢
  rw [hx2]
  dsimp only at g1 g2 ⊢
  by_cases k1 : k = 1
  · rw [if_pos (.inl k1)]
    refine RP [] (.d (.d .a)) 3 (.i 6 (.agg #[.int .i64 k, .int .i64 0, .string ⟨#[]⟩]) (.d (.d (.k .a)))) (.i (.blk r 166 [.bool true, .string (mkS s), .int .i64 (↑A1 : Int), .int .i64 e1]) (.d (.k .a))) 28 [.int .i64 0, .int .i64 0, .string ⟨#[]⟩] fun g4 => ?_
    refine RR [2, 2, 2] .z (.k (.d (.k .a))) (.k (.k (.u (.i (.int .i64 k) (.d (.k .a))) .a))) ?_
    refine RZ (NT (SQ (SQ (RG ?_))))
    refine RR [2] .z (.i 8 (.int .i64 k) .a) .a ?_
    refine RZ (NT (BK (SQ (SQ (RG ?_)))))
    refine RR [] .z (.i 9 (.bool (k == (1 : Int))) .a) .a ?_
    refine RZ (NT ?_)
    refine SC 9 (k == (1 : Int)) true (by simp only [bne_iff_ne, beq_iff_eq, ne_eq]; omega) ?_
    refine CT (SK (NT (CT (RG ?_))))
    refine RR [] (.d .a) (.i 13 (.pointer (some ⟨r, 0, none⟩)) (.d (.d (.d (.k (.k .z)))))) .a ?_
    refine RC (dst := some 14) [0] (.d (.k .a)) (Int_spec r A1 s e1 g2 hl) ?_
    rintro v _ ⟨rfl, rfl⟩
    refine RR [2] .z (.d (.d (.k .a))) (.i (.blk r 166 [.bool true, .string (mkS s), .int .i64 (↑(rd 0 A1 e1 (num (List.drop A1 s))).snd.fst : Int), .int .i64 (rd 0 A1 e1 (num (List.drop A1 s))).snd.snd]) (.d (.k (.u (.k (.i (.int .i64 (rd 0 A1 e1 (num (List.drop A1 s))).fst) (.d (.k .a)))) .a)))) ?_
    refine RZ (BN (NT (SQ (RG ?_))))
    refine RR [2, 2, 2, 1, 1, 1] .z (.d (.k .a)) (.k (.u (.i (.int .i64 k) (.i (.int .i64 (rd 0 A1 e1 (num (List.drop A1 s))).fst) (.d (.d (.k .a))))) .a)) ?_
    refine RZ (NT (RE ?_))
    refine NE [0] (.k .z) (.d (.k .a)) [1, 1, 1] (.agg #[.int .i64 k, .int .i64 (rd 0 A1 e1 (num (List.drop A1 s))).fst, .string ⟨#[]⟩]) ?_
    exact ⟨rfl, rfl⟩
  by_cases k2 : k = 2
  · rw [if_pos (.inr (.inl k2))]
    refine RP [] (.d (.d .a)) 3 (.i 6 (.agg #[.int .i64 k, .int .i64 0, .string ⟨#[]⟩]) (.d (.d (.k .a)))) (.i (.blk r 166 [.bool true, .string (mkS s), .int .i64 (↑A1 : Int), .int .i64 e1]) (.d (.k .a))) 28 [.int .i64 0, .int .i64 0, .string ⟨#[]⟩] fun g4 => ?_
    refine RR [2, 2, 2] .z (.k (.d (.k .a))) (.k (.k (.u (.i (.int .i64 k) (.d (.k .a))) .a))) ?_
    refine RZ (NT (SQ (SQ (RG ?_))))
    refine RR [2] .z (.i 8 (.int .i64 k) .a) .a ?_
    refine RZ (NT (BK (SQ (SQ (RG ?_)))))
    refine RR [] .z (.i 9 (.bool (k == (1 : Int))) .a) .a ?_
    refine RZ (NT ?_)
    refine SC 9 (k == (1 : Int)) false (by simp only [bne_eq_false_iff_eq, beq_eq_false_iff_ne, ne_eq]; omega) ?_
    refine CF (SQ (RG ?_))
    refine RR [] .z (.i 9 (.bool (k == (2 : Int))) (.d (.d (.k .a)))) .a ?_
    refine RZ (NT ?_)
    refine SC 9 (k == (2 : Int)) true (by simp only [bne_iff_ne, beq_iff_eq, ne_eq]; omega) ?_
    refine CT (SK (NT (CT (RG ?_))))
    refine RR [] (.d .a) (.i 13 (.pointer (some ⟨r, 0, none⟩)) (.d (.d (.d (.k (.k .z)))))) .a ?_
    refine RC (dst := some 14) [0] (.d (.k .a)) (Int_spec r A1 s e1 g2 hl) ?_
    rintro v _ ⟨rfl, rfl⟩
    refine RR [2] .z (.d (.d (.k .a))) (.i (.blk r 166 [.bool true, .string (mkS s), .int .i64 (↑(rd 0 A1 e1 (num (List.drop A1 s))).snd.fst : Int), .int .i64 (rd 0 A1 e1 (num (List.drop A1 s))).snd.snd]) (.d (.k (.u (.k (.i (.int .i64 (rd 0 A1 e1 (num (List.drop A1 s))).fst) (.d (.k .a)))) .a)))) ?_
    refine RZ (BN (NT (SQ (RG ?_))))
    refine RR [2, 2, 2, 1, 1, 1] .z (.d (.k .a)) (.k (.u (.i (.int .i64 k) (.i (.int .i64 (rd 0 A1 e1 (num (List.drop A1 s))).fst) (.d (.d (.k .a))))) .a)) ?_
    refine RZ (NT (RE ?_))
    refine NE [0] (.k .z) (.d (.k .a)) [1, 1, 1] (.agg #[.int .i64 k, .int .i64 (rd 0 A1 e1 (num (List.drop A1 s))).fst, .string ⟨#[]⟩]) ?_
    exact ⟨rfl, rfl⟩
  by_cases k4 : k = 4
  · rw [if_pos (.inr (.inr k4))]
    refine RP [] (.d (.d .a)) 3 (.i 6 (.agg #[.int .i64 k, .int .i64 0, .string ⟨#[]⟩]) (.d (.d (.k .a)))) (.i (.blk r 166 [.bool true, .string (mkS s), .int .i64 (↑A1 : Int), .int .i64 e1]) (.d (.k .a))) 28 [.int .i64 0, .int .i64 0, .string ⟨#[]⟩] fun g4 => ?_
    refine RR [2, 2, 2] .z (.k (.d (.k .a))) (.k (.k (.u (.i (.int .i64 k) (.d (.k .a))) .a))) ?_
    refine RZ (NT (SQ (SQ (RG ?_))))
    refine RR [2] .z (.i 8 (.int .i64 k) .a) .a ?_
    refine RZ (NT (BK (SQ (SQ (RG ?_)))))
    refine RR [] .z (.i 9 (.bool (k == (1 : Int))) .a) .a ?_
    refine RZ (NT ?_)
    refine SC 9 (k == (1 : Int)) false (by simp only [bne_eq_false_iff_eq, beq_eq_false_iff_ne, ne_eq]; omega) ?_
    refine CF (SQ (RG ?_))
    refine RR [] .z (.i 9 (.bool (k == (2 : Int))) (.d (.d (.k .a)))) .a ?_
    refine RZ (NT ?_)
    refine SC 9 (k == (2 : Int)) false (by simp only [bne_eq_false_iff_eq, beq_eq_false_iff_ne, ne_eq]; omega) ?_
    refine CF (RG ?_)
    refine RR [] .z (.i 9 (.bool (k == (4 : Int))) (.d (.d (.k .a)))) .a ?_
    refine RZ (NT ?_)
    refine SC 9 (k == (4 : Int)) true (by simp only [bne_iff_ne, beq_iff_eq, ne_eq]; omega) ?_
    refine CT (RG ?_)
    refine RR [] (.d .a) (.i 13 (.pointer (some ⟨r, 0, none⟩)) (.d (.d (.d (.k (.k .z)))))) .a ?_
    refine RC (dst := some 14) [0] (.d (.k .a)) (Int_spec r A1 s e1 g2 hl) ?_
    rintro v _ ⟨rfl, rfl⟩
    refine RR [2] .z (.d (.d (.k .a))) (.i (.blk r 166 [.bool true, .string (mkS s), .int .i64 (↑(rd 0 A1 e1 (num (List.drop A1 s))).snd.fst : Int), .int .i64 (rd 0 A1 e1 (num (List.drop A1 s))).snd.snd]) (.d (.k (.u (.k (.i (.int .i64 (rd 0 A1 e1 (num (List.drop A1 s))).fst) (.d (.k .a)))) .a)))) ?_
    refine RZ (BN (NT (SQ (RG ?_))))
    refine RR [2, 2, 2, 1, 1, 1] .z (.d (.k .a)) (.k (.u (.i (.int .i64 k) (.i (.int .i64 (rd 0 A1 e1 (num (List.drop A1 s))).fst) (.d (.d (.k .a))))) .a)) ?_
    refine RZ (NT (RE ?_))
    refine NE [0] (.k .z) (.d (.k .a)) [1, 1, 1] (.agg #[.int .i64 k, .int .i64 (rd 0 A1 e1 (num (List.drop A1 s))).fst, .string ⟨#[]⟩]) ?_
    exact ⟨rfl, rfl⟩
  rw [if_neg (by omega)]
  by_cases k3 : k = 3
  · rw [if_pos k3]
    refine RP [] (.d (.d .a)) 3 (.i 6 (.agg #[.int .i64 k, .int .i64 0, .string ⟨#[]⟩]) (.d (.d (.k .a)))) (.i (.blk r 166 [.bool true, .string (mkS s), .int .i64 (↑A1 : Int), .int .i64 e1]) (.d (.k .a))) 28 [.int .i64 0, .int .i64 0, .string ⟨#[]⟩] fun g4 => ?_
    refine RR [2, 2, 2] .z (.k (.d (.k .a))) (.k (.k (.u (.i (.int .i64 k) (.d (.k .a))) .a))) ?_
    refine RZ (NT (SQ (SQ (RG ?_))))
    refine RR [2] .z (.i 8 (.int .i64 k) .a) .a ?_
    refine RZ (NT (BK (SQ (SQ (RG ?_)))))
    refine RR [] .z (.i 9 (.bool (k == (1 : Int))) .a) .a ?_
    refine RZ (NT ?_)
    refine SC 9 (k == (1 : Int)) false (by simp only [bne_eq_false_iff_eq, beq_eq_false_iff_ne, ne_eq]; omega) ?_
    refine CF (SQ (RG ?_))
    refine RR [] .z (.i 9 (.bool (k == (2 : Int))) (.d (.d (.k .a)))) .a ?_
    refine RZ (NT ?_)
    refine SC 9 (k == (2 : Int)) false (by simp only [bne_eq_false_iff_eq, beq_eq_false_iff_ne, ne_eq]; omega) ?_
    refine CF (RG ?_)
    refine RR [] .z (.i 9 (.bool (k == (4 : Int))) (.d (.d (.k .a)))) .a ?_
    refine RZ (NT ?_)
    refine SC 9 (k == (4 : Int)) false (by simp only [bne_eq_false_iff_eq, beq_eq_false_iff_ne, ne_eq]; omega) ?_
    refine CF (SQ (RG ?_))
    refine RR [] .z (.i 16 (.bool (k == (3 : Int))) (.d (.d (.d (.k .a))))) .a ?_
    refine RZ (NT ?_)
    refine SC 16 (k == (3 : Int)) true (by simp only [bne_iff_ne, beq_iff_eq, ne_eq]; omega) ?_
    refine CT (RG ?_)
    refine RR [] (.d .a) (.i 18 (.pointer (some ⟨r, 0, none⟩)) (.d (.d (.k (.k .z))))) .a ?_
    refine RC (dst := some 19) [0] (.d (.k .a)) (Text_spec r A1 s e1 255 g2 hl) ?_
    rintro v _ ⟨rfl, rfl⟩
    refine RR [2] .z (.d (.d (.k .a))) (.i (.blk r 166 [.bool true, .string (mkS s), .int .i64 (↑(rd [] A1 e1 (txW (List.drop A1 s) 255)).snd.fst : Int), .int .i64 (rd [] A1 e1 (txW (List.drop A1 s) 255)).snd.snd]) (.d (.k (.u (.k (.k (.i (.string (mkS (rd [] A1 e1 (txW (List.drop A1 s) 255)).fst)) .z))) .a)))) ?_
    refine RZ (BN (NT (SQ (RG ?_))))
    refine RR [2, 2, 2, 1, 1, 1] .z (.d (.k .a)) (.k (.u (.i (.int .i64 k) (.d (.k (.i (.string (mkS (rd [] A1 e1 (txW (List.drop A1 s) 255)).fst)) .z)))) .a)) ?_
    refine RZ (NT (RE ?_))
    refine NE [0] (.k .z) (.d (.k .a)) [1, 1, 1] (.agg #[.int .i64 k, .int .i64 0, .string (mkS (rd [] A1 e1 (txW (List.drop A1 s) 255)).fst)]) ?_
    exact ⟨rfl, rfl⟩
  · rw [if_neg k3]
    refine RP [] (.d (.d .a)) 3 (.i 6 (.agg #[.int .i64 k, .int .i64 0, .string ⟨#[]⟩]) (.d (.d (.k .a)))) (.i (.blk r 166 [.bool true, .string (mkS s), .int .i64 (↑A1 : Int), .int .i64 e1]) (.d (.k .a))) 28 [.int .i64 0, .int .i64 0, .string ⟨#[]⟩] fun g4 => ?_
    refine RR [2, 2, 2] .z (.k (.d (.k .a))) (.k (.k (.u (.i (.int .i64 k) (.d (.k .a))) .a))) ?_
    refine RZ (NT (SQ (SQ (RG ?_))))
    refine RR [2] .z (.i 8 (.int .i64 k) .a) .a ?_
    refine RZ (NT (BK (SQ (SQ (RG ?_)))))
    refine RR [] .z (.i 9 (.bool (k == (1 : Int))) .a) .a ?_
    refine RZ (NT ?_)
    refine SC 9 (k == (1 : Int)) false (by simp only [bne_eq_false_iff_eq, beq_eq_false_iff_ne, ne_eq]; omega) ?_
    refine CF (SQ (RG ?_))
    refine RR [] .z (.i 9 (.bool (k == (2 : Int))) (.d (.d (.k .a)))) .a ?_
    refine RZ (NT ?_)
    refine SC 9 (k == (2 : Int)) false (by simp only [bne_eq_false_iff_eq, beq_eq_false_iff_ne, ne_eq]; omega) ?_
    refine CF (RG ?_)
    refine RR [] .z (.i 9 (.bool (k == (4 : Int))) (.d (.d (.k .a)))) .a ?_
    refine RZ (NT ?_)
    refine SC 9 (k == (4 : Int)) false (by simp only [bne_eq_false_iff_eq, beq_eq_false_iff_ne, ne_eq]; omega) ?_
    refine CF (SQ (RG ?_))
    refine RR [] .z (.i 16 (.bool (k == (3 : Int))) (.d (.d (.d (.k .a))))) .a ?_
    refine RZ (NT ?_)
    refine SC 16 (k == (3 : Int)) false (by simp only [bne_eq_false_iff_eq, beq_eq_false_iff_ne, ne_eq]; omega) ?_
    refine CF (SK (BN (NT (SQ (RG ?_)))))
    refine RR [2, 2, 2, 1, 1, 1] .z (.d (.d (.d (.k .z)))) (.k (.u (.i (.int .i64 k) (.d (.k .a))) .a)) ?_
    refine RZ (NT (RE ?_))
    refine NE [0] (.k .z) (.d (.k .a)) [1, 1, 1] (.agg #[.int .i64 k, .int .i64 0, .string ⟨#[]⟩]) ?_
    exact ⟨rfl, rfl⟩
theorem val1 (v : V) : Sx.One (valC v) := by have := vals_one [v]; simpa using this
theorem rowsV_spec (r A : Nat) (s : List UInt8) (e : Int) (hA : A ≤ s.length) (hl : s.length ≤ 1099511627776) :
    Does Tryz.prog 122 [.pointer (some ⟨r, 0, none⟩), .func (.func 123) #[] #[]] [rdr r s A e]
      (fun v hp' => ∃ a c, v = .slice a (rVs s (A, e)).1.length c ∧ hp' = [row 28 3 a (rVs s (A, e)).1.length c ((rVs s (A, e)).1.flatMap valC), rdr r s (rVs s (A, e)).2.1 (rVs s (A, e)).2.2]) := by
  obtain ⟨g1, g2, -, -⟩ := goes_rC s 1048576 (A, e) hA
  unfold rVs rRows
  refine fn_enter Tryz.func122 rfl 25 rfl fun w0 h0 => ?_
  refine SQ (RG ?_)
  refine RR [] .z (.i 4 (.slice none 0 0) .a) (.i (.blk r 166 [.bool true, .string (mkS s), .int .i64 (↑A : Int), .int .i64 e]) .z) ?_
  refine RZ (NT (SQ (RG ?_)))
  refine RR [] .z (.i 5 (.slice none 0 0) .a) .a ?_
  refine RZ (NT (SQ (SQ (RG ?_))))
  refine RR [] (.d .a) (.i 7 (.pointer (some ⟨r, 0, none⟩)) .a) .a ?_
  refine RCA (dst := some 8) (RdCount_spec r A s e 1048576 hA hl) ?_
  rintro v _ ⟨rfl, rfl⟩
  obtain ⟨⟨k, A1, e1⟩, hx⟩ : ∃ x, x = rC s 1048576 (A, e) := ⟨_, rfl⟩
  have hx2 : rd 0 A e (cnt (s.drop A) 1048576) = (k, A1, e1) := hx.symm
  rw [← hx] at g1 g2 ⊢
  rw [hx2]
  dsimp only at g1 g2 ⊢
  have hk := rC_rng s (A, e)
  rw [← hx] at hk
  dsimp only at hk
  obtain ⟨n, rfl⟩ := Int.eq_ofNat_of_zero_le hk.1
  obtain ⟨⟨L, A9, e9⟩, ht⟩ : ∃ x, x = rMany (rV s) (n : Int).toNat (A1, e1) := ⟨_, rfl⟩
  rw [← ht]
  rw [Int.toNat_natCast] at ht
  have hln := many_len (goes_rV s) n (A1, e1) g2
  rw [← ht] at hln
  dsimp only at hln ⊢
  refine RR [] .z (.i 6 (.int .i64 (↑n : Int)) (.d (.d (.k .a)))) (.i (.blk r 166 [.bool true, .string (mkS s), .int .i64 (↑A1 : Int), .int .i64 e1]) .z) ?_
  refine RZ (NT (BK ?_))
  refine wpc_loop (X := {x : Nat × Option Addr × Nat × List V × Nat × Int // x.1 ≤ n ∧ x.2.2.2.2.1 ≤ s.length ∧ L = x.2.2.2.1 ++ (rMany (rV s) x.1 x.2.2.2.2).1 ∧ (A9, e9) = (rMany (rV s) x.1 x.2.2.2.2).2}) (fun x => St.mk [(6, .int .i64 (x.1.1 : Int)), (5, .slice x.1.2.1 x.1.2.2.2.1.length x.1.2.2.1), (4, .slice none 0 0), (0, .pointer (some ⟨r, 0, none⟩)), (1, .func (.func 123) #[] #[])]
    [row 28 3 x.1.2.1 x.1.2.2.2.1.length x.1.2.2.1 (x.1.2.2.2.1.flatMap valC), rdr r s x.1.2.2.2.2.1 x.1.2.2.2.2.2]) (fun x => x.1.1) ⟨(n, none, 0, [], A1, e1), Nat.le_refl _, g2, by rw [← ht]; rfl, by rw [← ht]⟩ ?_ ?_
  · exact Ent.trans (ent_nil 28 3) (ent_fr (by kernel_rfl))
  rintro ⟨⟨k, a1, c1, l1, A2, e2⟩, hkn, hA2, hL, hp⟩
  dsimp only at hkn hA2 hL hp ⊢
  have hll : l1.length ≤ 1048576 := by
    have := congrArg List.length hL
    rw [List.length_append] at this
    omega
  cases k with
  | zero =>
    rw [show rMany (rV s) 0 (A2, e2) = ([], A2, e2) from rfl] at hL hp
    cases hp
    rw [List.append_nil] at hL
    subst hL
    refine SQ (SQ (RG ?_))
    refine RR [] .z (.i 15 (.bool false) (.i 6 (.int .i64 0) (.d (.k .a)))) (.k (.i (.blk r 166 [.bool true, .string (mkS s), .int .i64 (↑A9 : Int), .int .i64 e9]) .z)) ?_
    refine RZ (NT (CF (EX (TE (TE (BH (NT (SQ (RG ?_)))))))))
    refine RR [] .z (.i 4 (.slice a1 L.length c1) .z) .a ?_
    refine RZ (NT (RE ?_))
    refine NE [0, 0] .a .z [] (.slice a1 L.length c1) ?_
    exact ⟨a1, c1, rfl, rfl⟩
  | succ k =>
    by_cases he : e2 = 0
    · subst he
      rw [rMany_succ _ _ _ rfl] at hL hp
      have hg := goes_rV s (A2, 0) hA2
      refine SQ (SQ (RG ?_))
      refine RR [] (.d (.d (.d .a))) (.i 11 (.bool (decide ((↑(k + (1 : Nat)) : Int) > (0 : Int)))) .a) (.k (.i (.blk r 166 [.bool true, .string (mkS s), .int .i64 (↑A2 : Int), .int .i64 0]) .z)) ?_
      refine SR 11 (decide ((↑(k + (1 : Nat)) : Int) > (0 : Int))) true (by simp) ?_
      refine RR [] (.d .a) (.i 12 (.pointer (some ⟨r, 0, none⟩)) (.k (.d (.k .a)))) .a ?_
      refine RC (dst := some 13) [1] (.k .z) (Err_spec r s A2 0) ?_
      rintro v _ ⟨rfl, rfl⟩
      refine RR [] .z (.i 15 (.bool true) (.d (.d (.d (.k .a))))) (.i (.blk r 166 [.bool true, .string (mkS s), .int .i64 (↑A2 : Int), .int .i64 0]) (.d (.k .a))) ?_
      refine RZ (NT (CT (SK (NT (SQ (BK (RG ?_)))))))
      refine RR [] (.d (.d (.d .a))) (.i 20 (.pointer (some ⟨r, 0, none⟩)) (.i 19 (Value.func (Fn.func 123) #[] #[]) (.i 18 (.slice a1 l1.length c1) (.d (.k .a))))) .a ?_
      refine wpr_callv (dst := some 21) (rest := [row 28 3 a1 l1.length c1 (List.flatMap valC l1)]) (first := (#[])) (caps := (#[])) (args := [.pointer (some ⟨r, 0, none⟩)]) (f := 123) (by kernel_rfl) (by kernel_rfl) (readVal_spec r A2 s 0 hA2 hl) (give [0] (by kernel_rfl)) ?_
      rintro v _ ⟨rfl, rfl⟩
      obtain ⟨⟨v, A3, e3⟩, hv⟩ : ∃ x, x = rV s (A2, 0) := ⟨_, rfl⟩
      rw [← hv] at hg hL hp ⊢
      dsimp only at hg hL hp ⊢
      refine RN [] (.d .a) 22 (fun g3 => (.slice (some ⟨g3, 0, none⟩) 1 1)) (.d (.d (.d (.k .a)))) (.i (.blk r 166 [.bool true, .string (mkS s), .int .i64 (↑A3 : Int), .int .i64 e3]) (.d (.k .a))) 28 [.int .i64 v.k, .int .i64 v.n, .string (mkS v.s)] fun g3 => ?_
      refine wpr_ent (ent_turn 2 (ro (some ⟨g3, 0, none⟩) (valC v)) rfl (turn_rblk (val1 _)) rfl) ?_
      refine wpr_app (a := a1) (n := l1.length) (cap := c1) (x := (.slice (some ⟨g3, 0, none⟩) 1 1)) (t := 25) (xt := 25) (dst := some 23) (by kernel_rfl) (e := 28) (sz := 3) (bytes := 32) (by kernel_rfl) 1 (xs := (List.flatMap valC l1)) (by kernel_rfl) (m := 1) (news := (valC v)) (fun w h => src_ro h 2 rfl rfl (fun e => by cases e)) (by unfold maxLen; omega) (by omega) ?_
      intro a3 c3 hn3
      rw [show l1.length + 1 = (l1 ++ [v]).length by simp, show l1.flatMap valC ++ valC v = (l1 ++ [v]).flatMap valC by simp]
      refine RR [] .z (.i 5 (.slice a3 (l1 ++ [v]).length c3) (.d (.d (.d (.k (.d (.k .a))))))) .a ?_
      refine RZ (BN (NT (RG ?_)))
      refine RV true [] .z (.i 6 (.int .i64 ((↑(k + 1) : Int) - 1)) (.k (.d (.k .a)))) .a ([inI64 ((↑(k + (1 : Nat)) : Int) - (1 : Int))]) ⟨by unfold inI64; omega, trivial⟩ ?_
      refine RZ ?_
      rw [show ((k + 1 : Nat) : Int) - 1 = (k : Int) from by omega]
      exact fun a' w' hS' => ⟨⟨(k, a3, c3, l1 ++ [v], A3, e3), by dsimp only; omega, hg.2.1, by rw [hL, List.append_assoc]; rfl, hp⟩, by dsimp only; omega, ent_fr (by kernel_rfl) _ _ (ent_hp [1, 0] rfl _ _ hS')⟩
    · rw [rMany_nil _ _ _ he] at hL hp
      cases hp
      rw [List.append_nil] at hL
      subst hL
      refine SQ (SQ (RG ?_))
      refine RR [] (.d (.d (.d .a))) (.i 11 (.bool (decide ((↑(k + (1 : Nat)) : Int) > (0 : Int)))) .a) (.k (.i (.blk r 166 [.bool true, .string (mkS s), .int .i64 (↑A9 : Int), .int .i64 e9]) .z)) ?_
      refine SR 11 (decide ((↑(k + (1 : Nat)) : Int) > (0 : Int))) true (by simp) ?_
      refine RR [] (.d .a) (.i 12 (.pointer (some ⟨r, 0, none⟩)) (.k (.d (.k .a)))) .a ?_
      refine RC (dst := some 13) [1] (.k .z) (Err_spec r s A9 e9) ?_
      rintro v _ ⟨rfl, rfl⟩
      refine RR [] .z (.i 15 (.bool (e9 == (0 : Int))) (.d (.d (.d (.k .a))))) (.i (.blk r 166 [.bool true, .string (mkS s), .int .i64 (↑A9 : Int), .int .i64 e9]) (.d (.k .a))) ?_
      refine RZ (NT ?_)
      refine SC 15 (e9 == (0 : Int)) false (by simp only [bne_eq_false_iff_eq, beq_eq_false_iff_ne, ne_eq]; omega) ?_
      refine CF (EX (TE (TE (BH (NT (SQ (RG ?_)))))))
      refine RR [] .z (.i 4 (.slice a1 L.length c1) .z) .a ?_
      refine RZ (NT (RE ?_))
      refine NE [1, 0] (.i (row 28 3 a1 L.length c1 (List.flatMap valC L)) (.k .z)) .z [] (.slice a1 L.length c1) ?_
      exact ⟨a1, c1, rfl, rfl⟩
end Go.Proofs.YtpfhleghgkeemaaGreatDoor
namespace Go.Proofs.YtpfhleghgkeemaaGreatDoor
open Go Go.Sx
theorem readObj_spec (r A : Nat) (s : List UInt8) (e : Int) (hA : A ≤ s.length) (hl : s.length ≤ 1099511627776) :
    Does Tryz.prog 82 [.pointer (some ⟨r, 0, none⟩)] [rdr r s A e] (fun v hp' => ∃ o : Ob, o.o = (rO s (A, e)).1 ∧ v = .agg #[.string (mkS o.tag), .slice o.a o.cells.length o.c] ∧ hp' = [rdr r s (rO s (A, e)).2.1 (rO s (A, e)).2.2, obRow o]) := by
  obtain ⟨g1, g2, -, -⟩ := goes_rT s 255 (A, e) hA
  unfold rO
  refine fn_enter Tryz.func82 rfl 8 rfl fun w0 h0 => ?_
  refine SQ (RG ?_)
  refine RP [] .z 2 .a (.i (.blk r 166 [.bool true, .string (mkS s), .int .i64 (↑A : Int), .int .i64 e]) .z) 43 [.string ⟨#[]⟩, .slice none 0 0] fun g3 => ?_
  refine RZ (NT (SQ (RG ?_)))
  refine RR [] (.d .a) (.i 3 (.pointer (some ⟨r, 0, none⟩)) .a) .a ?_
  refine RC (dst := some 4) [0] (.d (.k .a)) (Text_spec r A s e 255 hA hl) ?_
  rintro v _ ⟨rfl, rfl⟩
  obtain ⟨⟨t, A1, e1⟩, hx⟩ : ∃ x, x = rT s 255 (A, e) := ⟨_, rfl⟩
  have hx2 : rd [] A e (txW (s.drop A) 255) = (t, A1, e1) := hx.symm
  rw [← hx] at g1 g2 ⊢
  rw [hx2]
  dsimp only at g1 g2 ⊢
  refine RR [] (.d .a) (.i 5 (.pointer (some ⟨r, 0, none⟩)) (.k (.d (.k .z)))) (.i (.blk r 166 [.bool true, .string (mkS s), .int .i64 (↑A1 : Int), .int .i64 e1]) (.d (.k .a))) ?_
  refine RC (dst := some 6) [0] (.d (.k .a)) (rowsV_spec r A1 s e1 g2 hl) ?_
  rintro v _ ⟨a1, c1, rfl, rfl⟩
  obtain ⟨⟨l, A2, e2⟩, hy⟩ : ∃ x, x = rVs s (A1, e1) := ⟨_, rfl⟩
  rw [← hy]
  dsimp only
  refine RR [2, 2] .z (.d (.d (.d (.k .a)))) (.k (.i (.blk r 166 [.bool true, .string (mkS s), .int .i64 (↑A2 : Int), .int .i64 e2]) (.i (.blk g3 43 [.string (mkS t), .slice a1 l.length c1]) .z))) ?_
  refine RZ (NT (RE ?_))
  refine NE [1, 0] (.i (.blk r 166 [.bool true, .string (mkS s), .int .i64 (↑A2 : Int), .int .i64 e2]) (.k .z)) (.d (.d (.k .a))) [2, 2] (.agg #[.string (mkS t), .slice a1 l.length c1]) ?_
  exact ⟨⟨t, a1, c1, l⟩, rfl, rfl, rfl⟩
theorem rowsO_spec (r A : Nat) (s : List UInt8) (e : Int) (hA : A ≤ s.length) (hl : s.length ≤ 1099511627776) :
    Does Tryz.prog 81 [.pointer (some ⟨r, 0, none⟩), .func (.func 82) #[] #[]] [rdr r s A e]
      (fun v hp' => ∃ a c, ∃ l' : List Ob, l'.map Ob.o = (rRows s (rO s) (A, e)).1 ∧ v = .slice a l'.length c ∧ hp' = [row 43 2 a l'.length c (l'.flatMap objC), star (l'.map obRow), rdr r s (rRows s (rO s) (A, e)).2.1 (rRows s (rO s) (A, e)).2.2]) := by
  obtain ⟨g1, g2, -, -⟩ := goes_rC s 1048576 (A, e) hA
  unfold rRows
  refine fn_enter Tryz.func81 rfl 25 rfl fun w0 h0 => ?_
  refine SQ (RG ?_)
  refine RR [] .z (.i 4 (.slice none 0 0) .a) (.i (.blk r 166 [.bool true, .string (mkS s), .int .i64 (↑A : Int), .int .i64 e]) .z) ?_
  refine RZ (NT (SQ (RG ?_)))
  refine RR [] .z (.i 5 (.slice none 0 0) .a) .a ?_
  refine RZ (NT (SQ (SQ (RG ?_))))
  refine RR [] (.d .a) (.i 7 (.pointer (some ⟨r, 0, none⟩)) .a) .a ?_
  refine RCA (dst := some 8) (RdCount_spec r A s e 1048576 hA hl) ?_
  rintro v _ ⟨rfl, rfl⟩
  obtain ⟨⟨k, A1, e1⟩, hx⟩ : ∃ x, x = rC s 1048576 (A, e) := ⟨_, rfl⟩
  have hx2 : rd 0 A e (cnt (s.drop A) 1048576) = (k, A1, e1) := hx.symm
  rw [← hx] at g1 g2 ⊢
  rw [hx2]
  dsimp only at g1 g2 ⊢
  have hk := rC_rng s (A, e)
  rw [← hx] at hk
  dsimp only at hk
  obtain ⟨n, rfl⟩ := Int.eq_ofNat_of_zero_le hk.1
  obtain ⟨⟨L, A9, e9⟩, ht⟩ : ∃ x, x = rMany (rO s) (n : Int).toNat (A1, e1) := ⟨_, rfl⟩
  rw [← ht]
  rw [Int.toNat_natCast] at ht
  have hln := many_len (goes_rO s) n (A1, e1) g2
  rw [← ht] at hln
  dsimp only at hln ⊢
  refine RR [] .z (.i 6 (.int .i64 (↑n : Int)) (.d (.d (.k .a)))) (.i (.blk r 166 [.bool true, .string (mkS s), .int .i64 (↑A1 : Int), .int .i64 e1]) .z) ?_
  refine RZ (NT (BK ?_))
  refine wpc_loop (X := {x : Nat × Option Addr × Nat × List Ob × Nat × Int // x.1 ≤ n ∧ x.2.2.2.2.1 ≤ s.length ∧ L = x.2.2.2.1.map Ob.o ++ (rMany (rO s) x.1 x.2.2.2.2).1 ∧ (A9, e9) = (rMany (rO s) x.1 x.2.2.2.2).2}) (fun x => St.mk [(6, .int .i64 (x.1.1 : Int)), (5, .slice x.1.2.1 x.1.2.2.2.1.length x.1.2.2.1), (4, .slice none 0 0), (0, .pointer (some ⟨r, 0, none⟩)), (1, .func (.func 82) #[] #[])]
    [row 43 2 x.1.2.1 x.1.2.2.2.1.length x.1.2.2.1 (x.1.2.2.2.1.flatMap objC), star (x.1.2.2.2.1.map obRow), rdr r s x.1.2.2.2.2.1 x.1.2.2.2.2.2]) (fun x => x.1.1) ⟨(n, none, 0, [], A1, e1), Nat.le_refl _, g2, by rw [← ht]; rfl, by rw [← ht]⟩ ?_ ?_
  · exact Ent.trans ent_star_nil (Ent.trans (ent_nil 43 2) (ent_fr (by kernel_rfl)))
  rintro ⟨⟨k, a1, c1, l1, A2, e2⟩, hkn, hA2, hL, hp⟩
  dsimp only at hkn hA2 hL hp ⊢
  have hll : l1.length ≤ 1048576 := by
    have := congrArg List.length hL
    rw [List.length_append, List.length_map] at this
    omega
  cases k with
  | zero =>
    rw [show rMany (rO s) 0 (A2, e2) = ([], A2, e2) from rfl] at hL hp
    cases hp
    rw [List.append_nil] at hL
    subst hL
    refine SQ (SQ (RG ?_))
    refine RR [] .z (.i 15 (.bool false) (.i 6 (.int .i64 0) (.d (.k .a)))) (.k (.k (.i (.blk r 166 [.bool true, .string (mkS s), .int .i64 (↑A9 : Int), .int .i64 e9]) .z))) ?_
    refine RZ (NT (CF (EX (TE (TE (BH (NT (SQ (RG ?_)))))))))
    refine RR [] .z (.i 4 (.slice a1 l1.length c1) .z) .a ?_
    refine RZ (NT (RE ?_))
    refine NE [0, 0, 0] .a .z [] (.slice a1 l1.length c1) ?_
    exact ⟨a1, c1, l1, rfl, rfl, rfl⟩
  | succ k =>
    by_cases he : e2 = 0
    · subst he
      rw [rMany_succ _ _ _ rfl] at hL hp
      have hg := goes_rO s (A2, 0) hA2
      refine SQ (SQ (RG ?_))
      refine RR [] (.d (.d (.d .a))) (.i 11 (.bool (decide ((↑(k + (1 : Nat)) : Int) > (0 : Int)))) .a) (.k (.k (.i (.blk r 166 [.bool true, .string (mkS s), .int .i64 (↑A2 : Int), .int .i64 0]) .z))) ?_
      refine SR 11 (decide ((↑(k + (1 : Nat)) : Int) > (0 : Int))) true (by simp) ?_
      refine RR [] (.d .a) (.i 12 (.pointer (some ⟨r, 0, none⟩)) (.k (.d (.k .a)))) .a ?_
      refine RC (dst := some 13) [2] (.k (.k .z)) (Err_spec r s A2 0) ?_
      rintro v _ ⟨rfl, rfl⟩
      refine RR [] .z (.i 15 (.bool true) (.d (.d (.d (.k .a))))) (.i (.blk r 166 [.bool true, .string (mkS s), .int .i64 (↑A2 : Int), .int .i64 0]) (.d (.k .a))) ?_
      refine RZ (NT (CT (SK (NT (SQ (BK (RG ?_)))))))
      refine RR [] (.d (.d (.d .a))) (.i 20 (.pointer (some ⟨r, 0, none⟩)) (.i 19 (Value.func (Fn.func 82) #[] #[]) (.i 18 (.slice a1 l1.length c1) (.d (.k .a))))) .a ?_
      refine wpr_callv (dst := some 21) (rest := [row 43 2 a1 l1.length c1 (List.flatMap objC l1), star (List.map obRow l1)]) (first := (#[])) (caps := (#[])) (args := [.pointer (some ⟨r, 0, none⟩)]) (f := 82) (by kernel_rfl) (by kernel_rfl) (readObj_spec r A2 s 0 hA2 hl) (give [0] (by kernel_rfl)) ?_
      rintro v _ ⟨o, ho, rfl, rfl⟩
      obtain ⟨⟨v, A3, e3⟩, hv⟩ : ∃ x, x = rO s (A2, 0) := ⟨_, rfl⟩
      rw [← hv] at hg hL hp ho ⊢
      dsimp only at hg hL hp ho ⊢
      refine RN [] (.d .a) 22 (fun g3 => (.slice (some ⟨g3, 0, none⟩) 1 1)) (.d (.d (.d (.k .a)))) (.i (.blk r 166 [.bool true, .string (mkS s), .int .i64 (↑A3 : Int), .int .i64 e3]) (.d (.k .a))) 43 [.string (mkS o.tag), .slice o.a o.cells.length o.c] fun g3 => ?_
      refine wpr_ent (ent_turn 4 (ro (some ⟨g3, 0, none⟩) (objC o)) rfl (turn_rblk (obj_one _)) rfl) ?_
      refine wpr_app (a := a1) (n := l1.length) (cap := c1) (x := (.slice (some ⟨g3, 0, none⟩) 1 1)) (t := 37) (xt := 37) (dst := some 23) (by kernel_rfl) (e := 43) (sz := 2) (bytes := 40) (by kernel_rfl) 2 (xs := (List.flatMap objC l1)) (by kernel_rfl) (m := 1) (news := (objC o)) (fun w h => src_ro h 4 rfl rfl (fun e => by cases e)) (by unfold maxLen; omega) (by omega) ?_
      intro a3 c3 hn3
      rw [objs_snoc, objs_n1 l1 o]
      refine RR [] .z (.i 5 (.slice a3 (l1 ++ [o]).length c3) (.d (.d (.d (.k (.d (.k .a))))))) .a ?_
      refine RZ (BN (NT (RG ?_)))
      refine RV true [] .z (.i 6 (.int .i64 ((↑(k + 1) : Int) - 1)) (.k (.d (.k .a)))) .a ([inI64 ((↑(k + (1 : Nat)) : Int) - (1 : Int))]) ⟨by unfold inI64; omega, trivial⟩ ?_
      refine RZ ?_
      refine nx_ent (Ent.trans (ent_hp [3, 1, 0, 0] rfl) (ent_star_snoc trivial)) ?_
      rw [show l1.map obRow ++ [obRow o] = (l1 ++ [o]).map obRow by simp]
      rw [show ((k + 1 : Nat) : Int) - 1 = (k : Int) from by omega]
      exact fun a' w' hS' => ⟨⟨(k, a3, c3, l1 ++ [o], A3, e3), by dsimp only; omega, hg.2.1, by rw [hL, List.map_append, List.append_assoc, ← ho]; rfl, hp⟩, by dsimp only; omega, ent_fr (by kernel_rfl) _ _ (ent_hp [2, 0, 0] rfl _ _ hS')⟩
    · rw [rMany_nil _ _ _ he] at hL hp
      cases hp
      rw [List.append_nil] at hL
      subst hL
      refine SQ (SQ (RG ?_))
      refine RR [] (.d (.d (.d .a))) (.i 11 (.bool (decide ((↑(k + (1 : Nat)) : Int) > (0 : Int)))) .a) (.k (.k (.i (.blk r 166 [.bool true, .string (mkS s), .int .i64 (↑A9 : Int), .int .i64 e9]) .z))) ?_
      refine SR 11 (decide ((↑(k + (1 : Nat)) : Int) > (0 : Int))) true (by simp) ?_
      refine RR [] (.d .a) (.i 12 (.pointer (some ⟨r, 0, none⟩)) (.k (.d (.k .a)))) .a ?_
      refine RC (dst := some 13) [2] (.k (.k .z)) (Err_spec r s A9 e9) ?_
      rintro v _ ⟨rfl, rfl⟩
      refine RR [] .z (.i 15 (.bool (e9 == (0 : Int))) (.d (.d (.d (.k .a))))) (.i (.blk r 166 [.bool true, .string (mkS s), .int .i64 (↑A9 : Int), .int .i64 e9]) (.d (.k .a))) ?_
      refine RZ (NT ?_)
      refine SC 15 (e9 == (0 : Int)) false (by simp only [bne_eq_false_iff_eq, beq_eq_false_iff_ne, ne_eq]; omega) ?_
      refine CF (EX (TE (TE (BH (NT (SQ (RG ?_)))))))
      refine RR [] .z (.i 4 (.slice a1 l1.length c1) .z) .a ?_
      refine RZ (NT (RE ?_))
      refine NE [1, 1, 0] (.i (row 43 2 a1 l1.length c1 (List.flatMap objC l1)) (.i (star (List.map obRow l1)) (.k .z))) .z [] (.slice a1 l1.length c1) ?_
      exact ⟨a1, c1, l1, rfl, rfl, rfl⟩
end Go.Proofs.YtpfhleghgkeemaaGreatDoor
namespace Go.Proofs.YtpfhleghgkeemaaGreatDoor
open Go Go.Sx
def clRows (x : Cl) : Hp := [row 28 3 x.sa x.slots.length x.sc (x.slots.flatMap valC), row 28 3 x.ta x.stack.length x.tc (x.stack.flatMap valC)]
theorem cls_snoc (l : List Cl) (o : Cl) : l.flatMap clC ++ clC o = (l ++ [o]).flatMap clC := by simp
theorem cls_n1 (l : List Cl) (o : Cl) : l.length + 1 = (l ++ [o]).length := by simp
theorem cl_one (o : Cl) : Sx.One (clC o) := by
  intro v hv
  simp only [clC, List.mem_cons, List.not_mem_nil, or_false] at hv
  rcases hv with rfl | rfl | rfl | rfl | rfl <;> rfl
theorem readCl_spec (r A : Nat) (s : List UInt8) (e : Int) (hA : A ≤ s.length) (hl : s.length ≤ 1099511627776) :
    Does Tryz.prog 80 [.pointer (some ⟨r, 0, none⟩)] [rdr r s A e] (fun v hp' => ∃ o : Cl, o.p = (rCl s (A, e)).1 ∧ v = .agg #[.int .i64 o.u, .int .i64 o.t, .int .i64 o.m, .slice o.sa o.slots.length o.sc, .slice o.ta o.stack.length o.tc] ∧ hp' = [rdr r s (rCl s (A, e)).2.1 (rCl s (A, e)).2.2] ++ clRows o) := by
  unfold rCl
  refine fn_enter Tryz.func80 rfl 14 rfl fun w0 h0 => ?_
  refine SQ (RG ?_)
  refine RP [] .z 2 .a (.i (.blk r 166 [.bool true, .string (mkS s), .int .i64 (↑A : Int), .int .i64 e]) .z) 124 [.int .i64 0, .int .i64 0, .int .i64 0, .slice none 0 0, .slice none 0 0] fun g1 => ?_
  refine RZ (NT (SQ (RG ?_)))
  refine RR [] (.d .a) (.i 3 (.pointer (some ⟨r, 0, none⟩)) .a) .a ?_
  have hu := goes_rI s (A, e) hA
  refine RC (dst := some 4) [0] (.d (.k .a)) (Int_spec r A s e hA hl) ?_
  rintro v _ ⟨rfl, rfl⟩
  obtain ⟨⟨u, Au, eu⟩, hxu⟩ : ∃ x, x = rI s (A, e) := ⟨_, rfl⟩
  have hyu : rd 0 A e (num (s.drop A)) = (u, Au, eu) := hxu.symm
  rw [← hxu] at hu ⊢
  rw [hyu]
  dsimp only at hu ⊢
  refine RR [] (.d .a) (.i 5 (.pointer (some ⟨r, 0, none⟩)) (.k (.d (.k .a)))) (.i (.blk r 166 [.bool true, .string (mkS s), .int .i64 (↑Au : Int), .int .i64 eu]) (.d (.k .a))) ?_
  have ht := goes_rI s (Au, eu) hu.2.1
  refine RC (dst := some 6) [0] (.d (.k .a)) (Int_spec r Au s eu hu.2.1 hl) ?_
  rintro v _ ⟨rfl, rfl⟩
  obtain ⟨⟨t, At, et⟩, hxt⟩ : ∃ x, x = rI s (Au, eu) := ⟨_, rfl⟩
  have hyt : rd 0 Au eu (num (s.drop Au)) = (t, At, et) := hxt.symm
  rw [← hxt] at ht ⊢
  rw [hyt]
  dsimp only at ht ⊢
  refine RR [] (.d .a) (.i 7 (.pointer (some ⟨r, 0, none⟩)) (.k (.d (.k .a)))) (.i (.blk r 166 [.bool true, .string (mkS s), .int .i64 (↑At : Int), .int .i64 et]) (.d (.k .a))) ?_
  have hm := goes_rI s (At, et) ht.2.1
  refine RC (dst := some 8) [0] (.d (.k .a)) (Int_spec r At s et ht.2.1 hl) ?_
  rintro v _ ⟨rfl, rfl⟩
  obtain ⟨⟨m, Am, em⟩, hxm⟩ : ∃ x, x = rI s (At, et) := ⟨_, rfl⟩
  have hym : rd 0 At et (num (s.drop At)) = (m, Am, em) := hxm.symm
  rw [← hxm] at hm ⊢
  rw [hym]
  dsimp only at hm ⊢
  refine RR [] (.d .a) (.i 9 (.pointer (some ⟨r, 0, none⟩)) (.k (.d (.k .a)))) (.i (.blk r 166 [.bool true, .string (mkS s), .int .i64 (↑Am : Int), .int .i64 em]) (.d (.k .a))) ?_
  have ha := goes_rVs s (Am, em) hm.2.1
  refine RC (dst := some 10) [0] (.d (.k .a)) (rowsV_spec r Am s em hm.2.1 hl) ?_
  rintro v _ ⟨qa, ca, rfl, rfl⟩
  obtain ⟨⟨la, Aa, ea⟩, hxa⟩ : ∃ x, x = rVs s (Am, em) := ⟨_, rfl⟩
  rw [← hxa] at ha ⊢
  dsimp only at ha ⊢
  refine RR [] (.d .a) (.i 11 (.pointer (some ⟨r, 0, none⟩)) (.k (.d (.k (.k (.k (.k .z))))))) (.k (.i (.blk r 166 [.bool true, .string (mkS s), .int .i64 (↑Aa : Int), .int .i64 ea]) (.d (.k .a)))) ?_
  have hb := goes_rVs s (Aa, ea) ha.2.1
  refine RC (dst := some 12) [1] (.k (.d (.k .a))) (rowsV_spec r Aa s ea ha.2.1 hl) ?_
  rintro v _ ⟨qb, cb, rfl, rfl⟩
  obtain ⟨⟨lb, Ab, eb⟩, hxb⟩ : ∃ x, x = rVs s (Aa, ea) := ⟨_, rfl⟩
  rw [← hxb] at hb ⊢
  dsimp only at hb ⊢
  refine RR [3, 3, 3, 3, 3] .z (.d (.d (.d (.d (.d (.d (.k .a))))))) (.k (.i (.blk r 166 [.bool true, .string (mkS s), .int .i64 (↑Ab : Int), .int .i64 eb]) (.d (.k (.u (.i (.int .i64 u) (.i (.int .i64 t) (.i (.int .i64 m) (.i (.slice qa la.length ca) (.i (.slice qb lb.length cb) .z))))) .a))))) ?_
  refine RZ (NT (RE ?_))
  refine NE [1, 1, 0] (.i (.blk r 166 [.bool true, .string (mkS s), .int .i64 (↑Ab : Int), .int .i64 eb]) (.i (row 28 3 qa la.length ca (List.flatMap valC la)) (.k .z))) (.d (.d (.d (.k .a)))) [3, 3, 3, 3, 3] (.agg #[.int .i64 u, .int .i64 t, .int .i64 m, .slice qa la.length ca, .slice qb lb.length cb]) ?_
  exact ⟨⟨u, t, m, qa, ca, la, qb, cb, lb⟩, rfl, rfl, rfl⟩
theorem rowsC_spec (r A : Nat) (s : List UInt8) (e : Int) (hA : A ≤ s.length) (hl : s.length ≤ 1099511627776) :
    Does Tryz.prog 79 [.pointer (some ⟨r, 0, none⟩), .func (.func 80) #[] #[]] [rdr r s A e]
      (fun v hp' => ∃ a c, ∃ l' : List Cl, l'.map Cl.p = (rRows s (rCl s) (A, e)).1 ∧ v = .slice a l'.length c ∧ hp' = [row 124 5 a l'.length c (l'.flatMap clC), star (l'.flatMap clRows), rdr r s (rRows s (rCl s) (A, e)).2.1 (rRows s (rCl s) (A, e)).2.2]) := by
  obtain ⟨g1, g2, -, -⟩ := goes_rC s 1048576 (A, e) hA
  unfold rRows
  refine fn_enter Tryz.func79 rfl 25 rfl fun w0 h0 => ?_
  refine SQ (RG ?_)
  refine RR [] .z (.i 4 (.slice none 0 0) .a) (.i (.blk r 166 [.bool true, .string (mkS s), .int .i64 (↑A : Int), .int .i64 e]) .z) ?_
  refine RZ (NT (SQ (RG ?_)))
  refine RR [] .z (.i 5 (.slice none 0 0) .a) .a ?_
  refine RZ (NT (SQ (SQ (RG ?_))))
  refine RR [] (.d .a) (.i 7 (.pointer (some ⟨r, 0, none⟩)) .a) .a ?_
  refine RCA (dst := some 8) (RdCount_spec r A s e 1048576 hA hl) ?_
  rintro v _ ⟨rfl, rfl⟩
  obtain ⟨⟨k, A1, e1⟩, hx⟩ : ∃ x, x = rC s 1048576 (A, e) := ⟨_, rfl⟩
  have hx2 : rd 0 A e (cnt (s.drop A) 1048576) = (k, A1, e1) := hx.symm
  rw [← hx] at g1 g2 ⊢
  rw [hx2]
  dsimp only at g1 g2 ⊢
  have hk := rC_rng s (A, e)
  rw [← hx] at hk
  dsimp only at hk
  obtain ⟨n, rfl⟩ := Int.eq_ofNat_of_zero_le hk.1
  obtain ⟨⟨L, A9, e9⟩, ht⟩ : ∃ x, x = rMany (rCl s) (n : Int).toNat (A1, e1) := ⟨_, rfl⟩
  rw [← ht]
  rw [Int.toNat_natCast] at ht
  have hln := many_len (goes_rCl s) n (A1, e1) g2
  rw [← ht] at hln
  dsimp only at hln ⊢
  refine RR [] .z (.i 6 (.int .i64 (↑n : Int)) (.d (.d (.k .a)))) (.i (.blk r 166 [.bool true, .string (mkS s), .int .i64 (↑A1 : Int), .int .i64 e1]) .z) ?_
  refine RZ (NT (BK ?_))
  refine wpc_loop (X := {x : Nat × Option Addr × Nat × List Cl × Nat × Int // x.1 ≤ n ∧ x.2.2.2.2.1 ≤ s.length ∧ L = x.2.2.2.1.map Cl.p ++ (rMany (rCl s) x.1 x.2.2.2.2).1 ∧ (A9, e9) = (rMany (rCl s) x.1 x.2.2.2.2).2}) (fun x => St.mk [(6, .int .i64 (x.1.1 : Int)), (5, .slice x.1.2.1 x.1.2.2.2.1.length x.1.2.2.1), (4, .slice none 0 0), (0, .pointer (some ⟨r, 0, none⟩)), (1, .func (.func 80) #[] #[])]
    [row 124 5 x.1.2.1 x.1.2.2.2.1.length x.1.2.2.1 (x.1.2.2.2.1.flatMap clC), star (x.1.2.2.2.1.flatMap clRows), rdr r s x.1.2.2.2.2.1 x.1.2.2.2.2.2]) (fun x => x.1.1) ⟨(n, none, 0, [], A1, e1), Nat.le_refl _, g2, by rw [← ht]; rfl, by rw [← ht]⟩ ?_ ?_
  · exact Ent.trans ent_star_nil (Ent.trans (ent_nil 124 5) (ent_fr (by kernel_rfl)))
  rintro ⟨⟨k, a1, c1, l1, A2, e2⟩, hkn, hA2, hL, hp⟩
  dsimp only at hkn hA2 hL hp ⊢
  have hll : l1.length ≤ 1048576 := by
    have := congrArg List.length hL
    rw [List.length_append, List.length_map] at this
    omega
  cases k with
  | zero =>
    rw [show rMany (rCl s) 0 (A2, e2) = ([], A2, e2) from rfl] at hL hp
    cases hp
    rw [List.append_nil] at hL
    subst hL
    refine SQ (SQ (RG ?_))
    refine RR [] .z (.i 15 (.bool false) (.i 6 (.int .i64 0) (.d (.k .a)))) (.k (.k (.i (.blk r 166 [.bool true, .string (mkS s), .int .i64 (↑A9 : Int), .int .i64 e9]) .z))) ?_
    refine RZ (NT (CF (EX (TE (TE (BH (NT (SQ (RG ?_)))))))))
    refine RR [] .z (.i 4 (.slice a1 l1.length c1) .z) .a ?_
    refine RZ (NT (RE ?_))
    refine NE [0, 0, 0] .a .z [] (.slice a1 l1.length c1) ?_
    exact ⟨a1, c1, l1, rfl, rfl, rfl⟩
  | succ k =>
    by_cases he : e2 = 0
    · subst he
      rw [rMany_succ _ _ _ rfl] at hL hp
      have hg := goes_rCl s (A2, 0) hA2
      refine SQ (SQ (RG ?_))
      refine RR [] (.d (.d (.d .a))) (.i 11 (.bool (decide ((↑(k + (1 : Nat)) : Int) > (0 : Int)))) .a) (.k (.k (.i (.blk r 166 [.bool true, .string (mkS s), .int .i64 (↑A2 : Int), .int .i64 0]) .z))) ?_
      refine SR 11 (decide ((↑(k + (1 : Nat)) : Int) > (0 : Int))) true (by simp) ?_
      refine RR [] (.d .a) (.i 12 (.pointer (some ⟨r, 0, none⟩)) (.k (.d (.k .a)))) .a ?_
      refine RC (dst := some 13) [2] (.k (.k .z)) (Err_spec r s A2 0) ?_
      rintro v _ ⟨rfl, rfl⟩
      refine RR [] .z (.i 15 (.bool true) (.d (.d (.d (.k .a))))) (.i (.blk r 166 [.bool true, .string (mkS s), .int .i64 (↑A2 : Int), .int .i64 0]) (.d (.k .a))) ?_
      refine RZ (NT (CT (SK (NT (SQ (BK (RG ?_)))))))
      refine RR [] (.d (.d (.d .a))) (.i 20 (.pointer (some ⟨r, 0, none⟩)) (.i 19 (Value.func (Fn.func 80) #[] #[]) (.i 18 (.slice a1 l1.length c1) (.d (.k .a))))) .a ?_
      refine wpr_callv (dst := some 21) (rest := [row 124 5 a1 l1.length c1 (List.flatMap clC l1), star (List.flatMap clRows l1)]) (first := (#[])) (caps := (#[])) (args := [.pointer (some ⟨r, 0, none⟩)]) (f := 80) (by kernel_rfl) (by kernel_rfl) (readCl_spec r A2 s 0 hA2 hl) (give [0] (by kernel_rfl)) ?_
      rintro v _ ⟨o, ho, rfl, rfl⟩
      rw [show clRows o = [row 28 3 o.sa o.slots.length o.sc (o.slots.flatMap valC), row 28 3 o.ta o.stack.length o.tc (o.stack.flatMap valC)] from rfl]
      obtain ⟨⟨v, A3, e3⟩, hv⟩ : ∃ x, x = rCl s (A2, 0) := ⟨_, rfl⟩
      rw [← hv] at hg hL hp ho ⊢
      dsimp only at hg hL hp ho ⊢
      refine RN [] (.d .a) 22 (fun g3 => (.slice (some ⟨g3, 0, none⟩) 1 1)) (.d (.d (.d (.k .a)))) (.i (.blk r 166 [.bool true, .string (mkS s), .int .i64 (↑A3 : Int), .int .i64 e3]) (.d (.k .a))) 124 [.int .i64 o.u, .int .i64 o.t, .int .i64 o.m, .slice o.sa o.slots.length o.sc, .slice o.ta o.stack.length o.tc] fun g3 => ?_
      refine wpr_ent (ent_turn 5 (ro (some ⟨g3, 0, none⟩) (clC o)) rfl (turn_rblk (cl_one _)) rfl) ?_
      refine wpr_app (a := a1) (n := l1.length) (cap := c1) (x := (.slice (some ⟨g3, 0, none⟩) 1 1)) (t := 73) (xt := 73) (dst := some 23) (by kernel_rfl) (e := 124) (sz := 5) (bytes := 72) (by kernel_rfl) 3 (xs := (List.flatMap clC l1)) (by kernel_rfl) (m := 1) (news := (clC o)) (fun w h => src_ro h 5 rfl rfl (fun e => by cases e)) (by unfold maxLen; omega) (by omega) ?_
      intro a3 c3 hn3
      rw [cls_snoc, cls_n1 l1 o]
      refine RR [] .z (.i 5 (.slice a3 (l1 ++ [o]).length c3) (.d (.d (.d (.k (.d (.k .a))))))) .a ?_
      refine RZ (BN (NT (RG ?_)))
      refine RV true [] .z (.i 6 (.int .i64 ((↑(k + 1) : Int) - 1)) (.k (.d (.k .a)))) .a ([inI64 ((↑(k + (1 : Nat)) : Int) - (1 : Int))]) ⟨by unfold inI64; omega, trivial⟩ ?_
      refine RZ ?_
      refine nx_ent (Ent.trans (ent_hp [4, 1, 1, 0, 0] rfl) (Ent.trans (ent_star_snoc trivial) (ent_star_snoc trivial))) ?_
      rw [show l1.flatMap clRows ++ [row 28 3 o.sa o.slots.length o.sc (o.slots.flatMap valC)] ++ [row 28 3 o.ta o.stack.length o.tc (o.stack.flatMap valC)] = (l1 ++ [o]).flatMap clRows by simp [clRows]]
      rw [show ((k + 1 : Nat) : Int) - 1 = (k : Int) from by omega]
      exact fun a' w' hS' => ⟨⟨(k, a3, c3, l1 ++ [o], A3, e3), by dsimp only; omega, hg.2.1, by rw [hL, List.map_append, List.append_assoc, ← ho]; rfl, hp⟩, by dsimp only; omega, ent_fr (by kernel_rfl) _ _ (ent_hp [2, 0, 0] rfl _ _ hS')⟩
    · rw [rMany_nil _ _ _ he] at hL hp
      cases hp
      rw [List.append_nil] at hL
      subst hL
      refine SQ (SQ (RG ?_))
      refine RR [] (.d (.d (.d .a))) (.i 11 (.bool (decide ((↑(k + (1 : Nat)) : Int) > (0 : Int)))) .a) (.k (.k (.i (.blk r 166 [.bool true, .string (mkS s), .int .i64 (↑A9 : Int), .int .i64 e9]) .z))) ?_
      refine SR 11 (decide ((↑(k + (1 : Nat)) : Int) > (0 : Int))) true (by simp) ?_
      refine RR [] (.d .a) (.i 12 (.pointer (some ⟨r, 0, none⟩)) (.k (.d (.k .a)))) .a ?_
      refine RC (dst := some 13) [2] (.k (.k .z)) (Err_spec r s A9 e9) ?_
      rintro v _ ⟨rfl, rfl⟩
      refine RR [] .z (.i 15 (.bool (e9 == (0 : Int))) (.d (.d (.d (.k .a))))) (.i (.blk r 166 [.bool true, .string (mkS s), .int .i64 (↑A9 : Int), .int .i64 e9]) (.d (.k .a))) ?_
      refine RZ (NT ?_)
      refine SC 15 (e9 == (0 : Int)) false (by simp only [bne_eq_false_iff_eq, beq_eq_false_iff_ne, ne_eq]; omega) ?_
      refine CF (EX (TE (TE (BH (NT (SQ (RG ?_)))))))
      refine RR [] .z (.i 4 (.slice a1 l1.length c1) .z) .a ?_
      refine RZ (NT (RE ?_))
      refine NE [1, 1, 0] (.i (row 124 5 a1 l1.length c1 (List.flatMap clC l1)) (.i (star (List.flatMap clRows l1)) (.k .z))) .z [] (.slice a1 l1.length c1) ?_
      exact ⟨a1, c1, l1, rfl, rfl, rfl⟩
end Go.Proofs.YtpfhleghgkeemaaGreatDoor
namespace Go.Proofs.YtpfhleghgkeemaaGreatDoor
open Go Go.Sx
/-! What is read is of the machine, and no more than the bytes. -/
theorem rV_ok (s : List UInt8) (p : At2) : (rV s p).1.ok := by
  unfold rV V.ok
  split
  · exact ⟨rI_rng s p, rI_rng s _, Nat.zero_le _⟩
  · split
    · refine ⟨rI_rng s p, ⟨by dsimp only; omega, by dsimp only; omega⟩, ?_⟩
      have := rT_len s 255 (by omega) (rI s p).2
      dsimp only; omega
    · exact ⟨rI_rng s p, ⟨by dsimp only; omega, by dsimp only; omega⟩, Nat.zero_le _⟩
theorem usedN_sum (l : List O) : usedO l = (l.map fun o => o.2.length + 1).foldr (· + ·) 0 := by
  induction l with
  | nil => rfl
  | cons x l ih => show x.2.length + 1 + usedO l = _; rw [ih]; rfl
theorem rO_used (s : List UInt8) (p : At2) (hp : p.1 ≤ s.length) : usedO (rRows s (rO s) p).1 ≤ 3 * s.length + 2 := by
  have h1 := goes_rC s 1048576 p hp
  have h3 := many_sum (fun o : O => o.2.length + 1) (goes_rO s) (fun q hq => by
    have a1 := goes_rT s 255 q hq
    have a2 := rows_len (goes_rV s) _ a1.2.1
    show (rVs s (rT s 255 q).2).1.length + 1 + q.1 ≤ (rVs s (rT s 255 q).2).2.1 + 2
    unfold rVs
    omega) (rC s 1048576 p).1.toNat _ h1.2.1
  have h4 := rows_len (goes_rO s) p hp
  have h5 := goes_rows (goes_rO s) p hp
  rw [usedN_sum]
  unfold rRows at h4 h5 ⊢
  omega
theorem rVs_ok (s : List UInt8) (p : At2) : (rVs s p).1.length ≤ 1048576 ∧ ∀ v ∈ (rVs s p).1, v.ok := by
  have h1 := many_lenk (rV s) (rC s 1048576 p).1.toNat (rC s 1048576 p).2
  have h2 := rC_rng s p
  exact ⟨Nat.le_trans h1 (by omega), many_all (rV_ok s) _ _⟩
def okC (x : C5) : Prop := i64r x.1 ∧ i64r x.2.1 ∧ i64r x.2.2.1 ∧ x.2.2.2.1.length ≤ 1048576 ∧ x.2.2.2.2.length ≤ 1048576 ∧ (∀ v ∈ x.2.2.2.1, v.ok) ∧ ∀ v ∈ x.2.2.2.2, v.ok
def okO (o : O) : Prop := o.1.length ≤ 255 ∧ o.2.length ≤ 1048576 ∧ ∀ v ∈ o.2, v.ok
theorem rCl_ok (s : List UInt8) (p : At2) : okC (rCl s p).1 :=
  ⟨rI_rng s _, rI_rng s _, rI_rng s _, (rVs_ok s _).1, (rVs_ok s _).1, (rVs_ok s _).2, (rVs_ok s _).2⟩
theorem rO_ok (s : List UInt8) (p : At2) : okO (rO s p).1 :=
  ⟨by have := rT_len s 255 (by omega) p; show (rT s 255 p).1.length ≤ 255; omega, (rVs_ok s _).1, (rVs_ok s _).2⟩
end Go.Proofs.YtpfhleghgkeemaaGreatDoor
namespace Go.Proofs.YtpfhleghgkeemaaGreatDoor
open Go Go.Sx
theorem view_gCl {l : List Cl} : View (star (l.flatMap clRows)) (gCl l) := view_star_sub fun c' hc' => by
  obtain ⟨o, ho, hc'⟩ := List.mem_flatMap.1 hc'
  simp only [clRo, List.mem_cons, List.not_mem_nil, or_false] at hc'
  rcases hc' with rfl | rfl
  · exact ⟨_, List.mem_flatMap.2 ⟨o, ho, List.mem_cons_self ..⟩, view_row.holds, view_row.own⟩
  · exact ⟨_, List.mem_flatMap.2 ⟨o, ho, List.mem_cons_of_mem _ (List.mem_cons_self ..)⟩, view_row.holds, view_row.own⟩
theorem cap_star {hp : Hp} {w : World} (h : HS hp w) (i : Nat) {l : List Ob} (hi : hp[i]? = some (star (l.map obRow))) : ∀ o ∈ l, o.cells.length ≤ o.c := fun o ho => by
  have h1 : HS (l.map obRow) w := (h.holds _ (List.mem_of_getElem? hi)).1
  exact (h1.holds _ (List.mem_map.2 ⟨o, ho, rfl⟩)).2.1
def loadE (bs : List UInt8) : Int :=
  if endE bs (rS bs (0, 0)).2.1 (rS bs (0, 0)).2.2 ≠ 0 then endE bs (rS bs (0, 0)).2.1 (rS bs (0, 0)).2.2 else if mayB (rS bs (0, 0)).1 then 0 else 2
def noS : SP := ⟨0, 0, 0, [], [], [], 0⟩
def loadS (bs : List UInt8) : SP := if loadE bs = 0 then (rS bs (0, 0)).1 else noS
def noSv : Sv := ⟨0, 0, 0, none, 0, [], none, 0, [], [], 0⟩
theorem noSv_ok : noSv.ok := by
  unfold noSv Sv.ok i64r
  exact ⟨⟨by dsimp only; omega, by dsimp only; omega⟩, ⟨by dsimp only; omega, by dsimp only; omega⟩, ⟨by dsimp only; omega, by dsimp only; omega⟩, ⟨by dsimp only; omega, by dsimp only; omega⟩, Nat.zero_le _, fun x hx => (List.not_mem_nil hx).elim, Nat.zero_le _, fun x hx => (List.not_mem_nil hx).elim, fun x hx => (List.not_mem_nil hx).elim, Nat.zero_le _, Nat.zero_le _⟩
def svH (s : Sv) : Hp := [row 124 5 s.ca s.cl.length s.cc (s.cl.flatMap clC), star (s.cl.flatMap clRows), row 43 2 s.ha s.hl.length s.hc (s.hl.flatMap objC), star (s.hl.map obRow)]
theorem snapLoad_spec (a : Option Addr) (c : Nat) (bs : List UInt8) (ha : a = none → bs = []) (hl : bs.length ≤ 134217728) :
    Does Tryz.prog 44 [.slice a bs.length c] [ro a (u8s bs), gWords] (fun v hp' => ∃ s : Sv, s.p = loadS bs ∧ s.ok ∧ v = .tuple #[.agg (svC s).toArray, .int .i64 (loadE bs)] ∧ hp' = svH s) := by
  refine fn_enter Tryz.func44 rfl 42 rfl fun w0 h0 => ?_
  refine SQ (RG ?_)
  refine RP [] (.d .a) 2 .a .a 75 [.int .i64 0, .int .i64 0, .int .i64 0, .slice none 0 0, .slice none 0 0, .string ⟨#[]⟩, .int .i64 0] fun g1 => ?_
  refine RR [] .z (.i 3 (.int .i64 0) .a) .a ?_
  refine RZ (NT (SQ (RG ?_)))
  refine RR [] (.d .a) (.i 8 (.slice a bs.length c) (.k (.k .z))) .a ?_
  refine RCG (dst := some 9) .a (NewReader_spec a c bs ha) (GV (GI []) 0 view_ro) ?_
  rintro v _ ⟨r, rfl, rfl⟩
  refine RR [] .z (.i 4 (.pointer (some ⟨r, 0, none⟩)) (.d (.d (.k .a)))) (.i (.blk r 166 [.bool true, .string (mkS bs), .int .i64 0, .int .i64 0]) (.d (.k .a))) ?_
  refine RZ (NT (SQ (RG ?_)))
  refine RR [] (.d .a) (.i 10 (.pointer (some ⟨r, 0, none⟩)) .a) .a ?_
  have hp := goes_rI bs (0, 0) (Nat.zero_le _)
  refine RC (dst := some 11) [0] (.d (.k .a)) (Int_spec r 0 bs 0 (Nat.zero_le _) (by omega)) ?_
  rintro v _ ⟨rfl, rfl⟩
  obtain ⟨⟨p, Ap, ep⟩, hxp⟩ : ∃ x, x = rI bs (0, 0) := ⟨_, rfl⟩
  have hyp : rd 0 0 0 (num (bs.drop 0)) = (p, Ap, ep) := hxp.symm
  rw [← hxp] at hp
  rw [hyp]
  dsimp only at hp ⊢
  refine RR [] (.d .a) (.i 12 (.pointer (some ⟨r, 0, none⟩)) (.k (.d (.k .a)))) (.i (.blk r 166 [.bool true, .string (mkS bs), .int .i64 (↑Ap : Int), .int .i64 ep]) (.d (.k .a))) ?_
  have ht := goes_rI bs (Ap, ep) hp.2.1
  refine RC (dst := some 13) [0] (.d (.k .a)) (Int_spec r Ap bs ep hp.2.1 (by omega)) ?_
  rintro v _ ⟨rfl, rfl⟩
  obtain ⟨⟨t, At, et⟩, hxt⟩ : ∃ x, x = rI bs (Ap, ep) := ⟨_, rfl⟩
  have hyt : rd 0 Ap ep (num (bs.drop Ap)) = (t, At, et) := hxt.symm
  rw [← hxt] at ht
  rw [hyt]
  dsimp only at ht ⊢
  refine RR [] (.d .a) (.i 14 (.pointer (some ⟨r, 0, none⟩)) (.k (.d (.k .a)))) (.i (.blk r 166 [.bool true, .string (mkS bs), .int .i64 (↑At : Int), .int .i64 et]) (.d (.k .a))) ?_
  have hf := goes_rI bs (At, et) ht.2.1
  refine RC (dst := some 15) [0] (.d (.k .a)) (Int_spec r At bs et ht.2.1 (by omega)) ?_
  rintro v _ ⟨rfl, rfl⟩
  obtain ⟨⟨f, Af, ef⟩, hxf⟩ : ∃ x, x = rI bs (At, et) := ⟨_, rfl⟩
  have hyf : rd 0 At et (num (bs.drop At)) = (f, Af, ef) := hxf.symm
  rw [← hxf] at hf
  rw [hyf]
  dsimp only at hf ⊢
  refine RP [] (.d (.d .a)) 5 (.i 16 (.agg #[.int .i64 p, .int .i64 t, .int .i64 f, .slice none 0 0, .slice none 0 0, .string ⟨#[]⟩, .int .i64 0]) (.d (.d (.d (.d (.k .a)))))) (.i (.blk r 166 [.bool true, .string (mkS bs), .int .i64 (↑Af : Int), .int .i64 ef]) (.d (.k .a))) 75 [.int .i64 0, .int .i64 0, .int .i64 0, .slice none 0 0, .slice none 0 0, .string ⟨#[]⟩, .int .i64 0] fun g2 => ?_
  refine RR [4, 4, 4, 4, 4, 4, 4] .z (.k (.d (.k .a))) (.k (.k (.k (.k (.u (.i (.int .i64 p) (.i (.int .i64 t) (.i (.int .i64 f) (.d (.d (.d (.k .a))))))) .a))))) ?_
  refine RZ (NT (SQ (RG ?_)))
  refine RR [] (.d .a) (.i 17 (.pointer (some ⟨r, 0, none⟩)) .a) .a ?_
  have hd := goes_rI bs (Af, ef) hf.2.1
  refine RC (dst := some 18) [0] (.d (.k .a)) (Int_spec r Af bs ef hf.2.1 (by omega)) ?_
  rintro v _ ⟨rfl, rfl⟩
  obtain ⟨⟨d, Ad, ed⟩, hxd⟩ : ∃ x, x = rI bs (Af, ef) := ⟨_, rfl⟩
  have hyd : rd 0 Af ef (num (bs.drop Af)) = (d, Ad, ed) := hxd.symm
  rw [← hxd] at hd
  rw [hyd]
  dsimp only at hd ⊢
  refine RR [4] .z (.d (.d (.k .a))) (.i (.blk r 166 [.bool true, .string (mkS bs), .int .i64 (↑Ad : Int), .int .i64 ed]) (.d (.k (.k (.k (.u (.k (.k (.k (.k (.k (.k (.i (.int .i64 d) .z))))))) .a)))))) ?_
  refine RZ (NT (SQ (RG ?_)))
  refine RR [] (.d .a) (.i 20 (.pointer (some ⟨r, 0, none⟩)) .a) .a ?_
  have ho := goes_rT bs 4096 (Ad, ed) hd.2.1
  refine RC (dst := some 21) [0] (.d (.k .a)) (Text_spec r Ad bs ed 4096 hd.2.1 (by omega)) ?_
  rintro v _ ⟨rfl, rfl⟩
  obtain ⟨⟨o, Ao, eo⟩, hxo⟩ : ∃ x, x = rT bs 4096 (Ad, ed) := ⟨_, rfl⟩
  have hyo : rd [] Ad ed (txW (bs.drop Ad) 4096) = (o, Ao, eo) := hxo.symm
  rw [← hxo] at ho
  rw [hyo]
  dsimp only at ho ⊢
  refine RR [4] .z (.d (.d (.k .a))) (.i (.blk r 166 [.bool true, .string (mkS bs), .int .i64 (↑Ao : Int), .int .i64 eo]) (.d (.k (.k (.k (.u (.k (.k (.k (.k (.k (.i (.string (mkS o)) (.d (.k .a)))))))) .a)))))) ?_
  refine RZ (NT (SQ (RG ?_)))
  refine RR [] (.d .a) (.i 23 (.pointer (some ⟨r, 0, none⟩)) .a) .a ?_
  have hc := goes_rows (goes_rCl bs) (Ao, eo) ho.2.1
  refine RC (dst := some 24) [0] (.d (.k .a)) (rowsC_spec r Ao bs eo ho.2.1 (by omega)) ?_
  rintro v _ ⟨qc, cc, lc, hlc, rfl, rfl⟩
  obtain ⟨⟨Lc, Ac, ec⟩, hxc⟩ : ∃ x, x = rRows bs (rCl bs) (Ao, eo) := ⟨_, rfl⟩
  rw [← hxc] at hc hlc ⊢
  dsimp only at hc hlc ⊢
  refine RR [6] .z (.d (.d (.k .a))) (.k (.k (.i (.blk r 166 [.bool true, .string (mkS bs), .int .i64 (↑Ac : Int), .int .i64 ec]) (.d (.k (.k (.k (.u (.k (.k (.k (.i (.slice qc lc.length cc) (.d (.k .a)))))) .a)))))))) ?_
  refine RZ (NT (SQ (RG ?_)))
  refine RR [] (.d .a) (.i 26 (.pointer (some ⟨r, 0, none⟩)) .a) .a ?_
  have hb := goes_rows (goes_rO bs) (Ac, ec) hc.2.1
  refine RC (dst := some 27) [2] (.k (.k (.d (.k .a)))) (rowsO_spec r Ac bs ec hc.2.1 (by omega)) ?_
  rintro v _ ⟨qb, cb, lb, hlb, rfl, rfl⟩
  obtain ⟨⟨Lb, Ab, eb⟩, hxb⟩ : ∃ x, x = rRows bs (rO bs) (Ac, ec) := ⟨_, rfl⟩
  rw [← hxb] at hb hlb ⊢
  dsimp only at hb hlb ⊢
  refine RR [8] .z (.d (.d (.k .a))) (.k (.k (.i (.blk r 166 [.bool true, .string (mkS bs), .int .i64 (↑Ab : Int), .int .i64 eb]) (.d (.k (.k (.k (.k (.k (.u (.k (.k (.k (.k (.i (.slice qb lb.length cb) (.d (.k .a))))))) .a)))))))))) ?_
  refine RZ (NT (SQ (SQ (RG ?_))))
  refine RR [] (.d .a) (.i 29 (.pointer (some ⟨r, 0, none⟩)) (.k (.d (.k .a)))) .a ?_
  refine RC (dst := some 30) [2] (.k (.k (.d (.k .a)))) (End_spec r bs Ab eb) ?_
  rintro v _ ⟨rfl, rfl⟩
  refine RR [] .z (.i 6 (.int .i64 (endE bs (↑Ab : Int) eb)) (.d (.d (.k .a)))) (.i (.blk r 166 [.bool true, .string (mkS bs), .int .i64 (↑Ab : Int), .int .i64 eb]) (.d (.k .a))) ?_
  refine RZ (NT (SQ (RG ?_)))
  refine RR [] .z (.i 32 (.bool (endE bs (↑Ab : Int) eb != (0 : Int))) .a) .a ?_
  refine RZ (NT ?_)
  have hS : rS bs (0, 0) = (⟨p, t, f, Lc, Lb, o, d⟩, Ab, eb) := by
    unfold rS
    rw [← hxp]; dsimp only
    rw [← hxt]; dsimp only
    rw [← hxf]; dsimp only
    rw [← hxd]; dsimp only
    rw [← hxo]; dsimp only
    rw [← hxc]; dsimp only
    rw [← hxb]
  obtain ⟨E, hE⟩ : ∃ E, E = endE bs Ab eb := ⟨_, rfl⟩
  have hLE : loadE bs = if E ≠ 0 then E else if mayB ⟨p, t, f, Lc, Lb, o, d⟩ then 0 else 2 := by unfold loadE; rw [hS, hE]
  rw [← hE]
  by_cases hE0 : E ≠ 0
  · rw [if_pos hE0] at hLE
    have hLS : loadS bs = noS := by unfold loadS; rw [hLE, if_neg hE0]
    rw [hLE, hLS]
    refine SC 32 (E != (0 : Int)) true (by simp only [bne_iff_ne, beq_iff_eq, ne_eq]; omega) ?_
    refine CT (SQ (RG ?_))
    refine RR [7, 7, 7, 7, 7, 7, 7] .z (.i 3 (.int .i64 E) (.d (.d (.d (.k (.d (.k .a))))))) .a ?_
    refine RZ (NT (RE (TR ?_)))
    refine nx_ent (Ent.trans ent_star_nil (Ent.trans (ent_nil 43 2) (Ent.trans ent_star_nil (ent_nil 124 5)))) ?_
    refine NE [0, 0, 0, 0] (.k (.k (.k (.k .z)))) (.d (.d (.d (.d (.k .a))))) [11, 11, 11, 11, 11, 11, 11] (.tuple #[.agg #[.int .i64 0, .int .i64 0, .int .i64 0, .slice none 0 0, .slice none 0 0, .string ⟨#[]⟩, .int .i64 0], .int .i64 E]) ?_
    exact ⟨noSv, rfl, noSv_ok, rfl, rfl⟩
  · rw [if_neg hE0] at hLE
    have hE1 := Classical.not_not.1 hE0
    subst hE1
    refine CF (SK (NT (SQ (SQ (RG ?_)))))
    refine RR [8, 8, 8, 8, 8, 8, 8] (.d .a) (.i 35 (.agg #[.int .i64 p, .int .i64 t, .int .i64 f, .slice qc lc.length cc, .slice qb lb.length cb, .string (mkS o), .int .i64 d]) (.d (.d (.k .a)))) .a ?_
    refine wpr_fact (fun w h => cap_star h 2 rfl) fun hcap => ?_
    have hrc := rows_len (goes_rCl bs) (Ao, eo) ho.2.1
    have hro := rows_len (goes_rO bs) (Ac, ec) hc.2.1
    have hru := rO_used bs (Ac, ec) hc.2.1
    have hCo := rows_all (s := bs) (rCl_ok bs) (Ao, eo)
    have hOo := rows_all (s := bs) (rO_ok bs) (Ac, ec)
    rw [← hxc] at hrc hCo
    rw [← hxb] at hro hru hOo
    dsimp only at hrc hro hru hCo hOo
    have hsok : Sv.ok ⟨p, t, f, qc, cc, lc, qb, cb, lb, o, d⟩ := by
      have e1 : lc.length = Lc.length := by rw [← hlc, List.length_map]
      have e2 : lb.length = Lb.length := by rw [← hlb, List.length_map]
      have r1 := rI_rng bs (0, 0)
      have r2 := rI_rng bs (Ap, ep)
      have r3 := rI_rng bs (At, et)
      have r4 := rI_rng bs (Af, ef)
      have r5 := rT_len bs 4096 (by omega) (Ad, ed)
      rw [← hxp] at r1
      rw [← hxt] at r2
      rw [← hxf] at r3
      rw [← hxd] at r4
      rw [← hxo] at r5
      refine ⟨r1, r2, r3, r4, by dsimp only; omega, fun x hx => ?_, by dsimp only; omega, fun x hx => ?_, fun x hx => ?_, by dsimp only at r5 ⊢; omega, by dsimp only; rw [hlb]; omega⟩
      · have := hCo x.p (hlc ▸ List.mem_map.2 ⟨x, hx, rfl⟩)
        exact this
      · have h3 := hOo x.o (hlb ▸ List.mem_map.2 ⟨x, hx, rfl⟩)
        have h4 : x.tag.length ≤ 255 := h3.1
        exact ⟨by omega, hcap x hx, h3.2.1, fun v hv => vsm (h3.2.2 v hv)⟩
      · exact (hOo x.o (hlb ▸ List.mem_map.2 ⟨x, hx, rfl⟩)).2.2
    have hck := snapCheck_spec _ hsok
    unfold svC at hck
    rw [show Sv.p ⟨p, t, f, qc, cc, lc, qb, cb, lb, o, d⟩ = ⟨p, t, f, Lc, Lb, o, d⟩ from by unfold Sv.p; dsimp only; rw [hlc, hlb]] at hck
    dsimp only at hck
    refine RCG (dst := some 36) .a (hck) (GV (GV (GV (GV (GV (GI []) 6 view_ro) 2 view_gBag) 1 view_row) 4 view_gCl) 3 view_row) ?_
    rintro v _ ⟨rfl, rfl⟩
    cases hm : mayB ⟨p, t, f, Lc, Lb, o, d⟩ with
    | false =>
      rw [hm] at hLE
      have hLS : loadS bs = noS := by unfold loadS; rw [hLE]; rfl
      rw [hLE, hLS]
      refine RR [] .z (.i 7 (.int .i64 2) (.d (.d (.k .a)))) .a ?_
      refine RZ (NT (SQ (RG ?_)))
      refine RR [] .z (.i 38 (.bool true) .a) .a ?_
      refine RZ (NT (CT (SQ (RG ?_))))
      refine RR [7, 7, 7, 7, 7, 7, 7] .z (.i 3 (.int .i64 2) (.d (.d (.k (.d (.k .a)))))) .a ?_
      refine RZ (NT (RE (TR ?_)))
      refine nx_ent (Ent.trans ent_star_nil (Ent.trans (ent_nil 43 2) (Ent.trans ent_star_nil (ent_nil 124 5)))) ?_
      refine NE [0, 0, 0, 0] (.k (.k (.k (.k .z)))) (.d (.d (.d (.d (.k .a))))) [11, 11, 11, 11, 11, 11, 11] (.tuple #[.agg #[.int .i64 0, .int .i64 0, .int .i64 0, .slice none 0 0, .slice none 0 0, .string ⟨#[]⟩, .int .i64 0], .int .i64 2]) ?_
      exact ⟨noSv, rfl, noSv_ok, rfl, rfl⟩
    | true =>
      rw [hm] at hLE
      have hLS : loadS bs = ⟨p, t, f, Lc, Lb, o, d⟩ := by unfold loadS; rw [hLE, hS]; rfl
      rw [hLE, hLS]
      refine RR [] .z (.i 7 (.int .i64 0) (.d (.d (.k .a)))) .a ?_
      refine RZ (NT (SQ (RG ?_)))
      refine RR [] .z (.i 38 (.bool false) .a) .a ?_
      refine RZ (NT (CF (SK (NT (SQ (RG ?_))))))
      refine RR [8, 8, 8, 8, 8, 8, 8, 7, 7, 7, 7, 7, 7, 7] .z (.d (.d (.d (.k .a)))) (.k (.k (.k (.k (.k (.k (.k (.u (.i (.int .i64 p) (.i (.int .i64 t) (.i (.int .i64 f) (.i (.slice qc lc.length cc) (.i (.slice qb lb.length cb) (.i (.string (mkS o)) (.i (.int .i64 d) .z))))))) .a)))))))) ?_
      refine RZ (NT (RE ?_))
      refine NE [3, 3, 1, 1] (.i (row 124 5 qc lc.length cc (List.flatMap clC lc)) (.i (star (List.flatMap clRows lc)) (.d (.k (.k .z))))) (.k (.d (.d (.d (.d (.k .a)))))) [7, 7, 7, 7, 7, 7, 7] (.tuple #[.agg #[.int .i64 p, .int .i64 t, .int .i64 f, .slice qc lc.length cc, .slice qb lb.length cb, .string (mkS o), .int .i64 d], .int .i64 0]) ?_
      exact ⟨⟨p, t, f, qc, cc, lc, qb, cb, lb, o, d⟩, by unfold Sv.p; dsimp only; rw [hlc, hlb], hsok, rfl, rfl⟩
end Go.Proofs.YtpfhleghgkeemaaGreatDoor
namespace Go.Proofs.YtpfhleghgkeemaaGreatDoor
open Go Go.Sx
/-! The document's examples, plain. -/
def liveL : List UInt8 := [0, 0, 0, 0, 2, 97, 0, 2, 2, 80, 2, 4, 2]
def liveS : SP := ⟨0, 0, 0, [], [([80], [⟨2, 1, []⟩])], [97], 0⟩
theorem encI0 : encI 0 = [0] := by unfold encI; rw [vb_lt (by decide)]; rfl
theorem encI1 : encI 1 = [2] := by unfold encI; rw [vb_lt (by decide)]; rfl
theorem encI2 : encI 2 = [4] := by unfold encI; rw [vb_lt (by decide)]; rfl
theorem enc_noS : encS noS = [0, 0, 0, 0, 0, 0, 0] := by
  simp [encS, noS, encT, encCs, encOs, encI0]
theorem enc_liveS : encS liveS = liveL := by
  simp [encS, liveS, liveL, encT, encCs, encOs, encO, encVs, encV, encI0, encI1, encI2]
theorem may_noS : mayB noS = true := by decide
theorem may_liveS : mayB liveS = true := by decide
theorem read_live : rS liveL (0, 0) = (liveS, 13, 0) := by decide
theorem loadE_live : loadE liveL = 0 := by
  unfold loadE; rw [read_live, may_liveS]; rfl
theorem loadS_live : loadS liveL = liveS := by
  unfold loadS; rw [loadE_live, read_live]; rfl
end Go.Proofs.YtpfhleghgkeemaaGreatDoor
namespace Go.Proofs.YtpfhleghgkeemaaGreatDoor
open Go Go.Sx
theorem ent_roz {Γ : Cx} {fr : Fr} {rest : Hp} : Ent Γ ⟨fr, rest⟩ ⟨fr, ro none ([] : List Value) :: rest⟩ := ent_ro (hp := []) (c' := ro none ([] : List Value)) (fun w h => ⟨fun u hu => (by cases hu), rfl⟩) (fun w h k hk => absurd rfl hk.2) (fun h => h)
theorem slives_spec : Does Tryz.prog 39 [] [gWords] (fun v hp' => v = .bool true ∧ hp' = []) := by
  have hn : Does Tryz.prog 40 [.agg #[.int .i64 0, .int .i64 0, .int .i64 0, .slice none 0 0, .slice none 0 0, .string ⟨#[]⟩, .int .i64 0]] [ro none [], bag [], ro none [], bag [], gWords] (fun r hp' => ∃ a' c', r = .tuple #[.slice a' 7 c', .int .i64 0] ∧ hp' = [row 5 1 a' 7 c' (u8s [0, 0, 0, 0, 0, 0, 0])]) := by
    have h := snapBytes_spec noSv noSv_ok (by rw [show noSv.p = noS from rfl, enc_noS]; decide)
    rw [show noSv.p = noS from rfl, may_noS, enc_noS] at h
    exact h
  have hn2 : ∀ g1 g2 : Nat, Does Tryz.prog 40 [.agg #[.int .i64 0, .int .i64 0, .int .i64 0, .slice none 0 0, .slice (some ⟨g2, 0, none⟩) 1 1, .string ⟨#[97]⟩, .int .i64 0]] [ro none [], bag [], ro (some ⟨g2, 0, none⟩) [.string ⟨#[80]⟩, .slice (some ⟨g1, 0, none⟩) 1 1], bag [ro (some ⟨g1, 0, none⟩) [.int .i64 2, .int .i64 1, .string ⟨#[]⟩]], gWords] (fun r hp' => ∃ a' c', r = .tuple #[.slice a' 13 c', .int .i64 0] ∧ hp' = [row 5 1 a' 13 c' (u8s liveL)]) := fun g1 g2 => by
    have h := snapBytes_spec ⟨0, 0, 0, none, 0, [], some ⟨g2, 0, none⟩, 1, [⟨[80], some ⟨g1, 0, none⟩, 1, [⟨2, 1, []⟩]⟩], [97], 0⟩ (by
      refine ⟨⟨by dsimp only; omega, by dsimp only; omega⟩, ⟨by dsimp only; omega, by dsimp only; omega⟩, ⟨by dsimp only; omega, by dsimp only; omega⟩, ⟨by dsimp only; omega, by dsimp only; omega⟩, Nat.zero_le _, fun x hx => (List.not_mem_nil hx).elim, (by decide : 1 ≤ 1048576), fun x hx => ?_, fun x hx => ?_, (by decide : 1 ≤ 1048576), by show 2 ≤ _; omega⟩
      · rw [List.mem_singleton.1 hx]
        exact ⟨(by decide : 1 ≤ 1048576), Nat.le_refl 1, (by decide : 1 ≤ 1048576), fun v hv => by rw [List.mem_singleton.1 hv]; exact Nat.zero_le _⟩
      · rw [List.mem_singleton.1 hx]
        intro v hv
        rw [List.mem_singleton.1 hv]
        exact ⟨⟨by decide, by decide⟩, ⟨by decide, by decide⟩, Nat.zero_le _⟩) (by
        show (encS liveS).length ≤ _
        rw [enc_liveS]; decide)
    rw [show Sv.p ⟨0, 0, 0, none, 0, [], some ⟨g2, 0, none⟩, 1, [⟨[80], some ⟨g1, 0, none⟩, 1, [⟨2, 1, []⟩]⟩], [97], 0⟩ = liveS from rfl, may_liveS, enc_liveS] at h
    exact h
  refine fn_enter Tryz.func39 rfl 57 rfl fun w0 h0 => ?_
  refine SQ (RG ?_)
  refine RR [] .z (.i 0 (.bool false) .a) .a ?_
  refine RZ (NT (SQ (RG ?_)))
  refine RR [] (.d .a) (.i 8 (.agg #[.int .i64 0, .int .i64 0, .int .i64 0, .slice none 0 0, .slice none 0 0, .string ⟨#[]⟩, .int .i64 0]) .a) .a ?_
  refine wpr_ent (Ent.trans ent_bag_nil (Ent.trans ent_roz (Ent.trans ent_bag_nil ent_roz))) ?_
  refine RCG (dst := some 9) .a (hn) (GV (GV (GV (GV (GV (GI []) 4 view_ro) 1 view_self) 0 view_ro) 1 view_self) 0 view_ro) ?_
  rintro v _ ⟨a1, c1, rfl, rfl⟩
  refine RR [] .z (.i 2 (.int .i64 0) (.i 1 (.slice a1 7 c1) (.d (.d (.k .a))))) .a ?_
  refine RZ (NT (SQ (RG ?_)))
  refine RN [] (.d (.d .a)) 14 (fun g1 => (.slice (some ⟨g1, 0, none⟩) 1 1)) .a .a 28 [.int .i64 2, .int .i64 1, .string ⟨#[]⟩] fun g1 => ?_
  refine RN [] (.d (.d .a)) 16 (fun g2 => (.slice (some ⟨g2, 0, none⟩) 1 1)) (.d (.k .a)) .a 43 [.string (ByteArray.mk #[80]), .slice (some ⟨g1, 0, none⟩) 1 1] fun g2 => ?_
  refine RR [] (.d .a) (.i 17 (.agg #[.int .i64 0, .int .i64 0, .int .i64 0, .slice none 0 0, .slice (some ⟨g2, 0, none⟩) 1 1, .string (ByteArray.mk #[97]), .int .i64 0]) (.d (.k .a))) .a ?_
  refine wpr_ent (ent_turn 6 (ro (some ⟨g1, 0, none⟩) [.int .i64 2, .int .i64 1, .string ⟨#[]⟩]) rfl (turn_rblk (val1 ⟨2, 1, []⟩)) rfl) ?_
  refine wpr_ent (Ent.trans (ent_hp [6, 0, 0, 0, 2, 2] rfl) (ent_bag (hp := [ro (some ⟨g1, 0, none⟩) [.int .i64 2, .int .i64 1, .string ⟨#[]⟩]]))) ?_
  refine RCG (dst := some 18) .a (hn2 g1 g2) (GV (GV (GV (GV (GV (GI []) 4 view_ro) 0 view_self) 5 (view_blk0 (by simp [Go.Sx.One, Value.oneCell']))) 3 view_self) 2 view_ro) ?_
  rintro v _ ⟨a2, c2, rfl, rfl⟩
  refine wpr_fact (fun w h => row_addr h 0 rfl (by decide)) ?_
  rintro ⟨gb, ob, rfl⟩
  have hL := snapLoad_spec (some ⟨gb, ob, none⟩) c2 liveL (fun h => nomatch h) (by decide)
  rw [loadE_live, loadS_live] at hL
  refine RR [] .z (.i 4 (.int .i64 0) (.i 3 (.slice (some ⟨gb, ob, none⟩) 13 c2) (.d (.d (.k .a))))) .a ?_
  refine RZ (NT (SQ (RG ?_)))
  refine RR [] (.d .a) (.i 22 (.slice (some ⟨gb, ob, none⟩) 13 c2) .a) .a ?_
  refine RCG (dst := some 23) .a (hL) (GV (GV (GI []) 5 view_ro) 0 view_row) ?_
  rintro v _ ⟨s, hs, hsok, rfl, rfl⟩
  unfold svC svH
  have hout : s.out = [97] := congrArg SP.out hs
  have hlen : s.hl.length = 1 := by
    have := congrArg (fun x : SP => x.L.length) hs
    simpa [Sv.p, liveS] using this
  rw [hout, hlen]
  refine RP [] (.d (.d (.d (.d .a)))) 5 (.i 25 (.int .i64 0) (.i 24 (.agg #[.int .i64 s.pos, .int .i64 s.st, .int .i64 s.fa, .slice s.ca s.cl.length s.cc, .slice s.ha 1 s.hc, .string (mkS [97]), .int .i64 s.rd]) (.d (.d (.k .a))))) .a 75 [.int .i64 0, .int .i64 0, .int .i64 0, .slice none 0 0, .slice none 0 0, .string ⟨#[]⟩, .int .i64 0] fun g3 => ?_
  refine RR [11, 11, 11, 11, 11, 11, 11] .z (.i 6 (.int .i64 0) (.k (.d (.d (.k .a))))) (.k (.k (.k (.k (.k (.k (.k (.k (.k (.k (.k (.u (.i (.int .i64 s.pos) (.i (.int .i64 s.st) (.i (.int .i64 s.fa) (.i (.slice s.ca s.cl.length s.cc) (.i (.slice s.ha 1 s.hc) (.i (.string (mkS [97])) (.i (.int .i64 s.rd) .z))))))) .a)))))))))))) ?_
  refine RZ (NT (SQ (RG ?_)))
  refine RR [] (.d .a) (.i 26 (.slice a1 7 c1) (.k (.k (.k (.k (.k (.d (.k .a)))))))) .a ?_
  refine wpr_eq (b2s (a := 77) (b := 9) (ad := a1) (n := 7) (c := c1) (dst := some 27) (by kernel_rfl) (by kernel_rfl) [0, 0, 0, 0, 0, 0, 0] (by first | rfl | simp) (fun w h => b2s_row h 6 rfl)) ?_
  refine RR [] (.d (.d (.d (.d (.d (.d (.d .a))))))) (.i 34 (.slice (some ⟨gb, ob, none⟩) 13 c2) (.i 33 (.bool true) (.d (.d (.k (.k (.k (.d (.d (.k .a)))))))))) .a ?_
  refine wpr_eq (b2s (a := 77) (b := 9) (ad := (some ⟨gb, ob, none⟩)) (n := 13) (c := c2) (dst := some 35) (by kernel_rfl) (by kernel_rfl) liveL (by first | rfl | simp) (fun w h => b2s_row h 4 rfl)) ?_
  refine RR [11, 11] .z (.i 0 (.bool true) .z) .a ?_
  refine RZ (NT (RE ?_))
  refine NE [] .z .a [] (.bool true) ?_
  exact ⟨rfl, rfl⟩
end Go.Proofs.YtpfhleghgkeemaaGreatDoor
namespace Go.Proofs.YtpfhleghgkeemaaGreatDoor
open Go Go.Sx
theorem SnapWrites_spec (s : Sv) (hs : s.ok) (hB : (encS s.p).length ≤ 549755813888) : Does Tryz.prog 10 [.agg (svC s).toArray] [ro s.ca (s.cl.flatMap clC), gCl s.cl, ro s.ha (s.hl.flatMap objC), gBag s.hl, gWords] (fun v hp' => v = .bool true ∧ hp' = []) := by
  have hli := light_spec s hs
  have h1 := snapBytes_spec s hs hB
  have h2 := rBytes_spec s hs hB
  have h3 := snapCheck_spec s hs
  have h4 := rCheck_spec s hs
  have hl := slives_spec
  unfold svC at hli h1 h2 h3 h4 ⊢
  refine fn_enter Tryz.func10 rfl 40 rfl fun w0 h0 => ?_
  refine SQ (RG ?_)
  refine RP [] (.d .a) 1 .z .a 75 [.int .i64 s.pos, .int .i64 s.st, .int .i64 s.fa, .slice s.ca s.cl.length s.cc, .slice s.ha s.hl.length s.hc, .string (mkS s.out), .int .i64 s.rd] fun g1 => ?_
  refine RR [] .z (.i 2 (.bool false) .a) .a ?_
  refine RZ (NT (SQ (SQ (RG ?_))))
  refine RR [5, 5, 5, 5, 5, 5, 5] (.d .a) (.i 7 (.agg #[.int .i64 s.pos, .int .i64 s.st, .int .i64 s.fa, .slice s.ca s.cl.length s.cc, .slice s.ha s.hl.length s.hc, .string (mkS s.out), .int .i64 s.rd]) .a) .a ?_
  refine RCG (dst := some 8) .a (hli) (GV (GV (GV (GV (GI []) 3 view_self) 2 view_ro) 1 view_self) 0 view_ro) ?_
  rintro v _ ⟨b, rfl, rfl⟩
  cases b with
  | false =>
    refine RR [] .z (.i 9 (.bool true) (.d (.d (.k .a)))) .a ?_
    refine RZ (NT (CT (SQ (RG ?_))))
    refine RCG (dst := some 10) .a (hl) (GV (GI []) 4 view_ro) ?_
    rintro v _ ⟨rfl, rfl⟩
    refine RR [] .z (.i 2 (.bool true) (.d (.d (.d (.k .a))))) .a ?_
    refine RZ (NT (RE (TR ?_)))
    refine NE [] .z .a [] (.bool true) ?_
    exact ⟨rfl, rfl⟩
  | true =>
    refine RR [] .z (.i 9 (.bool false) (.d (.d (.k .a)))) .a ?_
    refine RZ (NT (CF (SK (NT (SQ (RG ?_))))))
    refine RR [5, 5, 5, 5, 5, 5, 5] (.d .a) (.i 12 (.agg #[.int .i64 s.pos, .int .i64 s.st, .int .i64 s.fa, .slice s.ca s.cl.length s.cc, .slice s.ha s.hl.length s.hc, .string (mkS s.out), .int .i64 s.rd]) (.d (.k .a))) .a ?_
    refine RCG (dst := some 13) .a (h1) (GV (GV (GV (GV (GV (GI []) 4 view_ro) 3 view_self) 2 view_ro) 1 view_self) 0 view_ro) ?_
    intro v hp' hv
    by_cases hm : mayB s.p = true
    · rw [if_pos hm] at hv h2 h3 h4
      obtain ⟨a1, c1, rfl, rfl⟩ := hv
      refine RR [] .z (.i 4 (.int .i64 0) (.i 3 (.slice a1 (encS s.p).length c1) (.d (.d (.k .a))))) .a ?_
      refine RZ (NT (SQ (RG ?_)))
      refine RR [6, 6, 6, 6, 6, 6, 6] (.d .a) (.i 17 (.agg #[.int .i64 s.pos, .int .i64 s.st, .int .i64 s.fa, .slice s.ca s.cl.length s.cc, .slice s.ha s.hl.length s.hc, .string (mkS s.out), .int .i64 s.rd]) .a) .a ?_
      refine RCG (dst := some 18) .a (h2) (GV (GV (GV (GV (GI []) 4 view_self) 3 view_ro) 2 view_self) 1 view_ro) ?_
      rintro v _ ⟨rfl, rfl⟩
      refine RR [] .z (.i 6 (.int .i64 0) (.i 5 (.string (mkS (encS s.p))) (.d (.d (.k .a))))) .a ?_
      refine RZ (NT (SQ ?_))
      refine wpc_ent (ent_turn 0 (ro a1 (u8s (encS s.p))) rfl (turn_view view_row) rfl) ?_
      refine wpc_draw (by kernel_rfl) [ro a1 (u8s (encS s.p)), .blk g1 75 [.int .i64 s.pos, .int .i64 s.st, .int .i64 s.fa, .slice s.ca s.cl.length s.cc, .slice s.ha s.hl.length s.hc, .string (mkS s.out), .int .i64 s.rd]] (sub_of [0, 6] (by kernel_rfl)) 20 (by kernel_rfl) ?_
      refine TK 18 [(0, []), (2, [])] (.i 23 (.string (mkS (encS s.p))) (.i 21 (.slice a1 (encS s.p).length c1) (.k (.d (.k (.d (.k .a))))))) (#[true, false, true, false, false, false, false, false, false, false, false, false, false, false, false, false, false, false, false, false]) ?_
      refine wpa_qb2s (i := 1) (n := 17) (by kernel_rfl) (by kernel_rfl) (by kernel_rfl) (a := 77) (b := 9) (ad := a1) (m := ((encS s.p).length)) (c := c1) (dst := some 22) (by kernel_rfl) (by kernel_rfl) (encS s.p) (by first | rfl | simp) (fun w h => b2s_roL h 0 rfl) ?_
      refine TK 15 [(3, []), (4, [])] (.i 25 (.bool (decide (encS s.p = encS s.p))) (.d (.d (.d (.k .a))))) (#[true, true, true, true, true, false, false, false, false, false, false, false, false, false, false, false, false, false, false, false]) ?_
      refine SA 25 (decide (encS s.p = encS s.p)) true (by simp) ?_
      refine TK 8 [(5, []), (6, []), (7, []), (8, []), (9, []), (10, [1, 1, 1, 1, 1, 1, 1]), (12, [1, 1, 1, 1, 1, 1, 1])] (.i 33 (.agg #[.int .i64 s.pos, .int .i64 s.st, .int .i64 s.fa, .slice s.ca s.cl.length s.cc, .slice s.ha s.hl.length s.hc, .string (mkS s.out), .int .i64 s.rd]) (.i 31 (.agg #[.int .i64 s.pos, .int .i64 s.st, .int .i64 s.fa, .slice s.ca s.cl.length s.cc, .slice s.ha s.hl.length s.hc, .string (mkS s.out), .int .i64 s.rd]) (.i 30 (.bool true) (.d (.d (.d (.d (.k .z)))))))) (#[true, true, true, true, true, true, true, true, true, true, true, false, true, false, false, false, false, false, false, false]) ?_
      refine AC (dst := some 32) 7 11 .a (h3) (GV (GV (GV (GV (GV (GI []) 5 view_ro) 4 view_self) 3 view_ro) 2 view_self) 1 view_ro) [0, 6] ?_
      rintro v _ ⟨rfl, rfl⟩
      refine AC (dst := some 34) 6 13 .a (h4) (GV (GV (GV (GV (GI []) 4 view_self) 3 view_ro) 2 view_self) 1 view_ro) [0, 6] ?_
      rintro v _ ⟨rfl, rfl⟩
      refine TK 3 [(14, []), (15, []), (16, [])] (.i 37 (.bool true) (.d (.d (.d (.d (.d (.k .a))))))) (#[true, true, true, true, true, true, true, true, true, true, true, true, true, true, true, true, true, false, false, false]) ?_
      refine AC (dst := some 38) 2 17 .a (hl) (GV (GI []) 5 view_ro) [0, 6] ?_
      rintro v _ ⟨rfl, rfl⟩
      refine TK 0 [(18, []), (19, [])] (.i 2 (.bool true) .z) (#[true, true, true, true, true, true, true, true, true, true, true, true, true, true, true, true, true, true, true, true]) ?_
      refine wpa_done 0 (by kernel_rfl) ?_
      refine NT (RE ?_)
      refine NE [] .z .a [] (.bool true) ?_
      exact ⟨rfl, rfl⟩
    · rw [if_neg hm] at hv h2 h3 h4
      obtain ⟨rfl, rfl⟩ := hv
      refine RR [] .z (.i 4 (.int .i64 2) (.i 3 (.slice none 0 0) (.d (.d (.k .a))))) .a ?_
      refine RZ (NT (SQ (RG ?_)))
      refine RR [5, 5, 5, 5, 5, 5, 5] (.d .a) (.i 17 (.agg #[.int .i64 s.pos, .int .i64 s.st, .int .i64 s.fa, .slice s.ca s.cl.length s.cc, .slice s.ha s.hl.length s.hc, .string (mkS s.out), .int .i64 s.rd]) .a) .a ?_
      refine RCG (dst := some 18) .a (h2) (GV (GV (GV (GV (GI []) 3 view_self) 2 view_ro) 1 view_self) 0 view_ro) ?_
      rintro v _ ⟨rfl, rfl⟩
      refine RR [] .z (.i 6 (.int .i64 2) (.i 5 (.string (mkS [])) (.d (.d (.k .a))))) .a ?_
      refine RZ (NT (SQ ?_))
      refine wpc_draw (by kernel_rfl) [.blk g1 75 [.int .i64 s.pos, .int .i64 s.st, .int .i64 s.fa, .slice s.ca s.cl.length s.cc, .slice s.ha s.hl.length s.hc, .string (mkS s.out), .int .i64 s.rd]] (sub_of [5] (by kernel_rfl)) 20 (by kernel_rfl) ?_
      refine TK 8 [(0, []), (1, []), (2, []), (3, []), (4, []), (5, []), (6, []), (7, []), (8, []), (9, []), (10, [0, 0, 0, 0, 0, 0, 0]), (12, [0, 0, 0, 0, 0, 0, 0])] (.i 33 (.agg #[.int .i64 s.pos, .int .i64 s.st, .int .i64 s.fa, .slice s.ca s.cl.length s.cc, .slice s.ha s.hl.length s.hc, .string (mkS s.out), .int .i64 s.rd]) (.i 31 (.agg #[.int .i64 s.pos, .int .i64 s.st, .int .i64 s.fa, .slice s.ca s.cl.length s.cc, .slice s.ha s.hl.length s.hc, .string (mkS s.out), .int .i64 s.rd]) (.i 30 (.bool true) (.d (.d (.d (.d (.k .z)))))))) (#[true, true, true, true, true, true, true, true, true, true, true, false, true, false, false, false, false, false, false, false]) ?_
      refine AC (dst := some 32) 7 11 .a (h3) (GV (GV (GV (GV (GV (GI []) 4 view_ro) 3 view_self) 2 view_ro) 1 view_self) 0 view_ro) [5] ?_
      rintro v _ ⟨rfl, rfl⟩
      refine AC (dst := some 34) 6 13 .a (h4) (GV (GV (GV (GV (GI []) 3 view_self) 2 view_ro) 1 view_self) 0 view_ro) [5] ?_
      rintro v _ ⟨rfl, rfl⟩
      refine TK 3 [(14, []), (15, []), (16, [])] (.i 37 (.bool true) (.d (.d (.d (.d (.d (.k .a))))))) (#[true, true, true, true, true, true, true, true, true, true, true, true, true, true, true, true, true, false, false, false]) ?_
      refine AC (dst := some 38) 2 17 .a (hl) (GV (GI []) 4 view_ro) [5] ?_
      rintro v _ ⟨rfl, rfl⟩
      refine TK 0 [(18, []), (19, [])] (.i 2 (.bool true) .z) (#[true, true, true, true, true, true, true, true, true, true, true, true, true, true, true, true, true, true, true, true]) ?_
      refine wpa_done 0 (by kernel_rfl) ?_
      refine NT (RE ?_)
      refine NE [] .z .a [] (.bool true) ?_
      exact ⟨rfl, rfl⟩
end Go.Proofs.YtpfhleghgkeemaaGreatDoor
namespace Go.Proofs.YtpfhleghgkeemaaGreatDoor
open Go Go.Sx
/-! Values, calls and objects that come in. -/
abbrev V3 := Int × Int × List UInt8
def valS : Shape V3 := upS (pairS (intS .i64) (pairS (intS .i64) strS))
theorem opens_val : Opens Tryz.prog 28 3 valS :=
  opens_struct Tryz.underlying28 (by kernel_rfl) (opensFs_cons (off := 0) (k := 1) (m := 2) (opens_int Tryz.underlying26 (by kernel_rfl)) rfl (by kernel_rfl) (opensFs_cons (off := 1) (k := 1) (m := 1) (opens_int Tryz.underlying3 (by kernel_rfl)) rfl (by kernel_rfl) (opensFs_one (opens_str Tryz.underlying9 (by kernel_rfl)) rfl)))
def toV (x : V3) : V := ⟨x.1, x.2.1, x.2.2⟩
theorem vals_C : ∀ l : List V3, l.flatMap valS.C = (l.map toV).flatMap valC
  | [] => rfl
  | x :: l => by rw [List.flatMap_cons, vals_C l]; rfl
theorem valS_sm {x : V3} (h : valS.B x ≤ 1048576) : (toV x).sm := by
  have : valS.B x = 1 + (1 + (x.2.2.length + 1)) + 1 := rfl
  show x.2.2.length ≤ 1048576
  omega
theorem valS_i64 {x : V3} (h : valS.V x) : (toV x).i64 := wf_i64 h.2.1
theorem valS_B (x : V3) : 1 ≤ valS.B x := by
  have : valS.B x = 1 + (1 + (x.2.2.length + 1)) + 1 := rfl
  omega
end Go.Proofs.YtpfhleghgkeemaaGreatDoor
namespace Go.Proofs.YtpfhleghgkeemaaGreatDoor
open Go Go.Sx
/-! Objects that come in. -/
abbrev Ob2 := List UInt8 × Sl V3
def obS : Shape Ob2 := upS (pairS strS (sliceS valS))
theorem opens_ob : Opens Tryz.prog 43 2 obS :=
  opens_struct Tryz.underlying43 (by kernel_rfl) (opensFs_cons (off := 0) (k := 1) (m := 1) (opens_str Tryz.underlying9 (by kernel_rfl)) rfl (by kernel_rfl) (opensFs_one (opens_slice Tryz.underlying25 (by kernel_rfl) opens_val) rfl))
theorem opens_obs : Opens Tryz.prog 37 1 (sliceS obS) := opens_slice Tryz.underlying37 (by kernel_rfl) opens_ob
def toOb (x : Ob2) : Ob := ⟨x.1, x.2.1, x.2.2.1, x.2.2.2.map toV⟩
theorem obS_C (x : Ob2) : obS.C x = objC (toOb x) := by
  show [Value.string (mkS x.1)] ++ [Value.slice x.2.1 x.2.2.2.length x.2.2.1] = _
  simp [objC, toOb]
theorem obs_C : ∀ l : List Ob2, l.flatMap obS.C = (l.map toOb).flatMap objC
  | [] => rfl
  | x :: l => by rw [List.flatMap_cons, obs_C l, obS_C]; rfl
theorem obs_hold {x : Sl Ob2} {w : World} (h : (deep (sliceS obS) x).holds w) : (ro x.1 ((x.2.2.map toOb).flatMap objC)).holds w ∧ (gBag (x.2.2.map toOb)).holds w := by
  refine ⟨?_, fun c hc => ?_⟩
  · have h3 := view_flat.holds w h
    rwa [obs_C] at h3
  · obtain ⟨t, ht, rfl⟩ := List.mem_map.1 hc
    obtain ⟨z, hz, rfl⟩ := List.mem_map.1 ht
    have h4 : (deep obS z).holds w := (view_elem hz).holds w h
    have h5 : (deep (sliceS valS) z.2).holds w := h4.2
    have h6 := view_flat.holds w h5
    rw [vals_C] at h6
    exact h6
theorem obS_B (x : Ob2) : obS.B x = x.1.length + 1 + (sumB valS x.2.2.2 + 1) + 1 := rfl
theorem obs_used (l : List Ob2) : usedO ((l.map toOb).map Ob.o) ≤ sumB obS l := by
  induction l with
  | nil => exact Nat.zero_le _
  | cons x r ih =>
    have h1 : usedO (((x :: r).map toOb).map Ob.o) = (x.2.2.2.map toV).length + 1 + usedO ((r.map toOb).map Ob.o) := rfl
    have h2 := le_sumB valS valS_B x.2.2.2
    rw [h1, List.length_map]
    simp only [sumB, obS_B]; omega
theorem obs_ok {x : Sl Ob2} (hV : (sliceS obS).V x) (hB : (sliceS obS).B x ≤ 1048576) : smO (x.2.2.map toOb) ∧ (∀ o ∈ x.2.2.map toOb, ∀ v ∈ o.cells, v.i64) ∧ (x.2.2.map toOb).length ≤ 1048576 ∧ usedO ((x.2.2.map toOb).map Ob.o) ≤ 1048576 := by
  have hB2 : sumB obS x.2.2 + 1 ≤ 1048576 := hB
  have hl := le_sumB obS (fun y => by rw [obS_B]; omega) x.2.2
  have hu := obs_used x.2.2
  refine ⟨fun o ho => ?_, fun o ho v hv => ?_, by rw [List.length_map]; omega, by omega⟩
  · obtain ⟨z, hz, rfl⟩ := List.mem_map.1 ho
    have h1 := mem_sumB obS x.2.2 z hz
    rw [obS_B] at h1
    have h2 := le_sumB valS valS_B z.2.2.2
    have h3 := hV.2.2.2 z hz
    have h4 : (z.2.2.2.map toV).length = z.2.2.2.length := List.length_map ..
    refine ⟨by show z.1.length ≤ _; omega, by show (z.2.2.2.map toV).length ≤ z.2.2.1; rw [h4]; exact h3.2.2.1, by show (z.2.2.2.map toV).length ≤ _; omega, fun u hu => ?_⟩
    obtain ⟨y, hy, rfl⟩ := List.mem_map.1 hu
    exact valS_sm (by have := mem_sumB valS z.2.2.2 y hy; omega)
  · obtain ⟨z, hz, rfl⟩ := List.mem_map.1 ho
    obtain ⟨y, hy, rfl⟩ := List.mem_map.1 hv
    exact valS_i64 ((hV.2.2.2 z hz).2.2.2.2 y hy)
end Go.Proofs.YtpfhleghgkeemaaGreatDoor
namespace Go.Proofs.YtpfhleghgkeemaaGreatDoor
open Go Go.Sx
/-! States that come in. -/
abbrev Cl2 := Int × Int × Int × Sl V3 × Sl V3
def clS : Shape Cl2 := upS (pairS (intS .i64) (pairS (intS .i64) (pairS (intS .i64) (pairS (sliceS valS) (sliceS valS)))))
theorem opens_cl : Opens Tryz.prog 124 5 clS :=
  opens_struct Tryz.underlying124 (by kernel_rfl) (opensFs_cons (off := 0) (k := 1) (m := 4) (opens_int Tryz.underlying3 (by kernel_rfl)) rfl (by kernel_rfl)
    (opensFs_cons (off := 1) (k := 1) (m := 3) (opens_int Tryz.underlying3 (by kernel_rfl)) rfl (by kernel_rfl)
    (opensFs_cons (off := 2) (k := 1) (m := 2) (opens_int Tryz.underlying3 (by kernel_rfl)) rfl (by kernel_rfl)
    (opensFs_cons (off := 3) (k := 1) (m := 1) (opens_slice Tryz.underlying25 (by kernel_rfl) opens_val) rfl (by kernel_rfl)
    (opensFs_one (opens_slice Tryz.underlying25 (by kernel_rfl) opens_val) rfl)))))
abbrev St2 := Int × Int × Int × Sl Cl2 × Sl Ob2 × List UInt8 × Int
def stS : Shape St2 := upS (pairS (intS .i64) (pairS (intS .i64) (pairS (intS .i64) (pairS (sliceS clS) (pairS (sliceS obS) (pairS strS (intS .i64)))))))
theorem opens_st : Opens Tryz.prog 75 7 stS :=
  opens_struct Tryz.underlying75 (by kernel_rfl) (opensFs_cons (off := 0) (k := 1) (m := 6) (opens_int Tryz.underlying3 (by kernel_rfl)) rfl (by kernel_rfl)
    (opensFs_cons (off := 1) (k := 1) (m := 5) (opens_int Tryz.underlying71 (by kernel_rfl)) rfl (by kernel_rfl)
    (opensFs_cons (off := 2) (k := 1) (m := 4) (opens_int Tryz.underlying72 (by kernel_rfl)) rfl (by kernel_rfl)
    (opensFs_cons (off := 3) (k := 1) (m := 3) (opens_slice Tryz.underlying73 (by kernel_rfl) opens_cl) rfl (by kernel_rfl)
    (opensFs_cons (off := 4) (k := 1) (m := 2) opens_obs rfl (by kernel_rfl)
    (opensFs_cons (off := 5) (k := 1) (m := 1) (opens_str Tryz.underlying9 (by kernel_rfl)) rfl (by kernel_rfl)
    (opensFs_one (opens_int Tryz.underlying3 (by kernel_rfl)) rfl)))))))
def toCl (x : Cl2) : Cl := ⟨x.1, x.2.1, x.2.2.1, x.2.2.2.1.1, x.2.2.2.1.2.1, x.2.2.2.1.2.2.map toV, x.2.2.2.2.1, x.2.2.2.2.2.1, x.2.2.2.2.2.2.map toV⟩
def toSv (x : St2) : Sv := ⟨x.1, x.2.1, x.2.2.1, x.2.2.2.1.1, x.2.2.2.1.2.1, x.2.2.2.1.2.2.map toCl, x.2.2.2.2.1.1, x.2.2.2.2.1.2.1, x.2.2.2.2.1.2.2.map toOb, x.2.2.2.2.2.1, x.2.2.2.2.2.2⟩
theorem clS_C (x : Cl2) : clS.C x = clC (toCl x) := by
  show [Value.int .i64 x.1] ++ ([Value.int .i64 x.2.1] ++ ([Value.int .i64 x.2.2.1] ++ ([Value.slice x.2.2.2.1.1 x.2.2.2.1.2.2.length x.2.2.2.1.2.1] ++ [Value.slice x.2.2.2.2.1 x.2.2.2.2.2.2.length x.2.2.2.2.2.1]))) = _
  simp [clC, toCl]
theorem cls_C : ∀ l : List Cl2, l.flatMap clS.C = (l.map toCl).flatMap clC
  | [] => rfl
  | x :: l => by rw [List.flatMap_cons, cls_C l, clS_C]; rfl
theorem stS_C (x : St2) : stS.C x = svC (toSv x) := by
  show [Value.int .i64 x.1] ++ ([Value.int .i64 x.2.1] ++ ([Value.int .i64 x.2.2.1] ++ ([Value.slice x.2.2.2.1.1 x.2.2.2.1.2.2.length x.2.2.2.1.2.1] ++ ([Value.slice x.2.2.2.2.1.1 x.2.2.2.2.1.2.2.length x.2.2.2.2.1.2.1] ++ ([Value.string (mkS x.2.2.2.2.2.1)] ++ [Value.int .i64 x.2.2.2.2.2.2]))))) = _
  simp [svC, toSv]
theorem cls_hold {x : Sl Cl2} {w : World} (h : (deep (sliceS clS) x).holds w) : (ro x.1 ((x.2.2.map toCl).flatMap clC)).holds w ∧ (gCl (x.2.2.map toCl)).holds w := by
  refine ⟨?_, fun c hc => ?_⟩
  · have h3 := view_flat.holds w h
    rwa [cls_C] at h3
  · obtain ⟨t, ht, hc⟩ := List.mem_flatMap.1 hc
    obtain ⟨z, hz, rfl⟩ := List.mem_map.1 ht
    have h4 : (deep clS z).holds w := (view_elem hz).holds w h
    have h5 : (deep (sliceS valS) z.2.2.2.1).holds w := h4.2.2.2.1
    have h6 : (deep (sliceS valS) z.2.2.2.2).holds w := h4.2.2.2.2
    have h7 := view_flat.holds w h5
    have h8 := view_flat.holds w h6
    rw [vals_C] at h7 h8
    simp only [clRo, List.mem_cons, List.not_mem_nil, or_false] at hc
    rcases hc with rfl | rfl
    · exact h7
    · exact h8
theorem st_hold {x : St2} {w : World} (h : (deep stS x).holds w) : (ro (toSv x).ca ((toSv x).cl.flatMap clC)).holds w ∧ (gCl (toSv x).cl).holds w ∧ (ro (toSv x).ha ((toSv x).hl.flatMap objC)).holds w ∧ (gBag (toSv x).hl).holds w := by
  have h1 : (deep (sliceS clS) x.2.2.2.1).holds w := h.2.2.2.1
  have h2 : (deep (sliceS obS) x.2.2.2.2.1).holds w := h.2.2.2.2.1
  exact ⟨(cls_hold h1).1, (cls_hold h1).2, (obs_hold h2).1, (obs_hold h2).2⟩
theorem valS_ok {x : V3} (hV : valS.V x) (hB : valS.B x ≤ 1048576) : (toV x).ok := ⟨wf_i64 hV.1, wf_i64 hV.2.1, valS_sm hB⟩
theorem flat_B {α β : Type} (S : Shape α) (f : α → β) (enc : β → List UInt8) : ∀ (l : List α), (∀ x ∈ l, (enc (f x)).length ≤ 30 * S.B x) → ((l.map f).flatMap enc).length ≤ 30 * sumB S l
  | [], _ => Nat.zero_le _
  | x :: l, h => by
    have h1 := h x (List.mem_cons_self ..)
    have h2 := flat_B S f enc l (fun y hy => h y (List.mem_cons_of_mem _ hy))
    rw [List.map_cons, List.flatMap_cons, List.length_append]
    simp only [sumB]; omega
theorem encV_B {x : V3} (hV : valS.V x) (hB : valS.B x ≤ 1048576) : (encV (toV x)).length ≤ 30 * valS.B x := by
  have e : valS.B x = 1 + (1 + (x.2.2.length + 1)) + 1 := rfl
  obtain ⟨h1, h2⟩ := wf_i64 hV.1
  obtain ⟨h3, h4⟩ := wf_i64 hV.2.1
  have a1 := encI_len h1 h2
  have a2 := encI_len h3 h4
  have a3 := encT_len (t := x.2.2) (by omega)
  unfold encV
  rw [List.length_append]
  show (encI x.1).length + _ ≤ _
  split
  · show _ + (encI x.2.1).length ≤ _; omega
  · split
    · show _ + (encT x.2.2).length ≤ _; omega
    · show _ + 0 ≤ _; omega
theorem encVs_B {x : Sl V3} (hV : (sliceS valS).V x) (hB : sumB valS x.2.2 + 1 ≤ 1048576) : (encVs (x.2.2.map toV)).length ≤ 10 + 30 * sumB valS x.2.2 ∧ (x.2.2.map toV).length ≤ 1048576 ∧ ∀ v ∈ x.2.2.map toV, v.ok := by
  have h1 := le_sumB valS valS_B x.2.2
  have h2 := flat_B valS toV encV x.2.2 (fun y hy => encV_B (hV.2.2.2 y hy) (by have := mem_sumB valS x.2.2 y hy; omega))
  have h3 := encI_len (n := ((x.2.2.map toV).length : Int)) (by omega) (by rw [List.length_map]; omega)
  refine ⟨by unfold encVs; rw [List.length_append]; omega, by rw [List.length_map]; omega, fun v hv => ?_⟩
  obtain ⟨y, hy, rfl⟩ := List.mem_map.1 hv
  exact valS_ok (hV.2.2.2 y hy) (by have := mem_sumB valS x.2.2 y hy; omega)
theorem clS_B (x : Cl2) : clS.B x = 1 + (1 + (1 + ((sumB valS x.2.2.2.1.2.2 + 1) + (sumB valS x.2.2.2.2.2.2 + 1)))) + 1 := rfl
theorem stS_B (x : St2) : stS.B x = 1 + (1 + (1 + ((sumB clS x.2.2.2.1.2.2 + 1) + ((sumB obS x.2.2.2.2.1.2.2 + 1) + ((x.2.2.2.2.2.1.length + 1) + 1))))) + 1 := rfl
theorem cl_ok {x : Cl2} (hV : clS.V x) (hB : clS.B x ≤ 1048576) : (toCl x).ok ∧ (encC (toCl x).p).length ≤ 30 * clS.B x := by
  rw [clS_B] at hB ⊢
  obtain ⟨v1, v2, v3, v4, v5⟩ := hV
  have a := encVs_B v4 (by omega)
  have b := encVs_B v5 (by omega)
  have c1 := encI_len (wf_i64 v1).1 (wf_i64 v1).2
  have c2 := encI_len (wf_i64 v2).1 (wf_i64 v2).2
  have c3 := encI_len (wf_i64 v3).1 (wf_i64 v3).2
  refine ⟨⟨wf_i64 v1, wf_i64 v2, wf_i64 v3, a.2.1, b.2.1, a.2.2, b.2.2⟩, ?_⟩
  show (encI x.1 ++ encI x.2.1 ++ encI x.2.2.1 ++ encVs (x.2.2.2.1.2.2.map toV) ++ encVs (x.2.2.2.2.2.2.map toV)).length ≤ _
  simp only [List.length_append]
  omega
theorem ob_enc {x : Ob2} (hV : obS.V x) (hB : obS.B x ≤ 1048576) : (∀ v ∈ (toOb x).cells, v.ok) ∧ (encO (toOb x).o).length ≤ 30 * obS.B x := by
  rw [obS_B] at hB ⊢
  have a := encVs_B hV.2 (by omega)
  have b := encT_len (t := x.1) (by omega)
  refine ⟨a.2.2, ?_⟩
  show (encT x.1 ++ encVs (x.2.2.2.map toV)).length ≤ _
  rw [List.length_append]
  omega
theorem st_ok {x : St2} (hV : stS.V x) (hB : stS.B x ≤ 1048576) : (toSv x).ok ∧ (encS (toSv x).p).length ≤ 67108864 := by
  rw [stS_B] at hB
  obtain ⟨v1, v2, v3, v4, v5, v6, v7⟩ := hV
  have oo := obs_ok v5 (by show sumB obS x.2.2.2.2.1.2.2 + 1 ≤ _; omega)
  have hc : ∀ y ∈ x.2.2.2.1.2.2, (toCl y).ok ∧ (encC (toCl y).p).length ≤ 30 * clS.B y := fun y hy => cl_ok (v4.2.2.2 y hy) (by have := mem_sumB clS x.2.2.2.1.2.2 y hy; omega)
  have ho : ∀ y ∈ x.2.2.2.2.1.2.2, (∀ v ∈ (toOb y).cells, v.ok) ∧ (encO (toOb y).o).length ≤ 30 * obS.B y := fun y hy => ob_enc (v5.2.2.2 y hy) (by have := mem_sumB obS x.2.2.2.2.1.2.2 y hy; omega)
  have l1 := le_sumB clS (fun y => by rw [clS_B]; omega) x.2.2.2.1.2.2
  have l2 := le_sumB obS (fun y => by rw [obS_B]; omega) x.2.2.2.2.1.2.2
  have f1 := flat_B clS (fun y => (toCl y).p) encC _ (fun y hy => (hc y hy).2)
  have f2 := flat_B obS (fun y => (toOb y).o) encO _ (fun y hy => (ho y hy).2)
  have c1 := encI_len (wf_i64 v1).1 (wf_i64 v1).2
  have c2 := encI_len (wf_i64 v2).1 (wf_i64 v2).2
  have c3 := encI_len (wf_i64 v3).1 (wf_i64 v3).2
  have c4 := encI_len (wf_i64 v7).1 (wf_i64 v7).2
  have c5 := encT_len (t := x.2.2.2.2.2.1) (by omega)
  have e1 : (x.2.2.2.1.2.2.map toCl).length = x.2.2.2.1.2.2.length := List.length_map ..
  have e2 : (x.2.2.2.2.1.2.2.map toOb).length = x.2.2.2.2.1.2.2.length := List.length_map ..
  have c6 := encI_len (n := (((x.2.2.2.1.2.2.map toCl).map Cl.p).length : Int)) (by omega) (by rw [List.length_map]; omega)
  have c7 := encI_len (n := (((x.2.2.2.2.1.2.2.map toOb).map Ob.o).length : Int)) (by omega) (by rw [List.length_map]; omega)
  refine ⟨⟨wf_i64 v1, wf_i64 v2, wf_i64 v3, wf_i64 v7, by show (x.2.2.2.1.2.2.map toCl).length ≤ _; omega, fun y hy => ?_, by show (x.2.2.2.2.1.2.2.map toOb).length ≤ _; omega, oo.1, fun y hy => ?_, by show x.2.2.2.2.2.1.length ≤ _; omega, by have := oo.2.2.2; exact Nat.le_trans this (by omega)⟩, ?_⟩
  · obtain ⟨z, hz, rfl⟩ := List.mem_map.1 hy
    exact (hc z hz).1
  · obtain ⟨z, hz, rfl⟩ := List.mem_map.1 hy
    exact (ho z hz).1
  · show ((encI x.1 ++ (encI x.2.1 ++ (encI x.2.2.1 ++ (encI x.2.2.2.2.2.2 ++ [])))) ++ encT x.2.2.2.2.2.1 ++ (encI ((x.2.2.2.1.2.2.map toCl).map Cl.p).length ++ ((x.2.2.2.1.2.2.map toCl).map Cl.p).flatMap encC) ++ (encI ((x.2.2.2.2.1.2.2.map toOb).map Ob.o).length ++ ((x.2.2.2.2.1.2.2.map toOb).map Ob.o).flatMap encO)).length ≤ _
    rw [List.map_map, List.map_map] at *
    simp only [List.length_append, List.length_nil]
    have f1' : ((x.2.2.2.1.2.2.map (Cl.p ∘ toCl)).flatMap encC).length ≤ 30 * sumB clS x.2.2.2.1.2.2 := f1
    have f2' : ((x.2.2.2.2.1.2.2.map (Ob.o ∘ toOb)).flatMap encO).length ≤ 30 * sumB obS x.2.2.2.2.1.2.2 := f2
    omega
theorem SnapWrites_in (x0 : St2) (hV : stS.V x0) (hB : stS.B x0 ≤ 1048576) :
    Does Tryz.prog 10 [.agg (stS.C x0).toArray] [deep stS x0, gWords, gPow] (fun v hp' => v = .bool true ∧ hp' = []) := by
  obtain ⟨h1, h2⟩ := st_ok hV hB
  have h := SnapWrites_spec (toSv x0) h1 (by omega)
  rw [stS_C]
  refine h.pre (fun w hw => ?_) (fun k hk => ?_)
  · obtain ⟨h3, h4, h5, h6⟩ := st_hold (hw.holds (deep stS x0) (by simp))
    refine Go.Sx.hs_ro (fun d hdm => ?_) (fun d hdm => ?_)
    · simp only [List.mem_cons, List.not_mem_nil, or_false] at hdm
      rcases hdm with rfl | rfl | rfl | rfl | rfl
      · exact h3
      · exact h4
      · exact h5
      · exact h6
      · exact hw.holds gWords (by simp)
    · simp only [List.mem_cons, List.not_mem_nil, or_false] at hdm
      rcases hdm with rfl | rfl | rfl | rfl | rfl <;> exact fun h => h
  · obtain ⟨d, hdm, hr, _⟩ := hk
    simp only [List.mem_cons, List.not_mem_nil, or_false] at hdm
    rcases hdm with rfl | rfl | rfl | rfl | rfl <;> exact hr.elim
end Go.Proofs.YtpfhleghgkeemaaGreatDoor
namespace Go.Proofs.YtpfhleghgkeemaaGreatDoor
open Go Go.Sx
def tkr (g : Nat) (s : List UInt8) (A e : Int) : Ch := .blk g 145 [.string (mkS s), .int .i64 A, .int .i64 e]
theorem tnum_spec (g A : Nat) (s : List UInt8) (e : Int) (hA : A ≤ s.length) (hl : s.length ≤ 1099511627776) :
    Does Tryz.prog 84 [.pointer (some ⟨g, 0, none⟩)] [tkr g s A e] (fun v hp' => v = .int .i64 (rI s (A, e)).1 ∧ hp' = [tkr g s (rI s (A, e)).2.1 (rI s (A, e)).2.2]) := by
  have h := rInt_spec s A e hA hl
  unfold rrd at h
  unfold tkr
  refine fn_enter Tryz.func84 rfl 18 rfl fun w0 h0 => ?_
  refine SQ (RG ?_)
  refine RR [] .z (.i 2 (.int .i64 0) .a) .a ?_
  refine RZ (NT (SQ (RG ?_)))
  refine RR [0, 0, 0] (.d (.d (.d (.d .a)))) (.i 9 (.agg #[.string (mkS s), .int .i64 (↑A : Int), .int .i64 e]) .a) .a ?_
  refine RC (dst := some 10) [] .a (h) ?_
  rintro v _ ⟨rfl, rfl⟩
  refine RP [] (.d (.d (.d (.d .a)))) 3 (.i 12 (.int .i64 (rd 0 A e (num (List.drop A s))).fst) (.i 11 (.agg #[.string (mkS s), .int .i64 (↑(rd 0 A e (num (List.drop A s))).snd.fst : Int), .int .i64 (rd 0 A e (num (List.drop A s))).snd.snd]) (.d (.d (.k .a))))) .a 143 [.string ⟨#[]⟩, .int .i64 0, .int .i64 0] fun g1 => ?_
  refine RR [1, 1, 1] .z (.i 4 (.int .i64 (rd 0 A e (num (List.drop A s))).fst) (.k (.d (.d (.k .a))))) (.k (.u (.i (.string (mkS s)) (.i (.int .i64 (↑(rd 0 A e (num (List.drop A s))).snd.fst : Int)) (.i (.int .i64 (rd 0 A e (num (List.drop A s))).snd.snd) .z))) .a)) ?_
  refine RZ (NT (SQ (RG ?_)))
  refine RR [1, 1, 1, 0, 0, 0] .z (.k (.d (.k .z))) (.u (.k (.i (.int .i64 (↑(rd 0 A e (num (List.drop A s))).snd.fst : Int)) (.i (.int .i64 (rd 0 A e (num (List.drop A s))).snd.snd) .z))) .a) ?_
  refine RZ (NT (SQ (RG ?_)))
  refine RR [] .z (.i 2 (.int .i64 (rd 0 A e (num (List.drop A s))).fst) .z) .a ?_
  refine RZ (NT (RE ?_))
  refine NE [0] (.k .z) (.d (.k .a)) [] (.int .i64 (rd 0 A e (num (List.drop A s))).fst) ?_
  exact ⟨rfl, rfl⟩
theorem tcount_spec (g A : Nat) (s : List UInt8) (e : Int) (hA : A ≤ s.length) (hl : s.length ≤ 1099511627776) :
    Does Tryz.prog 86 [.pointer (some ⟨g, 0, none⟩)] [tkr g s A e] (fun v hp' => v = .int .i64 (rC s 1048576 (A, e)).1 ∧ hp' = [tkr g s (rC s 1048576 (A, e)).2.1 (rC s 1048576 (A, e)).2.2]) := by
  have h := rCount_spec s A e 1048576 hA hl
  unfold rrd at h
  unfold tkr
  refine fn_enter Tryz.func86 rfl 18 rfl fun w0 h0 => ?_
  refine SQ (RG ?_)
  refine RR [] .z (.i 2 (.int .i64 0) .a) .a ?_
  refine RZ (NT (SQ (RG ?_)))
  refine RR [0, 0, 0] (.d (.d (.d (.d .a)))) (.i 9 (.agg #[.string (mkS s), .int .i64 (↑A : Int), .int .i64 e]) .a) .a ?_
  refine RC (dst := some 10) [] .a (h) ?_
  rintro v _ ⟨rfl, rfl⟩
  refine RP [] (.d (.d (.d (.d .a)))) 3 (.i 12 (.int .i64 (rd 0 A e (cnt (List.drop A s) 1048576)).fst) (.i 11 (.agg #[.string (mkS s), .int .i64 (↑(rd 0 A e (cnt (List.drop A s) 1048576)).snd.fst : Int), .int .i64 (rd 0 A e (cnt (List.drop A s) 1048576)).snd.snd]) (.d (.d (.k .a))))) .a 143 [.string ⟨#[]⟩, .int .i64 0, .int .i64 0] fun g1 => ?_
  refine RR [1, 1, 1] .z (.i 4 (.int .i64 (rd 0 A e (cnt (List.drop A s) 1048576)).fst) (.k (.d (.d (.k .a))))) (.k (.u (.i (.string (mkS s)) (.i (.int .i64 (↑(rd 0 A e (cnt (List.drop A s) 1048576)).snd.fst : Int)) (.i (.int .i64 (rd 0 A e (cnt (List.drop A s) 1048576)).snd.snd) .z))) .a)) ?_
  refine RZ (NT (SQ (RG ?_)))
  refine RR [1, 1, 1, 0, 0, 0] .z (.k (.d (.k .z))) (.u (.k (.i (.int .i64 (↑(rd 0 A e (cnt (List.drop A s) 1048576)).snd.fst : Int)) (.i (.int .i64 (rd 0 A e (cnt (List.drop A s) 1048576)).snd.snd) .z))) .a) ?_
  refine RZ (NT (SQ (RG ?_)))
  refine RR [] .z (.i 2 (.int .i64 (rd 0 A e (cnt (List.drop A s) 1048576)).fst) .z) .a ?_
  refine RZ (NT (RE ?_))
  refine NE [0] (.k .z) (.d (.k .a)) [] (.int .i64 (rd 0 A e (cnt (List.drop A s) 1048576)).fst) ?_
  exact ⟨rfl, rfl⟩
theorem ttext_spec (g A : Nat) (s : List UInt8) (e m : Int) (hA : A ≤ s.length) (hl : s.length ≤ 1099511627776) :
    Does Tryz.prog 85 [.pointer (some ⟨g, 0, none⟩), .int .i64 m] [tkr g s A e] (fun v hp' => v = .string (mkS (rT s m (A, e)).1) ∧ hp' = [tkr g s (rT s m (A, e)).2.1 (rT s m (A, e)).2.2]) := by
  have h := rText_spec s A e m hA hl
  unfold rrd at h
  unfold tkr
  refine fn_enter Tryz.func85 rfl 21 rfl fun w0 h0 => ?_
  refine SQ (RG ?_)
  refine RR [] .z (.i 4 (.string ⟨#[]⟩) .a) .a ?_
  refine RZ (NT (SQ (RG ?_)))
  refine RR [0, 0, 0] (.d (.d (.d (.d (.d .a))))) (.i 12 (.int .i64 m) (.i 11 (.agg #[.string (mkS s), .int .i64 (↑A : Int), .int .i64 e]) (.k (.k .z)))) .a ?_
  refine RC (dst := some 13) [] .a (h) ?_
  rintro v _ ⟨rfl, rfl⟩
  refine RP [] (.d (.d (.d (.d .a)))) 5 (.i 15 (.string (mkS (rd [] A e (txW (List.drop A s) m)).fst)) (.i 14 (.agg #[.string (mkS s), .int .i64 (↑(rd [] A e (txW (List.drop A s) m)).snd.fst : Int), .int .i64 (rd [] A e (txW (List.drop A s) m)).snd.snd]) (.d (.d (.d (.k .a)))))) .a 143 [.string ⟨#[]⟩, .int .i64 0, .int .i64 0] fun g1 => ?_
  refine RR [1, 1, 1] .z (.i 6 (.string (mkS (rd [] A e (txW (List.drop A s) m)).fst)) (.k (.d (.d (.k .a))))) (.k (.u (.i (.string (mkS s)) (.i (.int .i64 (↑(rd [] A e (txW (List.drop A s) m)).snd.fst : Int)) (.i (.int .i64 (rd [] A e (txW (List.drop A s) m)).snd.snd) .z))) .a)) ?_
  refine RZ (NT (SQ (RG ?_)))
  refine RR [1, 1, 1, 0, 0, 0] .z (.k (.d (.k .z))) (.u (.k (.i (.int .i64 (↑(rd [] A e (txW (List.drop A s) m)).snd.fst : Int)) (.i (.int .i64 (rd [] A e (txW (List.drop A s) m)).snd.snd) .z))) .a) ?_
  refine RZ (NT (SQ (RG ?_)))
  refine RR [] .z (.i 4 (.string (mkS (rd [] A e (txW (List.drop A s) m)).fst)) .z) .a ?_
  refine RZ (NT (RE ?_))
  refine NE [0] (.k .z) (.d (.k .a)) [] (.string (mkS (rd [] A e (txW (List.drop A s) m)).fst)) ?_
  exact ⟨rfl, rfl⟩
theorem twell_spec (g : Nat) (A : Int) (s : List UInt8) (e : Int) :
    Does Tryz.prog 87 [.pointer (some ⟨g, 0, none⟩)] [tkr g s A e] (fun v hp' => v = .bool (decide (e = 0)) ∧ hp' = [tkr g s A e]) := by
  unfold tkr
  refine fn_enter Tryz.func87 rfl 9 rfl fun w0 h0 => ?_
  refine SQ (RG ?_)
  refine RR [] .z (.i 2 (.bool false) .a) .a ?_
  refine RZ (NT (SQ (RG ?_)))
  refine RR [0] .z (.i 2 (.bool (e == (0 : Int))) .z) .a ?_
  refine RZ (NT (RE ?_))
  refine NE [0] .a .z [] (.bool (e == 0)) ?_
  refine ⟨?_, rfl⟩
  by_cases h : e = 0 <;> simp [h]
end Go.Proofs.YtpfhleghgkeemaaGreatDoor
namespace Go.Proofs.YtpfhleghgkeemaaGreatDoor
open Go Go.Sx
theorem tval_spec (r A : Nat) (s : List UInt8) (e : Int) (hA : A ≤ s.length) (hl : s.length ≤ 1099511627776) :
    Does Tryz.prog 127 [.pointer (some ⟨r, 0, none⟩)] [tkr r s A e] (fun v hp' => v = valV (rV s (A, e)).1 ∧ hp' = [tkr r s (rV s (A, e)).2.1 (rV s (A, e)).2.2]) := by
  obtain ⟨g1, g2, -, -⟩ := goes_rI s (A, e) hA
  unfold valV rV
  refine fn_enter Tryz.func127 rfl 22 rfl fun w0 h0 => ?_
  refine SQ (RG ?_)
  refine RP [] .z 2 .a (.i (.blk r 145 [.string (mkS s), .int .i64 (↑A : Int), .int .i64 e]) .z) 28 [.int .i64 0, .int .i64 0, .string ⟨#[]⟩] fun g3 => ?_
  refine RZ (NT (SQ (RG ?_)))
  refine RR [] (.d .a) (.i 4 (.pointer (some ⟨r, 0, none⟩)) .a) .a ?_
  refine RC (dst := some 5) [0] (.d (.k .a)) (tnum_spec r A s e hA hl) ?_
  rintro v _ ⟨rfl, rfl⟩
  obtain ⟨⟨k, A1, e1⟩, hx⟩ : ∃ x, x = rI s (A, e) := ⟨_, rfl⟩
  rw [← hx] at g1 g2 ⊢
  dsimp only at g1 g2 ⊢
  by_cases k1 : k = 1
  · rw [if_pos (.inl k1)]
    refine RP [] (.d (.d .a)) 3 (.i 6 (.agg #[.int .i64 k, .int .i64 0, .string ⟨#[]⟩]) (.d (.d (.k .a)))) (.i (.blk r 145 [.string (mkS s), .int .i64 (↑A1 : Int), .int .i64 e1]) (.d (.k .a))) 28 [.int .i64 0, .int .i64 0, .string ⟨#[]⟩] fun g4 => ?_
    refine RR [2, 2, 2] .z (.k (.d (.k .a))) (.k (.k (.u (.i (.int .i64 k) (.d (.k .a))) .a))) ?_
    refine RZ (NT (SQ (SQ (RG ?_))))
    refine RR [2] .z (.i 8 (.int .i64 k) .a) .a ?_
    refine RZ (NT (BK (SQ (SQ (RG ?_)))))
    refine RR [] .z (.i 9 (.bool (k == (1 : Int))) .a) .a ?_
    refine RZ (NT ?_)
    refine SC 9 (k == (1 : Int)) true (by simp only [bne_iff_ne, beq_iff_eq, ne_eq]; omega) ?_
    refine CT (SK (NT (CT (RG ?_))))
    refine RR [] (.d .a) (.i 13 (.pointer (some ⟨r, 0, none⟩)) (.d (.d (.d (.k (.k .z)))))) .a ?_
    refine RC (dst := some 14) [0] (.d (.k .a)) (tnum_spec r A1 s e1 g2 hl) ?_
    rintro v _ ⟨rfl, rfl⟩
    refine RR [2] .z (.d (.d (.k .a))) (.i (.blk r 145 [.string (mkS s), .int .i64 (↑(rI s (A1, e1)).snd.fst : Int), .int .i64 (rI s (A1, e1)).snd.snd]) (.d (.k (.u (.k (.i (.int .i64 (rI s (A1, e1)).fst) (.d (.k .a)))) .a)))) ?_
    refine RZ (BN (NT (SQ (RG ?_))))
    refine RR [2, 2, 2, 1, 1, 1] .z (.d (.k .a)) (.k (.u (.i (.int .i64 k) (.i (.int .i64 (rI s (A1, e1)).fst) (.d (.d (.k .a))))) .a)) ?_
    refine RZ (NT (RE ?_))
    refine NE [0] (.k .z) (.d (.k .a)) [1, 1, 1] (.agg #[.int .i64 k, .int .i64 (rI s (A1, e1)).fst, .string ⟨#[]⟩]) ?_
    exact ⟨rfl, rfl⟩
  by_cases k2 : k = 2
  · rw [if_pos (.inr (.inl k2))]
    refine RP [] (.d (.d .a)) 3 (.i 6 (.agg #[.int .i64 k, .int .i64 0, .string ⟨#[]⟩]) (.d (.d (.k .a)))) (.i (.blk r 145 [.string (mkS s), .int .i64 (↑A1 : Int), .int .i64 e1]) (.d (.k .a))) 28 [.int .i64 0, .int .i64 0, .string ⟨#[]⟩] fun g4 => ?_
    refine RR [2, 2, 2] .z (.k (.d (.k .a))) (.k (.k (.u (.i (.int .i64 k) (.d (.k .a))) .a))) ?_
    refine RZ (NT (SQ (SQ (RG ?_))))
    refine RR [2] .z (.i 8 (.int .i64 k) .a) .a ?_
    refine RZ (NT (BK (SQ (SQ (RG ?_)))))
    refine RR [] .z (.i 9 (.bool (k == (1 : Int))) .a) .a ?_
    refine RZ (NT ?_)
    refine SC 9 (k == (1 : Int)) false (by simp only [bne_eq_false_iff_eq, beq_eq_false_iff_ne, ne_eq]; omega) ?_
    refine CF (SQ (RG ?_))
    refine RR [] .z (.i 9 (.bool (k == (2 : Int))) (.d (.d (.k .a)))) .a ?_
    refine RZ (NT ?_)
    refine SC 9 (k == (2 : Int)) true (by simp only [bne_iff_ne, beq_iff_eq, ne_eq]; omega) ?_
    refine CT (SK (NT (CT (RG ?_))))
    refine RR [] (.d .a) (.i 13 (.pointer (some ⟨r, 0, none⟩)) (.d (.d (.d (.k (.k .z)))))) .a ?_
    refine RC (dst := some 14) [0] (.d (.k .a)) (tnum_spec r A1 s e1 g2 hl) ?_
    rintro v _ ⟨rfl, rfl⟩
    refine RR [2] .z (.d (.d (.k .a))) (.i (.blk r 145 [.string (mkS s), .int .i64 (↑(rI s (A1, e1)).snd.fst : Int), .int .i64 (rI s (A1, e1)).snd.snd]) (.d (.k (.u (.k (.i (.int .i64 (rI s (A1, e1)).fst) (.d (.k .a)))) .a)))) ?_
    refine RZ (BN (NT (SQ (RG ?_))))
    refine RR [2, 2, 2, 1, 1, 1] .z (.d (.k .a)) (.k (.u (.i (.int .i64 k) (.i (.int .i64 (rI s (A1, e1)).fst) (.d (.d (.k .a))))) .a)) ?_
    refine RZ (NT (RE ?_))
    refine NE [0] (.k .z) (.d (.k .a)) [1, 1, 1] (.agg #[.int .i64 k, .int .i64 (rI s (A1, e1)).fst, .string ⟨#[]⟩]) ?_
    exact ⟨rfl, rfl⟩
  by_cases k4 : k = 4
  · rw [if_pos (.inr (.inr k4))]
    refine RP [] (.d (.d .a)) 3 (.i 6 (.agg #[.int .i64 k, .int .i64 0, .string ⟨#[]⟩]) (.d (.d (.k .a)))) (.i (.blk r 145 [.string (mkS s), .int .i64 (↑A1 : Int), .int .i64 e1]) (.d (.k .a))) 28 [.int .i64 0, .int .i64 0, .string ⟨#[]⟩] fun g4 => ?_
    refine RR [2, 2, 2] .z (.k (.d (.k .a))) (.k (.k (.u (.i (.int .i64 k) (.d (.k .a))) .a))) ?_
    refine RZ (NT (SQ (SQ (RG ?_))))
    refine RR [2] .z (.i 8 (.int .i64 k) .a) .a ?_
    refine RZ (NT (BK (SQ (SQ (RG ?_)))))
    refine RR [] .z (.i 9 (.bool (k == (1 : Int))) .a) .a ?_
    refine RZ (NT ?_)
    refine SC 9 (k == (1 : Int)) false (by simp only [bne_eq_false_iff_eq, beq_eq_false_iff_ne, ne_eq]; omega) ?_
    refine CF (SQ (RG ?_))
    refine RR [] .z (.i 9 (.bool (k == (2 : Int))) (.d (.d (.k .a)))) .a ?_
    refine RZ (NT ?_)
    refine SC 9 (k == (2 : Int)) false (by simp only [bne_eq_false_iff_eq, beq_eq_false_iff_ne, ne_eq]; omega) ?_
    refine CF (RG ?_)
    refine RR [] .z (.i 9 (.bool (k == (4 : Int))) (.d (.d (.k .a)))) .a ?_
    refine RZ (NT ?_)
    refine SC 9 (k == (4 : Int)) true (by simp only [bne_iff_ne, beq_iff_eq, ne_eq]; omega) ?_
    refine CT (RG ?_)
    refine RR [] (.d .a) (.i 13 (.pointer (some ⟨r, 0, none⟩)) (.d (.d (.d (.k (.k .z)))))) .a ?_
    refine RC (dst := some 14) [0] (.d (.k .a)) (tnum_spec r A1 s e1 g2 hl) ?_
    rintro v _ ⟨rfl, rfl⟩
    refine RR [2] .z (.d (.d (.k .a))) (.i (.blk r 145 [.string (mkS s), .int .i64 (↑(rI s (A1, e1)).snd.fst : Int), .int .i64 (rI s (A1, e1)).snd.snd]) (.d (.k (.u (.k (.i (.int .i64 (rI s (A1, e1)).fst) (.d (.k .a)))) .a)))) ?_
    refine RZ (BN (NT (SQ (RG ?_))))
    refine RR [2, 2, 2, 1, 1, 1] .z (.d (.k .a)) (.k (.u (.i (.int .i64 k) (.i (.int .i64 (rI s (A1, e1)).fst) (.d (.d (.k .a))))) .a)) ?_
    refine RZ (NT (RE ?_))
    refine NE [0] (.k .z) (.d (.k .a)) [1, 1, 1] (.agg #[.int .i64 k, .int .i64 (rI s (A1, e1)).fst, .string ⟨#[]⟩]) ?_
    exact ⟨rfl, rfl⟩
  rw [if_neg (by omega)]
  by_cases k3 : k = 3
  · rw [if_pos k3]
    refine RP [] (.d (.d .a)) 3 (.i 6 (.agg #[.int .i64 k, .int .i64 0, .string ⟨#[]⟩]) (.d (.d (.k .a)))) (.i (.blk r 145 [.string (mkS s), .int .i64 (↑A1 : Int), .int .i64 e1]) (.d (.k .a))) 28 [.int .i64 0, .int .i64 0, .string ⟨#[]⟩] fun g4 => ?_
    refine RR [2, 2, 2] .z (.k (.d (.k .a))) (.k (.k (.u (.i (.int .i64 k) (.d (.k .a))) .a))) ?_
    refine RZ (NT (SQ (SQ (RG ?_))))
    refine RR [2] .z (.i 8 (.int .i64 k) .a) .a ?_
    refine RZ (NT (BK (SQ (SQ (RG ?_)))))
    refine RR [] .z (.i 9 (.bool (k == (1 : Int))) .a) .a ?_
    refine RZ (NT ?_)
    refine SC 9 (k == (1 : Int)) false (by simp only [bne_eq_false_iff_eq, beq_eq_false_iff_ne, ne_eq]; omega) ?_
    refine CF (SQ (RG ?_))
    refine RR [] .z (.i 9 (.bool (k == (2 : Int))) (.d (.d (.k .a)))) .a ?_
    refine RZ (NT ?_)
    refine SC 9 (k == (2 : Int)) false (by simp only [bne_eq_false_iff_eq, beq_eq_false_iff_ne, ne_eq]; omega) ?_
    refine CF (RG ?_)
    refine RR [] .z (.i 9 (.bool (k == (4 : Int))) (.d (.d (.k .a)))) .a ?_
    refine RZ (NT ?_)
    refine SC 9 (k == (4 : Int)) false (by simp only [bne_eq_false_iff_eq, beq_eq_false_iff_ne, ne_eq]; omega) ?_
    refine CF (SQ (RG ?_))
    refine RR [] .z (.i 16 (.bool (k == (3 : Int))) (.d (.d (.d (.k .a))))) .a ?_
    refine RZ (NT ?_)
    refine SC 16 (k == (3 : Int)) true (by simp only [bne_iff_ne, beq_iff_eq, ne_eq]; omega) ?_
    refine CT (RG ?_)
    refine RR [] (.d .a) (.i 18 (.pointer (some ⟨r, 0, none⟩)) (.d (.d (.k (.k .z))))) .a ?_
    refine RC (dst := some 19) [0] (.d (.k .a)) (ttext_spec r A1 s e1 255 g2 hl) ?_
    rintro v _ ⟨rfl, rfl⟩
    refine RR [2] .z (.d (.d (.k .a))) (.i (.blk r 145 [.string (mkS s), .int .i64 (↑(rT s 255 (A1, e1)).snd.fst : Int), .int .i64 (rT s 255 (A1, e1)).snd.snd]) (.d (.k (.u (.k (.k (.i (.string (mkS (rT s 255 (A1, e1)).fst)) .z))) .a)))) ?_
    refine RZ (BN (NT (SQ (RG ?_))))
    refine RR [2, 2, 2, 1, 1, 1] .z (.d (.k .a)) (.k (.u (.i (.int .i64 k) (.d (.k (.i (.string (mkS (rT s 255 (A1, e1)).fst)) .z)))) .a)) ?_
    refine RZ (NT (RE ?_))
    refine NE [0] (.k .z) (.d (.k .a)) [1, 1, 1] (.agg #[.int .i64 k, .int .i64 0, .string (mkS (rT s 255 (A1, e1)).fst)]) ?_
    exact ⟨rfl, rfl⟩
  · rw [if_neg k3]
    refine RP [] (.d (.d .a)) 3 (.i 6 (.agg #[.int .i64 k, .int .i64 0, .string ⟨#[]⟩]) (.d (.d (.k .a)))) (.i (.blk r 145 [.string (mkS s), .int .i64 (↑A1 : Int), .int .i64 e1]) (.d (.k .a))) 28 [.int .i64 0, .int .i64 0, .string ⟨#[]⟩] fun g4 => ?_
    refine RR [2, 2, 2] .z (.k (.d (.k .a))) (.k (.k (.u (.i (.int .i64 k) (.d (.k .a))) .a))) ?_
    refine RZ (NT (SQ (SQ (RG ?_))))
    refine RR [2] .z (.i 8 (.int .i64 k) .a) .a ?_
    refine RZ (NT (BK (SQ (SQ (RG ?_)))))
    refine RR [] .z (.i 9 (.bool (k == (1 : Int))) .a) .a ?_
    refine RZ (NT ?_)
    refine SC 9 (k == (1 : Int)) false (by simp only [bne_eq_false_iff_eq, beq_eq_false_iff_ne, ne_eq]; omega) ?_
    refine CF (SQ (RG ?_))
    refine RR [] .z (.i 9 (.bool (k == (2 : Int))) (.d (.d (.k .a)))) .a ?_
    refine RZ (NT ?_)
    refine SC 9 (k == (2 : Int)) false (by simp only [bne_eq_false_iff_eq, beq_eq_false_iff_ne, ne_eq]; omega) ?_
    refine CF (RG ?_)
    refine RR [] .z (.i 9 (.bool (k == (4 : Int))) (.d (.d (.k .a)))) .a ?_
    refine RZ (NT ?_)
    refine SC 9 (k == (4 : Int)) false (by simp only [bne_eq_false_iff_eq, beq_eq_false_iff_ne, ne_eq]; omega) ?_
    refine CF (SQ (RG ?_))
    refine RR [] .z (.i 16 (.bool (k == (3 : Int))) (.d (.d (.d (.k .a))))) .a ?_
    refine RZ (NT ?_)
    refine SC 16 (k == (3 : Int)) false (by simp only [bne_eq_false_iff_eq, beq_eq_false_iff_ne, ne_eq]; omega) ?_
    refine CF (SK (BN (NT (SQ (RG ?_)))))
    refine RR [2, 2, 2, 1, 1, 1] .z (.d (.d (.d (.k .z)))) (.k (.u (.i (.int .i64 k) (.d (.k .a))) .a)) ?_
    refine RZ (NT (RE ?_))
    refine NE [0] (.k .z) (.d (.k .a)) [1, 1, 1] (.agg #[.int .i64 k, .int .i64 0, .string ⟨#[]⟩]) ?_
    exact ⟨rfl, rfl⟩
theorem tall_spec (r A : Nat) (s : List UInt8) (e : Int) (hA : A ≤ s.length) (hl : s.length ≤ 1099511627776) :
    Does Tryz.prog 88 [.pointer (some ⟨r, 0, none⟩)] [tkr r s A e]
      (fun v hp' => ∃ a c, v = .slice a (rVs s (A, e)).1.length c ∧ hp' = [row 28 3 a (rVs s (A, e)).1.length c ((rVs s (A, e)).1.flatMap valC), tkr r s (rVs s (A, e)).2.1 (rVs s (A, e)).2.2]) := by
  obtain ⟨g1, g2, -, -⟩ := goes_rC s 1048576 (A, e) hA
  unfold rVs rRows
  refine fn_enter Tryz.func88 rfl 23 rfl fun w0 h0 => ?_
  refine SQ (RG ?_)
  refine RR [] .z (.i 2 (.slice none 0 0) .a) (.i (.blk r 145 [.string (mkS s), .int .i64 (↑A : Int), .int .i64 e]) .z) ?_
  refine RZ (NT (SQ (RG ?_)))
  refine RR [] .z (.i 3 (.slice none 0 0) .a) .a ?_
  refine RZ (NT (SQ (RG ?_)))
  refine RR [] (.d .a) (.i 6 (.pointer (some ⟨r, 0, none⟩)) .a) .a ?_
  refine RCA (dst := some 7) (tcount_spec r A s e hA hl) ?_
  rintro v _ ⟨rfl, rfl⟩
  obtain ⟨⟨k, A1, e1⟩, hx⟩ : ∃ x, x = rC s 1048576 (A, e) := ⟨_, rfl⟩
  rw [← hx] at g1 g2 ⊢
  dsimp only at g1 g2 ⊢
  have hk := rC_rng s (A, e)
  rw [← hx] at hk
  dsimp only at hk
  obtain ⟨n, rfl⟩ := Int.eq_ofNat_of_zero_le hk.1
  obtain ⟨⟨L, A9, e9⟩, ht⟩ : ∃ x, x = rMany (rV s) (n : Int).toNat (A1, e1) := ⟨_, rfl⟩
  rw [← ht]
  rw [Int.toNat_natCast] at ht
  have hln := many_len (goes_rV s) n (A1, e1) g2
  rw [← ht] at hln
  dsimp only at hln ⊢
  refine RR [] .z (.i 4 (.int .i64 (↑n : Int)) (.d (.d (.k .a)))) (.i (.blk r 145 [.string (mkS s), .int .i64 (↑A1 : Int), .int .i64 e1]) .z) ?_
  refine RZ (NT (SQ (SQ (RG ?_))))
  refine RR [] .z (.i 5 (.int .i64 0) .a) .a ?_
  refine RZ (NT (BK ?_))
  refine wpc_loop (X := {x : Nat × Option Addr × Nat × List V × Nat × Int // x.1 ≤ n ∧ x.2.2.2.2.1 ≤ s.length ∧ L = x.2.2.2.1 ++ (rMany (rV s) (n - x.1) x.2.2.2.2).1 ∧ (A9, e9) = (rMany (rV s) (n - x.1) x.2.2.2.2).2}) (fun x => St.mk [(5, .int .i64 (x.1.1 : Int)), (4, .int .i64 (n : Int)), (3, .slice x.1.2.1 x.1.2.2.2.1.length x.1.2.2.1), (2, .slice none 0 0), (0, .pointer (some ⟨r, 0, none⟩))]
    [row 28 3 x.1.2.1 x.1.2.2.2.1.length x.1.2.2.1 (x.1.2.2.2.1.flatMap valC), tkr r s x.1.2.2.2.2.1 x.1.2.2.2.2.2]) (fun x => n - x.1.1) ⟨(0, none, 0, [], A1, e1), Nat.zero_le _, g2, by rw [Nat.sub_zero, ← ht]; rfl, by rw [Nat.sub_zero, ← ht]⟩ ?_ ?_
  · exact Ent.trans (ent_nil 28 3) (ent_fr (by kernel_rfl))
  rintro ⟨⟨i, a1, c1, l1, A2, e2⟩, hkn, hA2, hL, hp⟩
  dsimp only at hkn hA2 hL hp ⊢
  have hll : l1.length ≤ 1048576 := by
    have := congrArg List.length hL
    rw [List.length_append] at this
    omega
  by_cases hlt : i < n
  · obtain ⟨k, hk2⟩ : ∃ k, n - i = k + 1 := ⟨n - i - 1, by omega⟩
    have hk3 : n - (i + 1) = k := by omega
    rw [hk2] at hL hp
    refine SQ (SQ (RG ?_))
    refine RR [] (.d (.d (.d (.d .a)))) (.i 11 (.bool (decide ((↑i : Int) < (↑n : Int)))) .a) (.k (.i (.blk r 145 [.string (mkS s), .int .i64 (↑A2 : Int), .int .i64 e2]) .z)) ?_
    refine SR 11 (decide ((↑i : Int) < (↑n : Int))) true (decide_eq_true (by omega)) ?_
    refine RR [] (.d .a) (.i 12 (.pointer (some ⟨r, 0, none⟩)) (.k (.d (.k .a)))) .a ?_
    refine RC (dst := some 13) [1] (.k .z) (twell_spec r A2 s e2) ?_
    rintro v _ ⟨rfl, rfl⟩
    by_cases he : e2 = 0
    · subst he
      rw [rMany_succ _ _ _ rfl] at hL hp
      have hg := goes_rV s (A2, 0) hA2
      refine RR [] .z (.i 14 (.bool true) (.d (.d (.d (.k .a))))) (.i (.blk r 145 [.string (mkS s), .int .i64 (↑A2 : Int), .int .i64 0]) (.d (.k .a))) ?_
      refine RZ (NT (CT (SK (NT (SQ (BK (RG ?_)))))))
      refine RR [] (.d (.d .a)) (.i 18 (.pointer (some ⟨r, 0, none⟩)) (.i 17 (.slice a1 l1.length c1) (.d (.k .a)))) .a ?_
      refine RC (dst := some 19) [0] (.d (.k .a)) (tval_spec r A2 s 0 hA2 hl) ?_
      rintro v _ ⟨rfl, rfl⟩
      obtain ⟨⟨v, A3, e3⟩, hv⟩ : ∃ x, x = rV s (A2, 0) := ⟨_, rfl⟩
      rw [← hv] at hg hL hp ⊢
      dsimp only at hg hL hp ⊢
      refine RN [] (.d .a) 20 (fun g3 => (.slice (some ⟨g3, 0, none⟩) 1 1)) (.d (.d (.k .a))) (.i (.blk r 145 [.string (mkS s), .int .i64 (↑A3 : Int), .int .i64 e3]) (.d (.k .a))) 28 [.int .i64 v.k, .int .i64 v.n, .string (mkS v.s)] fun g3 => ?_
      refine wpr_ent (ent_turn 2 (ro (some ⟨g3, 0, none⟩) (valC v)) rfl (turn_rblk (val1 _)) rfl) ?_
      refine wpr_app (a := a1) (n := l1.length) (cap := c1) (x := (.slice (some ⟨g3, 0, none⟩) 1 1)) (t := 25) (xt := 25) (dst := some 21) (by kernel_rfl) (e := 28) (sz := 3) (bytes := 32) (by kernel_rfl) 1 (xs := (List.flatMap valC l1)) (by kernel_rfl) (m := 1) (news := (valC v)) (fun w h => src_ro h 2 rfl rfl (fun e => by cases e)) (by unfold maxLen; omega) (by omega) ?_
      intro a3 c3 hn3
      rw [show l1.length + 1 = (l1 ++ [v]).length by simp, show l1.flatMap valC ++ valC v = (l1 ++ [v]).flatMap valC by simp]
      refine RR [] .z (.i 3 (.slice a3 (l1 ++ [v]).length c3) (.d (.d (.d (.k (.k (.d (.k .a)))))))) .a ?_
      refine RZ (BN (NT (RG ?_)))
      refine RV true [] .z (.i 5 (.int .i64 ((↑i : Int) + 1)) (.k (.d (.k .a)))) .a ([inI64 ((↑i : Int) + (1 : Int))]) ⟨by unfold inI64; omega, trivial⟩ ?_
      refine RZ ?_
      exact fun a' w' hS' => ⟨⟨(i + 1, a3, c3, l1 ++ [v], A3, e3), hlt, hg.2.1, by dsimp only; rw [hk3, hL, List.append_assoc]; rfl, by dsimp only; rw [hk3]; exact hp⟩, by dsimp only; omega, ent_fr (by kernel_rfl) _ _ (ent_hp [1, 0] rfl _ _ hS')⟩
    · rw [rMany_nil _ _ _ he] at hL hp
      cases hp
      rw [List.append_nil] at hL
      subst hL
      refine RR [] .z (.i 14 (.bool (decide (e9 = (0 : Int)))) (.d (.d (.d (.k .a))))) (.i (.blk r 145 [.string (mkS s), .int .i64 (↑A9 : Int), .int .i64 e9]) (.d (.k .a))) ?_
      refine RZ (NT ?_)
      refine SC 14 (decide (e9 = (0 : Int))) false (decide_eq_false (by omega)) ?_
      refine CF (EX (TE (TE (BH (NT (SQ (RG ?_)))))))
      refine RR [] .z (.i 2 (.slice a1 L.length c1) .z) .a ?_
      refine RZ (NT (RE ?_))
      refine NE [1, 0] (.i (row 28 3 a1 L.length c1 (List.flatMap valC L)) (.k .z)) .z [] (.slice a1 L.length c1) ?_
      exact ⟨a1, c1, rfl, rfl⟩
  · obtain rfl : i = n := by omega
    rw [Nat.sub_self] at hL hp
    rw [show rMany (rV s) 0 (A2, e2) = ([], A2, e2) from rfl] at hL hp
    cases hp
    rw [List.append_nil] at hL
    subst hL
    refine SQ (SQ (RG ?_))
    refine RR [] (.d (.d (.d (.d .a)))) (.i 11 (.bool (decide ((↑i : Int) < (↑i : Int)))) .a) (.k (.i (.blk r 145 [.string (mkS s), .int .i64 (↑A9 : Int), .int .i64 e9]) .z)) ?_
    refine SR 11 (decide ((↑i : Int) < (↑i : Int))) false (by simp) ?_
    refine RR [] .z (.i 14 (.bool false) (.d (.d (.k .a)))) .a ?_
    refine RZ (NT (CF (EX (TE (TE (BH (NT (SQ (RG ?_)))))))))
    refine RR [] .z (.i 2 (.slice a1 L.length c1) .z) .a ?_
    refine RZ (NT (RE ?_))
    refine NE [0, 0] .a .z [] (.slice a1 L.length c1) ?_
    exact ⟨a1, c1, rfl, rfl⟩
end Go.Proofs.YtpfhleghgkeemaaGreatDoor
namespace Go.Proofs.YtpfhleghgkeemaaGreatDoor
open Go Go.Sx
set_option maxHeartbeats 8000000 in
theorem rLoadS_spec (bs : List UInt8) (hl : bs.length ≤ 16777216) :
    Does Tryz.prog 45 [.string (mkS bs)] [] (fun v hp' => ∃ s : Sv, s.p = loadS bs ∧ s.ok ∧ v = .tuple #[.agg (svC s).toArray, .int .i64 (loadE bs)] ∧ hp' = svH s) := by
  refine fn_enter Tryz.func45 rfl 99 rfl fun w0 h0 => ?_
  refine SQ (RG ?_)
  refine RP [] (.d .a) 2 .a .a 75 [.int .i64 0, .int .i64 0, .int .i64 0, .slice none 0 0, .slice none 0 0, .string ⟨#[]⟩, .int .i64 0] fun g1 => ?_
  refine RR [] .z (.i 3 (.int .i64 0) .a) .a ?_
  refine RZ (NT (SQ (RG ?_)))
  refine RP [] (.d (.d (.d (.d .a)))) 15 (.k (.k .z)) .a 145 [.string (mkS bs), .int .i64 0, .int .i64 0] fun g2 => ?_
  refine RR [] .z (.i 4 (.pointer (some ⟨g2, 0, none⟩)) (.d (.k .a))) .a ?_
  refine RZ (NT (SQ (RG ?_)))
  refine RR [] (.d .a) (.i 16 (.pointer (some ⟨g2, 0, none⟩)) .a) .a ?_
  have hp := goes_rI bs (0, 0) (Nat.zero_le _)
  refine RC (dst := some 17) [1] (.k .z) (tnum_spec g2 0 bs 0 (Nat.zero_le _) (by omega)) ?_
  rintro v _ ⟨rfl, rfl⟩
  obtain ⟨⟨p, Ap, ep⟩, hxp⟩ : ∃ x, x = rI bs (0, 0) := ⟨_, rfl⟩
  rw [← hxp] at hp ⊢
  dsimp only at hp ⊢
  refine RP [] (.d (.d .a)) 5 (.i 18 (.agg #[.int .i64 p, .int .i64 0, .int .i64 0, .slice none 0 0, .slice none 0 0, .string ⟨#[]⟩, .int .i64 0]) (.d (.d (.k .a)))) (.i (.blk g2 145 [.string (mkS bs), .int .i64 (↑Ap : Int), .int .i64 ep]) (.d (.k .a))) 75 [.int .i64 0, .int .i64 0, .int .i64 0, .slice none 0 0, .slice none 0 0, .string ⟨#[]⟩, .int .i64 0] fun g3 => ?_
  refine RR [2, 2, 2, 2, 2, 2, 2] .z (.k (.d (.k .a))) (.k (.k (.u (.i (.int .i64 p) (.d (.k .a))) .a))) ?_
  refine RZ (NT (SQ (RG ?_)))
  refine RR [] (.d .a) (.i 19 (.pointer (some ⟨g2, 0, none⟩)) .a) .a ?_
  have ht := goes_rI bs (Ap, ep) hp.2.1
  refine RC (dst := some 20) [0] (.d (.k .a)) (tnum_spec g2 Ap bs ep hp.2.1 (by omega)) ?_
  rintro v _ ⟨rfl, rfl⟩
  obtain ⟨⟨t, At, et⟩, hxt⟩ : ∃ x, x = rI bs (Ap, ep) := ⟨_, rfl⟩
  rw [← hxt] at ht ⊢
  dsimp only at ht ⊢
  refine RR [2] .z (.d (.d (.k .a))) (.i (.blk g2 145 [.string (mkS bs), .int .i64 (↑At : Int), .int .i64 et]) (.d (.k (.u (.k (.i (.int .i64 t) (.d (.k .a)))) .a)))) ?_
  refine RZ (NT (SQ (RG ?_)))
  refine RR [] (.d .a) (.i 22 (.pointer (some ⟨g2, 0, none⟩)) .a) .a ?_
  have hf := goes_rI bs (At, et) ht.2.1
  refine RC (dst := some 23) [0] (.d (.k .a)) (tnum_spec g2 At bs et ht.2.1 (by omega)) ?_
  rintro v _ ⟨rfl, rfl⟩
  obtain ⟨⟨f, Af, ef⟩, hxf⟩ : ∃ x, x = rI bs (At, et) := ⟨_, rfl⟩
  rw [← hxf] at hf ⊢
  dsimp only at hf ⊢
  refine RR [2] .z (.d (.d (.k .a))) (.i (.blk g2 145 [.string (mkS bs), .int .i64 (↑Af : Int), .int .i64 ef]) (.d (.k (.u (.k (.k (.i (.int .i64 f) (.d (.k .a))))) .a)))) ?_
  refine RZ (NT (SQ (RG ?_)))
  refine RR [] (.d .a) (.i 25 (.pointer (some ⟨g2, 0, none⟩)) .a) .a ?_
  have hd := goes_rI bs (Af, ef) hf.2.1
  refine RC (dst := some 26) [0] (.d (.k .a)) (tnum_spec g2 Af bs ef hf.2.1 (by omega)) ?_
  rintro v _ ⟨rfl, rfl⟩
  obtain ⟨⟨d, Ad, ed⟩, hxd⟩ : ∃ x, x = rI bs (Af, ef) := ⟨_, rfl⟩
  rw [← hxd] at hd ⊢
  dsimp only at hd ⊢
  refine RR [2] .z (.d (.d (.k .a))) (.i (.blk g2 145 [.string (mkS bs), .int .i64 (↑Ad : Int), .int .i64 ed]) (.d (.k (.u (.k (.k (.k (.k (.k (.k (.i (.int .i64 d) .z))))))) .a)))) ?_
  refine RZ (NT (SQ (RG ?_)))
  refine RR [] (.d .a) (.i 28 (.pointer (some ⟨g2, 0, none⟩)) .a) .a ?_
  have ho := goes_rT bs 4096 (Ad, ed) hd.2.1
  refine RC (dst := some 29) [0] (.d (.k .a)) (ttext_spec g2 Ad bs ed 4096 hd.2.1 (by omega)) ?_
  rintro v _ ⟨rfl, rfl⟩
  obtain ⟨⟨o, Ao, eo⟩, hxo⟩ : ∃ x, x = rT bs 4096 (Ad, ed) := ⟨_, rfl⟩
  rw [← hxo] at ho ⊢
  dsimp only at ho ⊢
  refine RR [2] .z (.d (.d (.k .a))) (.i (.blk g2 145 [.string (mkS bs), .int .i64 (↑Ao : Int), .int .i64 eo]) (.d (.k (.u (.k (.k (.k (.k (.k (.i (.string (mkS o)) (.d (.k .a)))))))) .a)))) ?_
  refine RZ (NT (SQ (RG ?_)))
  refine RR [] (.d .a) (.i 31 (.pointer (some ⟨g2, 0, none⟩)) .a) .a ?_
  have hcc := goes_rC bs 1048576 (Ao, eo) ho.2.1
  have hcr := rC_rng bs (Ao, eo)
  refine RC (dst := some 32) [0] (.d (.k .a)) (tcount_spec g2 Ao bs eo ho.2.1 (by omega)) ?_
  rintro v _ ⟨rfl, rfl⟩
  obtain ⟨⟨nc, Bo, fo⟩, hxn⟩ : ∃ x, x = rC bs 1048576 (Ao, eo) := ⟨_, rfl⟩
  rw [← hxn] at hcc hcr ⊢
  dsimp only at hcc hcr ⊢
  obtain ⟨n, rfl⟩ := Int.eq_ofNat_of_zero_le hcr.1
  obtain ⟨⟨Lc, Ac, ec⟩, hxc⟩ : ∃ x, x = rMany (rCl bs) n (Bo, fo) := ⟨_, rfl⟩
  have hc := goes_many (goes_rCl bs) n (Bo, fo) hcc.2.1
  have hlc := many_len (goes_rCl bs) n (Bo, fo) hcc.2.1
  rw [← hxc] at hc hlc
  dsimp only at hc hlc
  refine RR [] .z (.i 6 (.int .i64 (↑n : Int)) (.d (.d (.k .a)))) (.i (.blk g2 145 [.string (mkS bs), .int .i64 (↑Bo : Int), .int .i64 fo]) (.d (.k .a))) ?_
  refine RZ (NT (SQ (SQ (RG ?_))))
  refine RR [] .z (.i 7 (.int .i64 0) .a) .a ?_
  refine RZ (NT (BK ?_))
  refine wpc_loop (X := {x : Nat × Option Addr × Nat × List Cl × Nat × Int // x.1 ≤ n ∧ x.2.2.2.2.1 ≤ bs.length ∧ Lc = x.2.2.2.1.map Cl.p ++ (rMany (rCl bs) (n - x.1) x.2.2.2.2).1 ∧ (Ac, ec) = (rMany (rCl bs) (n - x.1) x.2.2.2.2).2}) (fun x => St.mk [(7, .int .i64 (x.1.1 : Int)), (6, .int .i64 (n : Int)), (5, .pointer (some ⟨g3, 0, none⟩)), (4, .pointer (some ⟨g2, 0, none⟩)), (3, .int .i64 0), (2, .pointer (some ⟨g1, 0, none⟩))]
    [row 124 5 x.1.2.1 x.1.2.2.2.1.length x.1.2.2.1 (x.1.2.2.2.1.flatMap clC), star (x.1.2.2.2.1.flatMap clRows), tkr g2 bs x.1.2.2.2.2.1 x.1.2.2.2.2.2,
      .blk g1 75 [.int .i64 0, .int .i64 0, .int .i64 0, .slice none 0 0, .slice none 0 0, .string ⟨#[]⟩, .int .i64 0],
      .blk g3 75 [.int .i64 p, .int .i64 t, .int .i64 f, .slice x.1.2.1 x.1.2.2.2.1.length x.1.2.2.1, .slice none 0 0, .string (mkS o), .int .i64 d]]) (fun x => n - x.1.1) ⟨(0, none, 0, [], Bo, fo), Nat.zero_le _, hcc.2.1, by rw [Nat.sub_zero, ← hxc]; rfl, by rw [Nat.sub_zero, ← hxc]⟩ ?_ ?_
  · exact Ent.trans ent_star_nil (Ent.trans (ent_nil 124 5) (Ent.trans (ent_hp [0, 0, 0, 0, 0] rfl) (ent_fr (by kernel_rfl))))
  rintro ⟨⟨i, a1, c1, l1, A2, e2⟩, hin, hA2, hL, hp2⟩
  dsimp only at hin hA2 hL hp2 ⊢
  have hll : l1.length ≤ 1048576 := by
    have := congrArg List.length hL
    rw [List.length_append, List.length_map] at this
    omega
  by_cases hgo : i < n ∧ e2 = 0
  · obtain ⟨hlt, rfl⟩ := hgo
    obtain ⟨k, hk2⟩ : ∃ k, n - i = k + 1 := ⟨n - i - 1, by omega⟩
    have hk3 : n - (i + 1) = k := by omega
    rw [hk2, rMany_succ _ _ _ rfl] at hL hp2
    refine SQ (SQ (RG ?_))
    refine RR [] (.d (.d (.d (.d .a)))) (.i 36 (.bool (decide ((↑i : Int) < (↑n : Int)))) .a) (.k (.k (.i (.blk g2 145 [.string (mkS bs), .int .i64 (↑A2 : Int), .int .i64 0]) (.d (.k .a))))) ?_
    refine SR 36 (decide ((↑i : Int) < (↑n : Int))) true (decide_eq_true (by omega)) ?_
    refine RR [] (.d .a) (.i 37 (.pointer (some ⟨g2, 0, none⟩)) (.k (.d (.k .a)))) .a ?_
    refine RC (dst := some 38) [2] (.k (.k (.d (.k .a)))) (twell_spec g2 A2 bs 0) ?_
    rintro v _ ⟨rfl, rfl⟩
    refine RR [] .z (.i 39 (.bool true) (.d (.d (.d (.k .a))))) (.i (.blk g2 145 [.string (mkS bs), .int .i64 (↑A2 : Int), .int .i64 0]) (.d (.k .a))) ?_
    refine RZ (NT (CT (SK (NT (SQ (BK (SQ (RG ?_))))))))
    refine RR [] (.d .a) (.i 42 (.pointer (some ⟨g2, 0, none⟩)) (.d (.k .a))) .a ?_
    have hu := goes_rI bs (A2, 0) hA2
    refine RC (dst := some 43) [0] (.d (.k .a)) (tnum_spec g2 A2 bs 0 hA2 (by omega)) ?_
    rintro v _ ⟨rfl, rfl⟩
    obtain ⟨⟨u, Au, eu⟩, hxu⟩ : ∃ x, x = rI bs (A2, 0) := ⟨_, rfl⟩
    rw [← hxu] at hu ⊢
    dsimp only at hu ⊢
    refine RP [] (.d (.d .a)) 8 (.i 44 (.agg #[.int .i64 u, .int .i64 0, .int .i64 0, .slice none 0 0, .slice none 0 0]) (.d (.d (.k .a)))) (.i (.blk g2 145 [.string (mkS bs), .int .i64 (↑Au : Int), .int .i64 eu]) (.d (.k .a))) 124 [.int .i64 0, .int .i64 0, .int .i64 0, .slice none 0 0, .slice none 0 0] fun g4 => ?_
    refine RR [5, 5, 5, 5, 5] .z (.k (.d (.k .a))) (.k (.k (.k (.k (.k (.u (.i (.int .i64 u) (.d (.k .a))) .a)))))) ?_
    refine RZ (NT (SQ (RG ?_)))
    refine RR [] (.d .a) (.i 45 (.pointer (some ⟨g2, 0, none⟩)) .a) .a ?_
    have hy := goes_rI bs (Au, eu) hu.2.1
    refine RC (dst := some 46) [0] (.d (.k .a)) (tnum_spec g2 Au bs eu hu.2.1 (by omega)) ?_
    rintro v _ ⟨rfl, rfl⟩
    obtain ⟨⟨y, Ay, ey⟩, hxy⟩ : ∃ x, x = rI bs (Au, eu) := ⟨_, rfl⟩
    rw [← hxy] at hy ⊢
    dsimp only at hy ⊢
    refine RR [5] .z (.d (.d (.k .a))) (.i (.blk g2 145 [.string (mkS bs), .int .i64 (↑Ay : Int), .int .i64 ey]) (.d (.k (.k (.k (.k (.u (.k (.i (.int .i64 y) (.d (.k .a)))) .a))))))) ?_
    refine RZ (NT (SQ (RG ?_)))
    refine RR [] (.d .a) (.i 48 (.pointer (some ⟨g2, 0, none⟩)) .a) .a ?_
    have hm := goes_rI bs (Ay, ey) hy.2.1
    refine RC (dst := some 49) [0] (.d (.k .a)) (tnum_spec g2 Ay bs ey hy.2.1 (by omega)) ?_
    rintro v _ ⟨rfl, rfl⟩
    obtain ⟨⟨m, Am, em⟩, hxm⟩ : ∃ x, x = rI bs (Ay, ey) := ⟨_, rfl⟩
    rw [← hxm] at hm ⊢
    dsimp only at hm ⊢
    refine RR [5] .z (.d (.d (.k .a))) (.i (.blk g2 145 [.string (mkS bs), .int .i64 (↑Am : Int), .int .i64 em]) (.d (.k (.k (.k (.k (.u (.k (.k (.i (.int .i64 m) (.d (.k .a))))) .a))))))) ?_
    refine RZ (NT (SQ (RG ?_)))
    refine RR [] (.d .a) (.i 51 (.pointer (some ⟨g2, 0, none⟩)) .a) .a ?_
    have ha := goes_rVs bs (Am, em) hm.2.1
    refine RC (dst := some 52) [0] (.d (.k .a)) (tall_spec g2 Am bs em hm.2.1 (by omega)) ?_
    rintro v _ ⟨qa, ca, rfl, rfl⟩
    obtain ⟨⟨la, Aa, ea⟩, hxa⟩ : ∃ x, x = rVs bs (Am, em) := ⟨_, rfl⟩
    rw [← hxa] at ha ⊢
    dsimp only at ha ⊢
    refine RR [6] .z (.d (.d (.k .a))) (.k (.i (.blk g2 145 [.string (mkS bs), .int .i64 (↑Aa : Int), .int .i64 ea]) (.d (.k (.k (.k (.k (.u (.k (.k (.k (.i (.slice qa la.length ca) (.d (.k .a)))))) .a)))))))) ?_
    refine RZ (NT (SQ (RG ?_)))
    refine RR [] (.d .a) (.i 54 (.pointer (some ⟨g2, 0, none⟩)) .a) .a ?_
    have hb := goes_rVs bs (Aa, ea) ha.2.1
    refine RC (dst := some 55) [1] (.k (.d (.k .a))) (tall_spec g2 Aa bs ea ha.2.1 (by omega)) ?_
    rintro v _ ⟨qb, cb, rfl, rfl⟩
    obtain ⟨⟨lb, Ab, eb⟩, hxb⟩ : ∃ x, x = rVs bs (Aa, ea) := ⟨_, rfl⟩
    rw [← hxb] at hb ⊢
    dsimp only at hb ⊢
    refine RR [7] .z (.d (.d (.k .a))) (.k (.i (.blk g2 145 [.string (mkS bs), .int .i64 (↑Ab : Int), .int .i64 eb]) (.d (.k (.k (.k (.k (.k (.u (.k (.k (.k (.k (.i (.slice qb lb.length cb) .z))))) .a))))))))) ?_
    refine RZ (NT (RG ?_))
    refine RN [6, 7, 7, 7, 7, 7] (.d (.d (.d (.d .a)))) 60 (fun g5 => (.slice (some ⟨g5, 0, none⟩) 1 1)) (.i 58 (.slice a1 l1.length c1) (.d (.k .a))) .a 124 [.int .i64 u, .int .i64 y, .int .i64 m, .slice qa la.length ca, .slice qb lb.length cb] fun g5 => ?_
    have hR : rCl bs (A2, 0) = ((u, y, m, la, lb), (Ab, eb)) := by
      unfold rCl
      rw [← hxu]; dsimp only
      rw [← hxy]; dsimp only
      rw [← hxm]; dsimp only
      rw [← hxa]; dsimp only
      rw [← hxb]
    rw [hR] at hL hp2
    dsimp only at hL hp2
    refine wpr_ent (ent_turn 8 (ro (some ⟨g5, 0, none⟩) (clC (Cl.mk u y m qa ca la qb cb lb))) rfl (turn_rblk (l := clC (Cl.mk u y m qa ca la qb cb lb)) (cl_one _)) rfl) ?_
    refine wpr_app (a := a1) (n := l1.length) (cap := c1) (x := (.slice (some ⟨g5, 0, none⟩) 1 1)) (t := 73) (xt := 73) (dst := some 61) (by kernel_rfl) (e := 124) (sz := 5) (bytes := 72) (by kernel_rfl) 3 (xs := (List.flatMap clC l1)) (by kernel_rfl) (m := 1) (news := (clC (Cl.mk u y m qa ca la qb cb lb))) (fun w h => src_ro h 8 rfl rfl (fun e => by cases e)) (by unfold maxLen; omega) (by omega) ?_
    intro a3 c3 hn3
    rw [cls_snoc, cls_n1 l1 (Cl.mk u y m qa ca la qb cb lb)]
    refine RR [6] .z (.d (.d (.d (.k .a)))) (.k (.k (.k (.k (.k (.k (.u (.k (.k (.k (.i (.slice a3 (l1 ++ [Cl.mk u y m qa ca la qb cb lb]).length c3) (.d (.k .a)))))) .a))))))) ?_
    refine RZ (BN (NT (RG ?_)))
    refine RV true [] .z (.i 7 (.int .i64 ((↑i : Int) + 1)) (.d (.k .a))) .a ([inI64 ((↑i : Int) + (1 : Int))]) ⟨by unfold inI64; omega, trivial⟩ ?_
    refine RZ ?_
    refine nx_ent (Ent.trans (ent_hp [4, 2, 0, 0, 0, 0, 0] rfl) (Ent.trans (ent_star_snoc trivial) (ent_star_snoc trivial))) ?_
    rw [show l1.flatMap clRows ++ [row 28 3 qa la.length ca (la.flatMap valC)] ++ [row 28 3 qb lb.length cb (lb.flatMap valC)] = (l1 ++ [Cl.mk u y m qa ca la qb cb lb]).flatMap clRows by simp [clRows]]
    exact fun a' w' hS' => ⟨⟨(i + 1, a3, c3, l1 ++ [Cl.mk u y m qa ca la qb cb lb], Ab, eb), hlt, hb.2.1, by dsimp only; rw [hk3, hL, List.map_append, List.append_assoc]; rfl, by dsimp only; rw [hk3]; exact hp2⟩, by dsimp only; omega, ent_fr (by kernel_rfl) _ _ (ent_hp [2, 0, 0, 0, 0] rfl _ _ hS')⟩
  · have hstop : rMany (rCl bs) (n - i) (A2, e2) = ([], A2, e2) := by
      by_cases he : e2 = 0
      · have : n - i = 0 := by have : ¬ i < n := fun h => hgo ⟨h, he⟩; omega
        rw [this]; rfl
      · exact rMany_nil _ _ _ he
    rw [hstop] at hL hp2
    cases hp2
    rw [List.append_nil] at hL
    subst hL
    refine SQ (SQ (RG ?_))
    refine RR [] (.d (.d (.d (.d .a)))) (.i 36 (.bool (decide ((↑i : Int) < (↑n : Int)))) .a) (.k (.k (.i (.blk g2 145 [.string (mkS bs), .int .i64 (↑Ac : Int), .int .i64 ec]) (.d (.k .a))))) ?_
    refine wpr_join ⟨[(39, .bool false), (7, (.int .i64 (↑i : Int))), (6, (.int .i64 (↑n : Int))), (5, (.pointer (some ⟨g3, 0, none⟩))), (4, (.pointer (some ⟨g2, 0, none⟩))), (3, (.int .i64 0)), (2, (.pointer (some ⟨g1, 0, none⟩)))], [row 124 5 a1 l1.length c1 (List.flatMap clC l1), star (List.flatMap clRows l1), .blk g2 145 [.string (mkS bs), .int .i64 (↑Ac : Int), .int .i64 ec], .blk g1 75 [.int .i64 0, .int .i64 0, .int .i64 0, .slice none 0 0, .slice none 0 0, .string ⟨#[]⟩, .int .i64 0], .blk g3 75 [.int .i64 p, .int .i64 t, .int .i64 f, .slice a1 l1.length c1, .slice none 0 0, .string (mkS o), .int .i64 d]]⟩ (fun Q1 hQ1 hk => ?_) ?_
    · by_cases h : i < n
      · have he : ¬ ec = 0 := fun he => hgo ⟨h, he⟩
        refine SR 36 (decide ((↑i : Int) < (↑n : Int))) true (decide_eq_true (by omega)) ?_
        refine RR [] (.d .a) (.i 37 (.pointer (some ⟨g2, 0, none⟩)) (.k (.d (.k .a)))) .a ?_
        refine RC (dst := some 38) [2] (.k (.k (.d (.k .a)))) (twell_spec g2 Ac bs ec) ?_
        rintro v _ ⟨rfl, rfl⟩
        rw [decide_eq_false he]
        refine RR [] .z (.i 39 (.bool false) (.d (.d (.d (.k .a))))) (.i (.blk g2 145 [.string (mkS bs), .int .i64 (↑Ac : Int), .int .i64 ec]) (.d (.k .a))) ?_
        refine RZ ?_
        exact nx_ent (ent_hp [1, 1, 0, 0, 0] rfl) (nx_ent (ent_fr (by kernel_rfl)) hk)
      · refine SR 36 (decide ((↑i : Int) < (↑n : Int))) false (decide_eq_false (by omega)) ?_
        refine RR [] .z (.i 39 (.bool false) (.d (.d (.k .a)))) .a ?_
        refine RZ ?_
        exact nx_ent (ent_hp [0, 0, 0, 0, 0] rfl) (nx_ent (ent_fr (by kernel_rfl)) hk)
    · refine NT (CF (EX (TE (TE (BH (NT (SQ (RG ?_))))))))
      refine RR [] (.d .a) (.i 63 (.pointer (some ⟨g2, 0, none⟩)) (.d (.d (.k .a)))) .a ?_
      have hcc2 := goes_rC bs 1048576 (Ac, ec) hc.2.1
      have hcr2 := rC_rng bs (Ac, ec)
      refine RC (dst := some 64) [2] (.k (.k (.d (.k .a)))) (tcount_spec g2 Ac bs ec hc.2.1 (by omega)) ?_
      rintro v _ ⟨rfl, rfl⟩
      obtain ⟨⟨nh, Bh, fh⟩, hxh⟩ : ∃ x, x = rC bs 1048576 (Ac, ec) := ⟨_, rfl⟩
      rw [← hxh] at hcc2 hcr2 ⊢
      dsimp only at hcc2 hcr2 ⊢
      obtain ⟨n2, rfl⟩ := Int.eq_ofNat_of_zero_le hcr2.1
      obtain ⟨⟨Lh, Ah, eh⟩, hxH⟩ : ∃ x, x = rMany (rO bs) n2 (Bh, fh) := ⟨_, rfl⟩
      have hb2 := goes_many (goes_rO bs) n2 (Bh, fh) hcc2.2.1
      have hlb := many_len (goes_rO bs) n2 (Bh, fh) hcc2.2.1
      rw [← hxH] at hb2 hlb
      dsimp only at hb2 hlb
      refine RR [] .z (.i 6 (.int .i64 (↑n2 : Int)) (.d (.d (.d (.k .a))))) (.i (.blk g2 145 [.string (mkS bs), .int .i64 (↑Bh : Int), .int .i64 fh]) (.d (.k .a))) ?_
      refine RZ (NT (SQ (SQ (RG ?_))))
      refine RR [] .z (.i 9 (.int .i64 0) .a) .a ?_
      refine RZ (NT (BK ?_))
      refine wpc_loop (X := {x : Nat × Option Addr × Nat × List Ob × Nat × Int // x.1 ≤ n2 ∧ x.2.2.2.2.1 ≤ bs.length ∧ Lh = x.2.2.2.1.map Ob.o ++ (rMany (rO bs) (n2 - x.1) x.2.2.2.2).1 ∧ (Ah, eh) = (rMany (rO bs) (n2 - x.1) x.2.2.2.2).2}) (fun x => St.mk [(9, .int .i64 (x.1.1 : Int)), (6, .int .i64 (n2 : Int)), (5, .pointer (some ⟨g3, 0, none⟩)), (4, .pointer (some ⟨g2, 0, none⟩)), (3, .int .i64 0), (2, .pointer (some ⟨g1, 0, none⟩))]
        [row 43 2 x.1.2.1 x.1.2.2.2.1.length x.1.2.2.1 (x.1.2.2.2.1.flatMap objC), star (x.1.2.2.2.1.map obRow), row 124 5 a1 l1.length c1 (l1.flatMap clC), star (l1.flatMap clRows), tkr g2 bs x.1.2.2.2.2.1 x.1.2.2.2.2.2,
          .blk g1 75 [.int .i64 0, .int .i64 0, .int .i64 0, .slice none 0 0, .slice none 0 0, .string ⟨#[]⟩, .int .i64 0],
          .blk g3 75 [.int .i64 p, .int .i64 t, .int .i64 f, .slice a1 l1.length c1, .slice x.1.2.1 x.1.2.2.2.1.length x.1.2.2.1, .string (mkS o), .int .i64 d]]) (fun x => n2 - x.1.1) ⟨(0, none, 0, [], Bh, fh), Nat.zero_le _, hcc2.2.1, by rw [Nat.sub_zero, ← hxH]; rfl, by rw [Nat.sub_zero, ← hxH]⟩ ?_ ?_
      · exact Ent.trans ent_star_nil (Ent.trans (ent_nil 43 2) (Ent.trans (ent_hp [0, 0, 1, 1, 0, 0, 0] rfl) (ent_fr (by kernel_rfl))))
      rintro ⟨⟨j, a2, c2, l2, A3, e3⟩, hjn, hA3, hL2, hp3⟩
      dsimp only at hjn hA3 hL2 hp3 ⊢
      have hll2 : l2.length ≤ 1048576 := by
        have := congrArg List.length hL2
        rw [List.length_append, List.length_map] at this
        omega
      by_cases hgo2 : j < n2 ∧ e3 = 0
      · obtain ⟨hlt, rfl⟩ := hgo2
        obtain ⟨k, hk2⟩ : ∃ k, n2 - j = k + 1 := ⟨n2 - j - 1, by omega⟩
        have hk3 : n2 - (j + 1) = k := by omega
        rw [hk2, rMany_succ _ _ _ rfl] at hL2 hp3
        refine SQ (SQ (RG ?_))
        refine RR [] (.d (.d (.d (.d .a)))) (.i 68 (.bool (decide ((↑j : Int) < (↑n2 : Int)))) .a) (.k (.k (.k (.k (.i (.blk g2 145 [.string (mkS bs), .int .i64 (↑A3 : Int), .int .i64 0]) (.d (.k .a))))))) ?_
        refine SR 68 (decide ((↑j : Int) < (↑n2 : Int))) true (decide_eq_true (by omega)) ?_
        refine RR [] (.d .a) (.i 69 (.pointer (some ⟨g2, 0, none⟩)) (.k (.d (.k .a)))) .a ?_
        refine RC (dst := some 70) [4] (.k (.k (.k (.k (.d (.k .a)))))) (twell_spec g2 A3 bs 0) ?_
        rintro v _ ⟨rfl, rfl⟩
        refine RR [] .z (.i 71 (.bool true) (.d (.d (.d (.k .a))))) (.i (.blk g2 145 [.string (mkS bs), .int .i64 (↑A3 : Int), .int .i64 0]) (.d (.k .a))) ?_
        refine RZ (NT (CT (SK (NT (SQ (BK (SQ (RG ?_))))))))
        refine RR [] (.d .a) (.i 74 (.pointer (some ⟨g2, 0, none⟩)) (.d (.k .a))) .a ?_
        have hu := goes_rT bs 255 (A3, 0) hA3
        refine RC (dst := some 75) [0] (.d (.k .a)) (ttext_spec g2 A3 bs 0 255 hA3 (by omega)) ?_
        rintro v _ ⟨rfl, rfl⟩
        obtain ⟨⟨u, Au, eu⟩, hxu⟩ : ∃ x, x = rT bs 255 (A3, 0) := ⟨_, rfl⟩
        rw [← hxu] at hu ⊢
        dsimp only at hu ⊢
        have ha := goes_rVs bs (Au, eu) hu.2.1
        have hR : rO bs (A3, 0) = ((u, (rVs bs (Au, eu)).1), (rVs bs (Au, eu)).2) := by
          unfold rO
          rw [← hxu]
        obtain ⟨⟨la, Aa, ea⟩, hxa⟩ : ∃ x, x = rVs bs (Au, eu) := ⟨_, rfl⟩
        rw [← hxa] at ha hR
        dsimp only at ha hR
        rw [hR] at hL2 hp3
        dsimp only at hL2 hp3
        refine RR [] .z (.i 10 (.string (mkS u)) (.d (.d (.k .a)))) (.i (.blk g2 145 [.string (mkS bs), .int .i64 (↑Au : Int), .int .i64 eu]) (.d (.k .a))) ?_
        refine RZ (NT ?_)
        refine wpc_draw (by kernel_rfl) [] (sub_of [] (by kernel_rfl)) 10 (by kernel_rfl) ?_
        refine wpa_joinx (X := Option Addr × Nat × Option Addr × Nat) (fun y => St.mk [(9, .int .i64 (j : Int)), (6, .int .i64 (n2 : Int)), (5, .pointer (some ⟨g3, 0, none⟩)), (4, .pointer (some ⟨g2, 0, none⟩)), (3, .int .i64 0), (2, .pointer (some ⟨g1, 0, none⟩))]
          [row 43 2 y.1 (l2 ++ [Ob.mk u y.2.2.1 y.2.2.2 la]).length y.2.1 ((l2 ++ [Ob.mk u y.2.2.1 y.2.2.2 la]).flatMap objC), star (l2.map obRow), obRow (Ob.mk u y.2.2.1 y.2.2.2 la), row 124 5 a1 l1.length c1 (l1.flatMap clC), star (l1.flatMap clRows), tkr g2 bs Aa ea,
            .blk g1 75 [.int .i64 0, .int .i64 0, .int .i64 0, .slice none 0 0, .slice none 0 0, .string ⟨#[]⟩, .int .i64 0],
            .blk g3 75 [.int .i64 p, .int .i64 t, .int .i64 f, .slice a1 l1.length c1, .slice y.1 (l2 ++ [Ob.mk u y.2.2.1 y.2.2.2 la]).length y.2.1, .string (mkS o), .int .i64 d]]) (fun Q1 hQ1 hk => ?_) ?_
        · refine TK 7 [(0, []), (2, []), (3, [])] (.i 79 (.pointer (some ⟨g2, 0, none⟩)) (.i 78 (.string (mkS u)) (.i 76 (.pointer (some ⟨g3, 4, none⟩)) (.d (.k .a))))) (#[true, false, true, true, false, false, false, false, false, false]) ?_
          refine wpa_two (i := 1) (j := 4) (n := 6) (by kernel_rfl) ?_ ?_
          · refine wpi_one (n := 6) true 1 [6] [(77, .slice a2 l2.length c2), (79, .pointer (some ⟨g2, 0, none⟩)), (78, .string (mkS u)), (9, .int .i64 (↑j : Int)), (6, .int .i64 (↑n2 : Int)), (5, .pointer (some ⟨g3, 0, none⟩)), (4, .pointer (some ⟨g2, 0, none⟩)), (3, .int .i64 0), (2, .pointer (some ⟨g1, 0, none⟩))] [.blk g2 145 [.string (mkS bs), .int .i64 (↑Au : Int), .int .i64 eu], row 43 2 a2 l2.length c2 (List.flatMap objC l2), star (List.map obRow l2), row 124 5 a1 l1.length c1 (List.flatMap clC l1), star (List.flatMap clRows l1), .blk g1 75 [.int .i64 0, .int .i64 0, .int .i64 0, .slice none 0 0, .slice none 0 0, .string ⟨#[]⟩, .int .i64 0], .blk g3 75 [.int .i64 p, .int .i64 t, .int .i64 f, .slice a1 l1.length c1, .slice a2 l2.length c2, .string (mkS o), .int .i64 d]] [] (by kernel_rfl) (by kernel_rfl) trivial (sub_of [] (by kernel_rfl)) ?_
            refine AC (dst := some 80) 5 4 (.d (.k .a)) (tall_spec g2 Au bs eu hu.2.1 (by omega)) (GI [0]) [] ?_
            rintro v _ ⟨qa, ca, rfl, rfl⟩
            rw [← hxa]
            dsimp only
            refine TK 4 [(5, [])] (.i 81 (.agg #[.string (mkS u), .slice qa la.length ca]) (.d (.k (.d (.d (.k .a)))))) (#[true, true, true, true, true, true, false, false, false, false]) ?_
            refine wpa_new (n := 3) true 6 [] (fun g4 => [(82, .slice (some ⟨g4, 0, none⟩) 1 1), (77, .slice a2 l2.length c2), (9, .int .i64 (↑j : Int)), (6, .int .i64 (↑n2 : Int)), (5, .pointer (some ⟨g3, 0, none⟩)), (4, .pointer (some ⟨g2, 0, none⟩)), (3, .int .i64 0), (2, .pointer (some ⟨g1, 0, none⟩))]) (fun g4 => [row 28 3 qa la.length ca (List.flatMap valC la), .blk g2 145 [.string (mkS bs), .int .i64 (↑Aa : Int), .int .i64 ea], row 43 2 a2 l2.length c2 (List.flatMap objC l2), star (List.map obRow l2), row 124 5 a1 l1.length c1 (List.flatMap clC l1), star (List.flatMap clRows l1), .blk g1 75 [.int .i64 0, .int .i64 0, .int .i64 0, .slice none 0 0, .slice none 0 0, .string ⟨#[]⟩, .int .i64 0], .blk g3 75 [.int .i64 p, .int .i64 t, .int .i64 f, .slice a1 l1.length c1, .slice a2 l2.length c2, .string (mkS o), .int .i64 d], .blk g4 43 [.string (mkS u), .slice qa la.length ca]]) (fun g4 => []) (by kernel_rfl) (fun g4 => by kernel_rfl) (fun g4 => by kernel_rfl) (fun g4 => trivial) (fun g4 => sub_of [] (by kernel_rfl)) fun g4 => ?_
            refine wpa_ent (ent_turn 8 (ro (some ⟨g4, 0, none⟩) (objC (Ob.mk u qa ca la))) rfl (turn_rblk (l := objC (Ob.mk u qa ca la)) (obj_one _)) rfl) ?_
            refine wpa_app (i := 7) (nf := 2) (by kernel_rfl) (a := a2) (n := l2.length) (cap := c2) (x := (.slice (some ⟨g4, 0, none⟩) 1 1)) (t := 37) (xt := 37) (dst := some 83) (by kernel_rfl) (e := 43) (sz := 2) (bytes := 40) (by kernel_rfl) 2 (xs := (List.flatMap objC l2)) (by kernel_rfl) (m := 1) (news := (objC (Ob.mk u qa ca la))) (fun w h => src_ro h 8 rfl rfl (fun e => by cases e)) (by unfold maxLen; omega) (by omega) [] (by kernel_rfl) ?_
            intro a3 c3 hn3
            rw [objs_snoc, objs_n1 l2 (Ob.mk u qa ca la)]
            refine TK 1 [(8, [])] (.i 84 (.pointer (some ⟨g3, 4, none⟩)) (.k (.d (.d (.k .a))))) (#[true, true, true, true, true, true, true, true, true, false]) ?_
            refine AO 0 9 [7] (.d (.d (.k .a))) (.k (.k (.k (.k (.k (.k (.k (.u (.k (.k (.k (.k (.i (.slice a3 (l2 ++ [Ob.mk u qa ca la]).length c3) (.d (.k .a))))))) .a)))))))) [] ?_
            refine wpa_done 0 (by kernel_rfl) ?_
            rw [show row 28 3 qa la.length ca (la.flatMap valC) = obRow (Ob.mk u qa ca la) from rfl]
            exact nx_ent (ent_hp [2, 2, 0, 1, 1, 0, 0, 0] rfl) (nx_ent (ent_fr (by kernel_rfl)) (hk ⟨a3, c3, qa, ca⟩))
          · refine wpi_call (i := 4) (dst := some 80) (rest := [row 43 2 a2 l2.length c2 (List.flatMap objC l2), star (List.map obRow l2), row 124 5 a1 l1.length c1 (List.flatMap clC l1), star (List.flatMap clRows l1), .blk g1 75 [.int .i64 0, .int .i64 0, .int .i64 0, .slice none 0 0, .slice none 0 0, .string ⟨#[]⟩, .int .i64 0], .blk g3 75 [.int .i64 p, .int .i64 t, .int .i64 f, .slice a1 l1.length c1, .slice a2 l2.length c2, .string (mkS o), .int .i64 d]]) (by kernel_rfl) (tall_spec g2 Au bs eu hu.2.1 (by omega)) (give [0] (by kernel_rfl)) (sub_of [] (by kernel_rfl)) ?_
            rintro v _ ⟨qa, ca, rfl, rfl⟩
            rw [← hxa]
            dsimp only
            refine TK 5 [(5, [])] (.i 81 (.agg #[.string (mkS u), .slice qa la.length ca]) (.d (.d (.d (.k .a))))) (#[true, false, true, true, true, true, false, false, false, false]) ?_
            refine wpa_two (i := 1) (j := 6) (n := 4) (by kernel_rfl) ?_ ?_
            · refine wpi_one (n := 4) true 1 [7] [(77, .slice a2 l2.length c2), (81, .agg #[.string (mkS u), .slice qa la.length ca]), (9, .int .i64 (↑j : Int)), (6, .int .i64 (↑n2 : Int)), (5, .pointer (some ⟨g3, 0, none⟩)), (4, .pointer (some ⟨g2, 0, none⟩)), (3, .int .i64 0), (2, .pointer (some ⟨g1, 0, none⟩))] [row 28 3 qa la.length ca (List.flatMap valC la), .blk g2 145 [.string (mkS bs), .int .i64 (↑Aa : Int), .int .i64 ea], row 43 2 a2 l2.length c2 (List.flatMap objC l2), star (List.map obRow l2), row 124 5 a1 l1.length c1 (List.flatMap clC l1), star (List.flatMap clRows l1), .blk g1 75 [.int .i64 0, .int .i64 0, .int .i64 0, .slice none 0 0, .slice none 0 0, .string ⟨#[]⟩, .int .i64 0], .blk g3 75 [.int .i64 p, .int .i64 t, .int .i64 f, .slice a1 l1.length c1, .slice a2 l2.length c2, .string (mkS o), .int .i64 d]] [] (by kernel_rfl) (by kernel_rfl) trivial (sub_of [] (by kernel_rfl)) ?_
              refine wpa_new (n := 3) true 6 [] (fun g4 => [(82, .slice (some ⟨g4, 0, none⟩) 1 1), (77, .slice a2 l2.length c2), (9, .int .i64 (↑j : Int)), (6, .int .i64 (↑n2 : Int)), (5, .pointer (some ⟨g3, 0, none⟩)), (4, .pointer (some ⟨g2, 0, none⟩)), (3, .int .i64 0), (2, .pointer (some ⟨g1, 0, none⟩))]) (fun g4 => [row 28 3 qa la.length ca (List.flatMap valC la), .blk g2 145 [.string (mkS bs), .int .i64 (↑Aa : Int), .int .i64 ea], row 43 2 a2 l2.length c2 (List.flatMap objC l2), star (List.map obRow l2), row 124 5 a1 l1.length c1 (List.flatMap clC l1), star (List.flatMap clRows l1), .blk g1 75 [.int .i64 0, .int .i64 0, .int .i64 0, .slice none 0 0, .slice none 0 0, .string ⟨#[]⟩, .int .i64 0], .blk g3 75 [.int .i64 p, .int .i64 t, .int .i64 f, .slice a1 l1.length c1, .slice a2 l2.length c2, .string (mkS o), .int .i64 d], .blk g4 43 [.string (mkS u), .slice qa la.length ca]]) (fun g4 => []) (by kernel_rfl) (fun g4 => by kernel_rfl) (fun g4 => by kernel_rfl) (fun g4 => trivial) (fun g4 => sub_of [] (by kernel_rfl)) fun g4 => ?_
              refine wpa_ent (ent_turn 8 (ro (some ⟨g4, 0, none⟩) (objC (Ob.mk u qa ca la))) rfl (turn_rblk (l := objC (Ob.mk u qa ca la)) (obj_one _)) rfl) ?_
              refine wpa_app (i := 7) (nf := 2) (by kernel_rfl) (a := a2) (n := l2.length) (cap := c2) (x := (.slice (some ⟨g4, 0, none⟩) 1 1)) (t := 37) (xt := 37) (dst := some 83) (by kernel_rfl) (e := 43) (sz := 2) (bytes := 40) (by kernel_rfl) 2 (xs := (List.flatMap objC l2)) (by kernel_rfl) (m := 1) (news := (objC (Ob.mk u qa ca la))) (fun w h => src_ro h 8 rfl rfl (fun e => by cases e)) (by unfold maxLen; omega) (by omega) [] (by kernel_rfl) ?_
              intro a3 c3 hn3
              rw [objs_snoc, objs_n1 l2 (Ob.mk u qa ca la)]
              refine TK 1 [(8, [])] (.i 84 (.pointer (some ⟨g3, 4, none⟩)) (.k (.d (.d (.k .a))))) (#[true, true, true, true, true, true, true, true, true, false]) ?_
              refine AO 0 9 [7] (.d (.d (.k .a))) (.k (.k (.k (.k (.k (.k (.k (.u (.k (.k (.k (.k (.i (.slice a3 (l2 ++ [Ob.mk u qa ca la]).length c3) (.d (.k .a))))))) .a)))))))) [] ?_
              refine wpa_done 0 (by kernel_rfl) ?_
              rw [show row 28 3 qa la.length ca (la.flatMap valC) = obRow (Ob.mk u qa ca la) from rfl]
              exact nx_ent (ent_hp [2, 2, 0, 1, 1, 0, 0, 0] rfl) (nx_ent (ent_fr (by kernel_rfl)) (hk ⟨a3, c3, qa, ca⟩))
            · refine wpi_new (n := 4) true 6 [] (fun g4 => [(82, .slice (some ⟨g4, 0, none⟩) 1 1), (76, .pointer (some ⟨g3, 4, none⟩)), (9, .int .i64 (↑j : Int)), (6, .int .i64 (↑n2 : Int)), (5, .pointer (some ⟨g3, 0, none⟩)), (4, .pointer (some ⟨g2, 0, none⟩)), (3, .int .i64 0), (2, .pointer (some ⟨g1, 0, none⟩))]) (fun g4 => [row 28 3 qa la.length ca (List.flatMap valC la), .blk g2 145 [.string (mkS bs), .int .i64 (↑Aa : Int), .int .i64 ea], row 43 2 a2 l2.length c2 (List.flatMap objC l2), star (List.map obRow l2), row 124 5 a1 l1.length c1 (List.flatMap clC l1), star (List.flatMap clRows l1), .blk g1 75 [.int .i64 0, .int .i64 0, .int .i64 0, .slice none 0 0, .slice none 0 0, .string ⟨#[]⟩, .int .i64 0], .blk g3 75 [.int .i64 p, .int .i64 t, .int .i64 f, .slice a1 l1.length c1, .slice a2 l2.length c2, .string (mkS o), .int .i64 d], .blk g4 43 [.string (mkS u), .slice qa la.length ca]]) (fun g4 => []) (fun g4 => by kernel_rfl) (fun g4 => by kernel_rfl) (fun g4 => trivial) (fun g4 => sub_of [] (by kernel_rfl)) fun g4 => ?_
              refine AO 3 1 [7] (.i 77 (.slice a2 l2.length c2) (.k (.d (.k .a)))) .a [] ?_
              refine wpa_ent (ent_turn 8 (ro (some ⟨g4, 0, none⟩) (objC (Ob.mk u qa ca la))) rfl (turn_rblk (l := objC (Ob.mk u qa ca la)) (obj_one _)) rfl) ?_
              refine wpa_app (i := 7) (nf := 2) (by kernel_rfl) (a := a2) (n := l2.length) (cap := c2) (x := (.slice (some ⟨g4, 0, none⟩) 1 1)) (t := 37) (xt := 37) (dst := some 83) (by kernel_rfl) (e := 43) (sz := 2) (bytes := 40) (by kernel_rfl) 2 (xs := (List.flatMap objC l2)) (by kernel_rfl) (m := 1) (news := (objC (Ob.mk u qa ca la))) (fun w h => src_ro h 8 rfl rfl (fun e => by cases e)) (by unfold maxLen; omega) (by omega) [] (by kernel_rfl) ?_
              intro a3 c3 hn3
              rw [objs_snoc, objs_n1 l2 (Ob.mk u qa ca la)]
              refine TK 1 [(8, [])] (.i 84 (.pointer (some ⟨g3, 4, none⟩)) (.k (.d (.d (.k .a))))) (#[true, true, true, true, true, true, true, true, true, false]) ?_
              refine AO 0 9 [7] (.d (.d (.k .a))) (.k (.k (.k (.k (.k (.k (.k (.u (.k (.k (.k (.k (.i (.slice a3 (l2 ++ [Ob.mk u qa ca la]).length c3) (.d (.k .a))))))) .a)))))))) [] ?_
              refine wpa_done 0 (by kernel_rfl) ?_
              rw [show row 28 3 qa la.length ca (la.flatMap valC) = obRow (Ob.mk u qa ca la) from rfl]
              exact nx_ent (ent_hp [2, 2, 0, 1, 1, 0, 0, 0] rfl) (nx_ent (ent_fr (by kernel_rfl)) (hk ⟨a3, c3, qa, ca⟩))
        · rintro ⟨a3, c3, qa, ca⟩
          dsimp only
          refine BN (NT (RG ?_))
          refine RV true [] .z (.i 9 (.int .i64 ((↑j : Int) + 1)) (.d (.k .a))) (.k (.k (.k (.k (.k (.i (.blk g2 145 [.string (mkS bs), .int .i64 (↑Aa : Int), .int .i64 ea]) (.d (.k .a)))))))) ([inI64 ((↑j : Int) + (1 : Int))]) ⟨by unfold inI64; omega, trivial⟩ ?_
          refine RZ ?_
          refine nx_ent (Ent.trans (ent_hp [1, 1, 0, 0, 0, 0, 0, 0] rfl) (ent_star_snoc trivial)) ?_
          rw [show l2.map obRow ++ [obRow (Ob.mk u qa ca la)] = (l2 ++ [Ob.mk u qa ca la]).map obRow by simp]
          exact fun a' w' hS' => ⟨⟨(j + 1, a3, c3, l2 ++ [Ob.mk u qa ca la], Aa, ea), hlt, ha.2.1, by dsimp only; rw [hk3, hL2, List.map_append, List.append_assoc]; rfl, by dsimp only; rw [hk3]; exact hp3⟩, by dsimp only; omega, ent_fr (by kernel_rfl) _ _ (ent_hp [1, 0, 0, 0, 0, 0, 0] rfl _ _ hS')⟩
      · have hstop : rMany (rO bs) (n2 - j) (A3, e3) = ([], A3, e3) := by
          by_cases he : e3 = 0
          · have : n2 - j = 0 := by have : ¬ j < n2 := fun h => hgo2 ⟨h, he⟩; omega
            rw [this]; rfl
          · exact rMany_nil _ _ _ he
        rw [hstop] at hL2 hp3
        cases hp3
        rw [List.append_nil] at hL2
        subst hL2
        refine SQ (SQ (RG ?_))
        refine RR [] (.d (.d (.d (.d .a)))) (.i 68 (.bool (decide ((↑j : Int) < (↑n2 : Int)))) .a) (.k (.k (.k (.k (.i (.blk g2 145 [.string (mkS bs), .int .i64 (↑Ah : Int), .int .i64 eh]) (.d (.k .a))))))) ?_
        refine wpr_join ⟨[(71, .bool false), (9, (.int .i64 (↑j : Int))), (6, (.int .i64 (↑n2 : Int))), (5, (.pointer (some ⟨g3, 0, none⟩))), (4, (.pointer (some ⟨g2, 0, none⟩))), (3, (.int .i64 0)), (2, (.pointer (some ⟨g1, 0, none⟩)))], [row 43 2 a2 l2.length c2 (List.flatMap objC l2), star (List.map obRow l2), row 124 5 a1 l1.length c1 (List.flatMap clC l1), star (List.flatMap clRows l1), .blk g2 145 [.string (mkS bs), .int .i64 (↑Ah : Int), .int .i64 eh], .blk g1 75 [.int .i64 0, .int .i64 0, .int .i64 0, .slice none 0 0, .slice none 0 0, .string ⟨#[]⟩, .int .i64 0], .blk g3 75 [.int .i64 p, .int .i64 t, .int .i64 f, .slice a1 l1.length c1, .slice a2 l2.length c2, .string (mkS o), .int .i64 d]]⟩ (fun Q1 hQ1 hk => ?_) ?_
        · by_cases h : j < n2
          · have he : ¬ eh = 0 := fun he => hgo2 ⟨h, he⟩
            refine SR 68 (decide ((↑j : Int) < (↑n2 : Int))) true (decide_eq_true (by omega)) ?_
            refine RR [] (.d .a) (.i 69 (.pointer (some ⟨g2, 0, none⟩)) (.k (.d (.k .a)))) .a ?_
            refine RC (dst := some 70) [4] (.k (.k (.k (.k (.d (.k .a)))))) (twell_spec g2 Ah bs eh) ?_
            rintro v _ ⟨rfl, rfl⟩
            rw [decide_eq_false he]
            refine RR [] .z (.i 71 (.bool false) (.d (.d (.d (.k .a))))) (.i (.blk g2 145 [.string (mkS bs), .int .i64 (↑Ah : Int), .int .i64 eh]) (.d (.k .a))) ?_
            refine RZ ?_
            exact nx_ent (ent_hp [1, 1, 1, 1, 0, 0, 0] rfl) (nx_ent (ent_fr (by kernel_rfl)) hk)
          · refine SR 68 (decide ((↑j : Int) < (↑n2 : Int))) false (decide_eq_false (by omega)) ?_
            refine RR [] .z (.i 71 (.bool false) (.d (.d (.k .a)))) .a ?_
            refine RZ ?_
            exact nx_ent (ent_hp [0, 0, 0, 0, 0, 0, 0] rfl) (nx_ent (ent_fr (by kernel_rfl)) hk)
        · refine NT (CF (EX (TE (TE (BH (NT (SQ (SQ (RG ?_)))))))))
          refine RR [4, 4, 4] (.d (.d (.d (.d .a)))) (.i 88 (.agg #[.string (mkS bs), .int .i64 (↑Ah : Int), .int .i64 eh]) (.d (.d (.d (.k (.d (.k .a))))))) .a ?_
          refine RC (dst := some 89) [] .a (rEnd_spec bs Ah eh) ?_
          rintro v _ ⟨rfl, rfl⟩
          refine RR [] .z (.i 11 (.int .i64 (endE bs (↑Ah : Int) eh)) (.d (.d (.k .a)))) .a ?_
          refine RZ (NT (SQ (RG ?_)))
          refine RR [] .z (.i 91 (.bool (endE bs (↑Ah : Int) eh != (0 : Int))) .a) .a ?_
          refine RZ (NT ?_)
          have hS : rS bs (0, 0) = (⟨p, t, f, l1.map Cl.p, l2.map Ob.o, o, d⟩, Ah, eh) := by
            unfold rS
            rw [← hxp]; dsimp only
            rw [← hxt]; dsimp only
            rw [← hxf]; dsimp only
            rw [← hxd]; dsimp only
            rw [← hxo]; dsimp only
            unfold rRows
            rw [← hxn]; dsimp only
            rw [Int.toNat_natCast, ← hxc]; dsimp only
            rw [← hxh]; dsimp only
            rw [Int.toNat_natCast, ← hxH]
          obtain ⟨E, hE⟩ : ∃ E, E = endE bs Ah eh := ⟨_, rfl⟩
          have hLE : loadE bs = if E ≠ 0 then E else if mayB ⟨p, t, f, l1.map Cl.p, l2.map Ob.o, o, d⟩ then 0 else 2 := by unfold loadE; rw [hS, hE]
          rw [← hE]
          by_cases hE0 : E ≠ 0
          · rw [if_pos hE0] at hLE
            have hLS : loadS bs = noS := by unfold loadS; rw [hLE, if_neg hE0]
            rw [hLE, hLS]
            refine SC 91 (E != (0 : Int)) true (by simp only [bne_iff_ne, beq_iff_eq, ne_eq]; omega) ?_
            refine CT (SQ (RG ?_))
            refine RR [5, 5, 5, 5, 5, 5, 5] .z (.i 3 (.int .i64 E) (.d (.d (.d (.k (.d (.k .a))))))) .a ?_
            refine RZ (NT (RE (TR ?_)))
            refine nx_ent (Ent.trans ent_star_nil (Ent.trans (ent_nil 43 2) (Ent.trans ent_star_nil (ent_nil 124 5)))) ?_
            refine NE [0, 0, 0, 0] (.k (.k (.k (.k .z)))) (.d (.d (.d (.d (.k .a))))) [9, 9, 9, 9, 9, 9, 9] (.tuple #[.agg #[.int .i64 0, .int .i64 0, .int .i64 0, .slice none 0 0, .slice none 0 0, .string ⟨#[]⟩, .int .i64 0], .int .i64 E]) ?_
            exact ⟨noSv, rfl, noSv_ok, rfl, rfl⟩
          · rw [if_neg hE0] at hLE
            have hE1 := Classical.not_not.1 hE0
            subst hE1
            refine CF (SK (NT (SQ (SQ (RG ?_)))))
            refine RR [6, 6, 6, 6, 6, 6, 6] (.d .a) (.i 94 (.agg #[.int .i64 p, .int .i64 t, .int .i64 f, .slice a1 l1.length c1, .slice a2 l2.length c2, .string (mkS o), .int .i64 d]) (.d (.d (.k .a)))) .a ?_
            refine wpr_fact (fun w h => cap_star h 1 rfl) fun hcap => ?_
            have hR1 : rRows bs (rCl bs) (Ao, eo) = (l1.map Cl.p, (Ac, ec)) := by unfold rRows; rw [← hxn]; dsimp only; rw [Int.toNat_natCast, ← hxc]
            have hR2 : rRows bs (rO bs) (Ac, ec) = (l2.map Ob.o, (Ah, eh)) := by unfold rRows; rw [← hxh]; dsimp only; rw [Int.toNat_natCast, ← hxH]
            have hrc := rows_len (goes_rCl bs) (Ao, eo) ho.2.1
            have hro := rows_len (goes_rO bs) (Ac, ec) hc.2.1
            have hru := rO_used bs (Ac, ec) hc.2.1
            have hCo := rows_all (s := bs) (rCl_ok bs) (Ao, eo)
            have hOo := rows_all (s := bs) (rO_ok bs) (Ac, ec)
            rw [hR1] at hrc hCo
            rw [hR2] at hro hru hOo
            dsimp only at hrc hro hru hCo hOo
            rw [List.length_map] at hrc hro
            have hsok : Sv.ok ⟨p, t, f, a1, c1, l1, a2, c2, l2, o, d⟩ := by
              have r1 := rI_rng bs (0, 0)
              have r2 := rI_rng bs (Ap, ep)
              have r3 := rI_rng bs (At, et)
              have r4 := rI_rng bs (Af, ef)
              have r5 := rT_len bs 4096 (by omega) (Ad, ed)
              rw [← hxp] at r1
              rw [← hxt] at r2
              rw [← hxf] at r3
              rw [← hxd] at r4
              rw [← hxo] at r5
              refine ⟨r1, r2, r3, r4, by dsimp only; omega, fun x hx => ?_, by dsimp only; omega, fun x hx => ?_, fun x hx => ?_, by dsimp only at r5 ⊢; omega, by dsimp only; omega⟩
              · have := hCo x.p (List.mem_map.2 ⟨x, hx, rfl⟩)
                exact this
              · have h3 := hOo x.o (List.mem_map.2 ⟨x, hx, rfl⟩)
                have h4 : x.tag.length ≤ 255 := h3.1
                exact ⟨by omega, hcap x hx, h3.2.1, fun v hv => vsm (h3.2.2 v hv)⟩
              · exact (hOo x.o (List.mem_map.2 ⟨x, hx, rfl⟩)).2.2
            have hck := rMay_spec _ hsok
            unfold svC at hck
            dsimp only at hck
            rw [show Sv.p ⟨p, t, f, a1, c1, l1, a2, c2, l2, o, d⟩ = ⟨p, t, f, l1.map Cl.p, l2.map Ob.o, o, d⟩ from rfl] at hck
            refine RCG (dst := some 95) .a (hck) (GV (GV (GV (GV (GI []) 1 view_gBag) 0 view_row) 3 view_gCl) 2 view_row) ?_
            rintro v _ ⟨rfl, rfl⟩
            cases hm : mayB ⟨p, t, f, l1.map Cl.p, l2.map Ob.o, o, d⟩ with
            | false =>
              rw [hm] at hLE
              have hLS : loadS bs = noS := by unfold loadS; rw [hLE]; rfl
              rw [hLE, hLS]
              refine RR [] .z (.i 96 (.bool true) (.d (.d (.k .a)))) .a ?_
              refine RZ (NT (CT (SQ (RG ?_))))
              refine RR [5, 5, 5, 5, 5, 5, 5] .z (.i 3 (.int .i64 2) (.d (.k (.d (.k .a))))) .a ?_
              refine RZ (NT (RE (TR ?_)))
              refine nx_ent (Ent.trans ent_star_nil (Ent.trans (ent_nil 43 2) (Ent.trans ent_star_nil (ent_nil 124 5)))) ?_
              refine NE [0, 0, 0, 0] (.k (.k (.k (.k .z)))) (.d (.d (.d (.d (.k .a))))) [9, 9, 9, 9, 9, 9, 9] (.tuple #[.agg #[.int .i64 0, .int .i64 0, .int .i64 0, .slice none 0 0, .slice none 0 0, .string ⟨#[]⟩, .int .i64 0], .int .i64 2]) ?_
              exact ⟨noSv, rfl, noSv_ok, rfl, rfl⟩
            | true =>
              rw [hm] at hLE
              have hLS : loadS bs = ⟨p, t, f, l1.map Cl.p, l2.map Ob.o, o, d⟩ := by unfold loadS; rw [hLE, hS]; rfl
              rw [hLE, hLS]
              refine RR [] .z (.i 96 (.bool false) (.d (.d (.k .a)))) .a ?_
              refine RZ (NT (CF (SK (NT (SQ (RG ?_))))))
              refine RR [6, 6, 6, 6, 6, 6, 6, 5, 5, 5, 5, 5, 5, 5] .z (.d (.d (.k .a))) (.k (.k (.k (.k (.k (.u (.i (.int .i64 p) (.i (.int .i64 t) (.i (.int .i64 f) (.i (.slice a1 l1.length c1) (.i (.slice a2 l2.length c2) (.i (.string (mkS o)) (.i (.int .i64 d) .z))))))) .a)))))) ?_
              refine RZ (NT (RE ?_))
              refine NE [2, 2, 0, 0] (.i (row 124 5 a1 l1.length c1 (List.flatMap clC l1)) (.i (star (List.flatMap clRows l1)) (.k (.k .z)))) (.d (.d (.d (.d (.k .a))))) [5, 5, 5, 5, 5, 5, 5] (.tuple #[.agg #[.int .i64 p, .int .i64 t, .int .i64 f, .slice a1 l1.length c1, .slice a2 l2.length c2, .string (mkS o), .int .i64 d], .int .i64 0]) ?_
              exact ⟨⟨p, t, f, a1, c1, l1, a2, c2, l2, o, d⟩, rfl, hsok, rfl, rfl⟩
end Go.Proofs.YtpfhleghgkeemaaGreatDoor
namespace Go.Proofs.YtpfhleghgkeemaaGreatDoor
open Go Go.Sx
theorem sp_ne {s t : Sv} (h : ¬ (s.pos = t.pos ∧ s.st = t.st ∧ s.fa = t.fa ∧ s.out = t.out ∧ s.rd = t.rd ∧ s.hl.map Ob.o = t.hl.map Ob.o ∧ s.cl.map Cl.p = t.cl.map Cl.p)) : decide (s.p = t.p) = false := decide_eq_false fun e => h (by
  unfold Sv.p at e
  simp only [SP.mk.injEq] at e
  obtain ⟨e1, e2, e3, e4, e5, e6, e7⟩ := e
  exact ⟨e1, e2, e3, e6, e7, e5, e4⟩)
theorem cls_o {l1 l2 : List Cl} {i : Nat} (h1 : i < l1.length) (h2 : i < l2.length) (he : (l1.take i).map Cl.p = (l2.take i).map Cl.p) (hx : l1[i].p = l2[i].p) : (l1.take (i + 1)).map Cl.p = (l2.take (i + 1)).map Cl.p := by
  rw [take_snoc Cl.p h1, take_snoc Cl.p h2, he, hx]
theorem cl_ne {l1 l2 : List Cl} {i : Nat} (h1 : i < l1.length) (h2 : i < l2.length) (h : l1[i].p ≠ l2[i].p) : l1.map Cl.p ≠ l2.map Cl.p := fun e => h (by
  have h3 : (l1.map Cl.p)[i]? = (l2.map Cl.p)[i]? := by rw [e]
  rw [List.getElem?_map, List.getElem?_map, List.getElem?_eq_getElem h1, List.getElem?_eq_getElem h2] at h3
  exact Option.some.inj h3)
set_option maxHeartbeats 8000000 in
theorem sameState_spec (s t : Sv) (hs : s.ok) (ht : t.ok) : Does Tryz.prog 46 [.agg (svC s).toArray, .agg (svC t).toArray]
    [ro s.ca (s.cl.flatMap clC), gCl s.cl, ro s.ha (s.hl.flatMap objC), gBag s.hl, ro t.ca (t.cl.flatMap clC), gCl t.cl, ro t.ha (t.hl.flatMap objC), gBag t.hl] (fun v hp' => v = .bool (decide (s.p = t.p)) ∧ hp' = []) := by
  obtain ⟨-, -, -, -, hc1, hc2, hh1, hh2, hh3, ho, hu⟩ := hs
  obtain ⟨-, -, -, -, tc1, tc2, th1, th2, th3, to, tu⟩ := ht
  have hSm := Same_spec s.ha s.hc s.hl t.ha t.hc t.hl hh1 th1 (fun o ho => (hh2 o ho).2.2.1) (fun o ho => (th2 o ho).2.2.1)
  unfold svC
  by_cases k0 : ¬ s.pos = t.pos
  · rw [sp_ne (fun h => k0 h.1)]
    refine fn_enter Tryz.func46 rfl 110 rfl fun w0 h0 => ?_
    refine SQ (RG ?_)
    refine RP [] (.d .a) 2 (.d (.k .a)) .a 75 [.int .i64 s.pos, .int .i64 s.st, .int .i64 s.fa, .slice s.ca s.cl.length s.cc, .slice s.ha s.hl.length s.hc, .string (mkS s.out), .int .i64 s.rd] fun g1 => ?_
    refine RP [] (.d .a) 3 (.k .z) .a 75 [.int .i64 t.pos, .int .i64 t.st, .int .i64 t.fa, .slice t.ca t.cl.length t.cc, .slice t.ha t.hl.length t.hc, .string (mkS t.out), .int .i64 t.rd] fun g2 => ?_
    refine RR [] .z (.i 4 (.bool false) .a) .a ?_
    refine RZ (NT (SQ (SQ (RG ?_))))
    refine RR [8, 9] (.d (.d (.d (.d (.d (.d .a)))))) (.i 13 (.bool (s.pos != t.pos)) .a) .a ?_
    refine SR 13 (s.pos != t.pos) true (by simp only [bne_iff_ne, beq_iff_eq, ne_eq]; omega) ?_
    refine RR [] .z (.i 57 (.bool true) (.d (.d (.k .a)))) .a ?_
    refine RZ (NT (CT (SQ (RG ?_))))
    refine RR [] .z (.d (.k .a)) .a ?_
    refine RZ (NT (RE (TR ?_)))
    refine NE [] .z .a [] (.bool false) ?_
    exact ⟨rfl, rfl⟩
  rw [Decidable.not_not] at k0
  by_cases k1 : ¬ s.st = t.st
  · rw [sp_ne (fun h => k1 h.2.1)]
    refine fn_enter Tryz.func46 rfl 110 rfl fun w0 h0 => ?_
    refine SQ (RG ?_)
    refine RP [] (.d .a) 2 (.d (.k .a)) .a 75 [.int .i64 s.pos, .int .i64 s.st, .int .i64 s.fa, .slice s.ca s.cl.length s.cc, .slice s.ha s.hl.length s.hc, .string (mkS s.out), .int .i64 s.rd] fun g1 => ?_
    refine RP [] (.d .a) 3 (.k .z) .a 75 [.int .i64 t.pos, .int .i64 t.st, .int .i64 t.fa, .slice t.ca t.cl.length t.cc, .slice t.ha t.hl.length t.hc, .string (mkS t.out), .int .i64 t.rd] fun g2 => ?_
    refine RR [] .z (.i 4 (.bool false) .a) .a ?_
    refine RZ (NT (SQ (SQ (RG ?_))))
    refine RR [8, 9] (.d (.d (.d (.d (.d (.d .a)))))) (.i 13 (.bool (s.pos != t.pos)) .a) .a ?_
    refine SR 13 (s.pos != t.pos) false (by simp only [bne_eq_false_iff_eq, beq_eq_false_iff_ne, ne_eq]; omega) ?_
    refine RR [8, 9] (.d (.d (.d (.d (.d (.d (.d .a))))))) (.i 20 (.bool (s.st != t.st)) (.d (.d (.k .a)))) .a ?_
    refine SR 20 (s.st != t.st) true (by simp only [bne_iff_ne, beq_iff_eq, ne_eq]; omega) ?_
    refine RR [] .z (.i 57 (.bool true) (.d (.d (.k .a)))) .a ?_
    refine RZ (NT (CT (SQ (RG ?_))))
    refine RR [] .z (.d (.k .a)) .a ?_
    refine RZ (NT (RE (TR ?_)))
    refine NE [] .z .a [] (.bool false) ?_
    exact ⟨rfl, rfl⟩
  rw [Decidable.not_not] at k1
  by_cases k2 : ¬ s.fa = t.fa
  · rw [sp_ne (fun h => k2 h.2.2.1)]
    refine fn_enter Tryz.func46 rfl 110 rfl fun w0 h0 => ?_
    refine SQ (RG ?_)
    refine RP [] (.d .a) 2 (.d (.k .a)) .a 75 [.int .i64 s.pos, .int .i64 s.st, .int .i64 s.fa, .slice s.ca s.cl.length s.cc, .slice s.ha s.hl.length s.hc, .string (mkS s.out), .int .i64 s.rd] fun g1 => ?_
    refine RP [] (.d .a) 3 (.k .z) .a 75 [.int .i64 t.pos, .int .i64 t.st, .int .i64 t.fa, .slice t.ca t.cl.length t.cc, .slice t.ha t.hl.length t.hc, .string (mkS t.out), .int .i64 t.rd] fun g2 => ?_
    refine RR [] .z (.i 4 (.bool false) .a) .a ?_
    refine RZ (NT (SQ (SQ (RG ?_))))
    refine RR [8, 9] (.d (.d (.d (.d (.d (.d .a)))))) (.i 13 (.bool (s.pos != t.pos)) .a) .a ?_
    refine SR 13 (s.pos != t.pos) false (by simp only [bne_eq_false_iff_eq, beq_eq_false_iff_ne, ne_eq]; omega) ?_
    refine RR [8, 9] (.d (.d (.d (.d (.d (.d (.d .a))))))) (.i 20 (.bool (s.st != t.st)) (.d (.d (.k .a)))) .a ?_
    refine SR 20 (s.st != t.st) false (by simp only [bne_eq_false_iff_eq, beq_eq_false_iff_ne, ne_eq]; omega) ?_
    refine RR [8, 9] (.d (.d (.d (.d (.d (.d (.d .a))))))) (.i 27 (.bool (s.fa != t.fa)) (.d (.d (.k .a)))) .a ?_
    refine SR 27 (s.fa != t.fa) true (by simp only [bne_iff_ne, beq_iff_eq, ne_eq]; omega) ?_
    refine RR [] .z (.i 57 (.bool true) (.d (.d (.k .a)))) .a ?_
    refine RZ (NT (CT (SQ (RG ?_))))
    refine RR [] .z (.d (.k .a)) .a ?_
    refine RZ (NT (RE (TR ?_)))
    refine NE [] .z .a [] (.bool false) ?_
    exact ⟨rfl, rfl⟩
  rw [Decidable.not_not] at k2
  by_cases k3 : ¬ s.out = t.out
  · rw [sp_ne (fun h => k3 h.2.2.2.1)]
    have k3' : mkS s.out ≠ mkS t.out := fun h => k3 (mkS_inj h)
    refine fn_enter Tryz.func46 rfl 110 rfl fun w0 h0 => ?_
    refine SQ (RG ?_)
    refine RP [] (.d .a) 2 (.d (.k .a)) .a 75 [.int .i64 s.pos, .int .i64 s.st, .int .i64 s.fa, .slice s.ca s.cl.length s.cc, .slice s.ha s.hl.length s.hc, .string (mkS s.out), .int .i64 s.rd] fun g1 => ?_
    refine RP [] (.d .a) 3 (.k .z) .a 75 [.int .i64 t.pos, .int .i64 t.st, .int .i64 t.fa, .slice t.ca t.cl.length t.cc, .slice t.ha t.hl.length t.hc, .string (mkS t.out), .int .i64 t.rd] fun g2 => ?_
    refine RR [] .z (.i 4 (.bool false) .a) .a ?_
    refine RZ (NT (SQ (SQ (RG ?_))))
    refine RR [8, 9] (.d (.d (.d (.d (.d (.d .a)))))) (.i 13 (.bool (s.pos != t.pos)) .a) .a ?_
    refine SR 13 (s.pos != t.pos) false (by simp only [bne_eq_false_iff_eq, beq_eq_false_iff_ne, ne_eq]; omega) ?_
    refine RR [8, 9] (.d (.d (.d (.d (.d (.d (.d .a))))))) (.i 20 (.bool (s.st != t.st)) (.d (.d (.k .a)))) .a ?_
    refine SR 20 (s.st != t.st) false (by simp only [bne_eq_false_iff_eq, beq_eq_false_iff_ne, ne_eq]; omega) ?_
    refine RR [8, 9] (.d (.d (.d (.d (.d (.d (.d .a))))))) (.i 27 (.bool (s.fa != t.fa)) (.d (.d (.k .a)))) .a ?_
    refine SR 27 (s.fa != t.fa) false (by simp only [bne_eq_false_iff_eq, beq_eq_false_iff_ne, ne_eq]; omega) ?_
    refine RR [8, 9] (.d (.d (.d (.d (.d (.d (.d .a))))))) (.i 34 (.bool !decide (s.out = t.out)) (.d (.d (.k .a)))) .a ?_
    refine SR 34 (!decide (s.out = t.out)) true (by simp; omega) ?_
    refine RR [] .z (.i 57 (.bool true) (.d (.d (.k .a)))) .a ?_
    refine RZ (NT (CT (SQ (RG ?_))))
    refine RR [] .z (.d (.k .a)) .a ?_
    refine RZ (NT (RE (TR ?_)))
    refine NE [] .z .a [] (.bool false) ?_
    exact ⟨rfl, rfl⟩
  rw [Decidable.not_not] at k3
  by_cases k4 : ¬ s.rd = t.rd
  · rw [sp_ne (fun h => k4 h.2.2.2.2.1)]
    refine fn_enter Tryz.func46 rfl 110 rfl fun w0 h0 => ?_
    refine SQ (RG ?_)
    refine RP [] (.d .a) 2 (.d (.k .a)) .a 75 [.int .i64 s.pos, .int .i64 s.st, .int .i64 s.fa, .slice s.ca s.cl.length s.cc, .slice s.ha s.hl.length s.hc, .string (mkS s.out), .int .i64 s.rd] fun g1 => ?_
    refine RP [] (.d .a) 3 (.k .z) .a 75 [.int .i64 t.pos, .int .i64 t.st, .int .i64 t.fa, .slice t.ca t.cl.length t.cc, .slice t.ha t.hl.length t.hc, .string (mkS t.out), .int .i64 t.rd] fun g2 => ?_
    refine RR [] .z (.i 4 (.bool false) .a) .a ?_
    refine RZ (NT (SQ (SQ (RG ?_))))
    refine RR [8, 9] (.d (.d (.d (.d (.d (.d .a)))))) (.i 13 (.bool (s.pos != t.pos)) .a) .a ?_
    refine SR 13 (s.pos != t.pos) false (by simp only [bne_eq_false_iff_eq, beq_eq_false_iff_ne, ne_eq]; omega) ?_
    refine RR [8, 9] (.d (.d (.d (.d (.d (.d (.d .a))))))) (.i 20 (.bool (s.st != t.st)) (.d (.d (.k .a)))) .a ?_
    refine SR 20 (s.st != t.st) false (by simp only [bne_eq_false_iff_eq, beq_eq_false_iff_ne, ne_eq]; omega) ?_
    refine RR [8, 9] (.d (.d (.d (.d (.d (.d (.d .a))))))) (.i 27 (.bool (s.fa != t.fa)) (.d (.d (.k .a)))) .a ?_
    refine SR 27 (s.fa != t.fa) false (by simp only [bne_eq_false_iff_eq, beq_eq_false_iff_ne, ne_eq]; omega) ?_
    refine RR [8, 9] (.d (.d (.d (.d (.d (.d (.d .a))))))) (.i 34 (.bool !decide (s.out = t.out)) (.d (.d (.k .a)))) .a ?_
    refine SR 34 (!decide (s.out = t.out)) false (by simp; omega) ?_
    refine RR [8, 9] (.d (.d (.d (.d (.d (.d (.d .a))))))) (.i 41 (.bool (s.rd != t.rd)) (.d (.d (.k .a)))) .a ?_
    refine SR 41 (s.rd != t.rd) true (by simp only [bne_iff_ne, beq_iff_eq, ne_eq]; omega) ?_
    refine RR [] .z (.i 57 (.bool true) (.d (.d (.k .a)))) .a ?_
    refine RZ (NT (CT (SQ (RG ?_))))
    refine RR [] .z (.d (.k .a)) .a ?_
    refine RZ (NT (RE (TR ?_)))
    refine NE [] .z .a [] (.bool false) ?_
    exact ⟨rfl, rfl⟩
  rw [Decidable.not_not] at k4
  refine fn_enter Tryz.func46 rfl 110 rfl fun w0 h0 => ?_
  refine SQ (RG ?_)
  refine RP [] (.d .a) 2 (.d (.k .a)) .a 75 [.int .i64 s.pos, .int .i64 s.st, .int .i64 s.fa, .slice s.ca s.cl.length s.cc, .slice s.ha s.hl.length s.hc, .string (mkS s.out), .int .i64 s.rd] fun g1 => ?_
  refine RP [] (.d .a) 3 (.k .z) .a 75 [.int .i64 t.pos, .int .i64 t.st, .int .i64 t.fa, .slice t.ca t.cl.length t.cc, .slice t.ha t.hl.length t.hc, .string (mkS t.out), .int .i64 t.rd] fun g2 => ?_
  refine RR [] .z (.i 4 (.bool false) .a) .a ?_
  refine RZ (NT (SQ (SQ (RG ?_))))
  refine RR [8, 9] (.d (.d (.d (.d (.d (.d .a)))))) (.i 13 (.bool (s.pos != t.pos)) .a) .a ?_
  refine SR 13 (s.pos != t.pos) false (by simp only [bne_eq_false_iff_eq, beq_eq_false_iff_ne, ne_eq]; omega) ?_
  refine RR [8, 9] (.d (.d (.d (.d (.d (.d (.d .a))))))) (.i 20 (.bool (s.st != t.st)) (.d (.d (.k .a)))) .a ?_
  refine SR 20 (s.st != t.st) false (by simp only [bne_eq_false_iff_eq, beq_eq_false_iff_ne, ne_eq]; omega) ?_
  refine RR [8, 9] (.d (.d (.d (.d (.d (.d (.d .a))))))) (.i 27 (.bool (s.fa != t.fa)) (.d (.d (.k .a)))) .a ?_
  refine SR 27 (s.fa != t.fa) false (by simp only [bne_eq_false_iff_eq, beq_eq_false_iff_ne, ne_eq]; omega) ?_
  refine RR [8, 9] (.d (.d (.d (.d (.d (.d (.d .a))))))) (.i 34 (.bool !decide (s.out = t.out)) (.d (.d (.k .a)))) .a ?_
  refine SR 34 (!decide (s.out = t.out)) false (by simp; omega) ?_
  refine RR [8, 9] (.d (.d (.d (.d (.d (.d (.d .a))))))) (.i 41 (.bool (s.rd != t.rd)) (.d (.d (.k .a)))) .a ?_
  refine SR 41 (s.rd != t.rd) false (by simp only [bne_eq_false_iff_eq, beq_eq_false_iff_ne, ne_eq]; omega) ?_
  refine RR [8, 9] (.d (.d (.d (.d .a)))) (.i 45 (.slice t.ha t.hl.length t.hc) (.i 43 (.slice s.ha s.hl.length s.hc) (.k (.d (.k .a))))) .a ?_
  refine RCG (dst := some 46) .a (hSm) (GV (GV (GV (GV (GI []) 7 view_self) 6 view_ro) 3 view_self) 2 view_ro) ?_
  rintro v _ ⟨rfl, rfl⟩
  by_cases k5 : ¬ s.hl.map Ob.o = t.hl.map Ob.o
  · rw [sp_ne (fun h => k5 h.2.2.2.2.2.1), decide_eq_false k5]
    refine RR [] .z (.i 57 (.bool true) (.d (.d (.d (.d (.k .a)))))) .a ?_
    refine RZ (NT (CT (SQ (RG ?_))))
    refine RR [] .z (.d (.k .a)) .a ?_
    refine RZ (NT (RE (TR ?_)))
    refine NE [] .z .a [] (.bool false) ?_
    exact ⟨rfl, rfl⟩
  rw [Decidable.not_not] at k5
  rw [decide_eq_true k5]
  by_cases k6 : ¬ s.cl.length = t.cl.length
  · rw [sp_ne (fun h => k6 (by have := congrArg List.length h.2.2.2.2.2.2; simpa using this))]
    refine RR [8, 9] .z (.i 57 (.bool ((↑s.cl.length : Int) != (↑t.cl.length : Int))) (.d (.d (.d (.d (.k .a)))))) .a ?_
    refine RZ (NT ?_)
    refine SC 57 ((↑s.cl.length : Int) != (↑t.cl.length : Int)) true (by simp only [bne_iff_ne, beq_iff_eq, ne_eq]; omega) ?_
    refine CT (SQ (RG ?_))
    refine RR [] .z (.d (.d (.k .a))) .a ?_
    refine RZ (NT (RE (TR ?_)))
    refine NE [] .z .a [] (.bool false) ?_
    exact ⟨rfl, rfl⟩
  rw [Decidable.not_not] at k6
  refine RR [8, 9] .z (.i 57 (.bool ((↑s.cl.length : Int) != (↑t.cl.length : Int))) (.d (.d (.d (.d (.k .a)))))) .a ?_
  refine RZ (NT ?_)
  refine SC 57 ((↑s.cl.length : Int) != (↑t.cl.length : Int)) false (by simp only [bne_eq_false_iff_eq, beq_eq_false_iff_ne, ne_eq]; omega) ?_
  refine CF (SK (NT (SQ (SQ (RG ?_)))))
  refine RR [] .z (.i 5 (.int .i64 0) (.d (.d (.k .a)))) .a ?_
  refine RZ (NT (BK ?_))
  refine wpc_loop (X := {i : Nat // i ≤ s.cl.length ∧ (s.cl.take i).map Cl.p = (t.cl.take i).map Cl.p}) (fun x => St.mk [(5, .int .i64 (x.1 : Int)), (4, .bool false), (3, .pointer (some ⟨g2, 0, none⟩)), (2, .pointer (some ⟨g1, 0, none⟩))]
    [ro s.ca (s.cl.flatMap clC), gCl s.cl, ro t.ca (t.cl.flatMap clC), gCl t.cl,
      .blk g1 75 [.int .i64 s.pos, .int .i64 s.st, .int .i64 s.fa, .slice s.ca s.cl.length s.cc, .slice s.ha s.hl.length s.hc, .string (mkS s.out), .int .i64 s.rd],
      .blk g2 75 [.int .i64 t.pos, .int .i64 t.st, .int .i64 t.fa, .slice t.ca t.cl.length t.cc, .slice t.ha t.hl.length t.hc, .string (mkS t.out), .int .i64 t.rd]]) (fun x => s.cl.length - x.1) ⟨0, Nat.zero_le _, rfl⟩ (Ent.trans (ent_hp [0, 0, 2, 2, 4, 4] rfl) (ent_fr (by kernel_rfl))) ?_
  rintro ⟨i, hi, he⟩
  dsimp only at hi he ⊢
  by_cases hlt : i < s.cl.length
  · have hlt2 : i < t.cl.length := by omega
    obtain ⟨-, -, -, x1, x2, x3, x4⟩ := hc2 _ (List.getElem_mem hlt)
    obtain ⟨-, -, -, y1, y2, y3, y4⟩ := tc2 _ (List.getElem_mem hlt2)
    have hno : s.cl[i].p ≠ t.cl[i].p → decide (s.p = t.p) = false := fun h => sp_ne (fun h2 => cl_ne hlt hlt2 h h2.2.2.2.2.2.2)
    refine wpc_fact (fun w h => ro_addr h 0 rfl (by rw [cls_len]; omega)) ?_
    rintro ⟨g3, o3, hca⟩
    refine wpc_fact (fun w h => ro_addr h 2 rfl (by rw [cls_len]; omega)) ?_
    rintro ⟨g4, o4, hta⟩
    rw [hca, hta]
    refine SQ (SQ (RG ?_))
    refine RR [4] .z (.i 62 (.bool (decide ((↑i : Int) < (↑s.cl.length : Int)))) .a) .a ?_
    refine RZ (NT ?_)
    refine SC 62 (decide ((↑i : Int) < (↑s.cl.length : Int))) true (decide_eq_true (by omega)) ?_
    refine CT (SK (NT (SQ (BK (SQ ?_)))))
    refine wpc_draw (by kernel_rfl) [ro (some ⟨g3, o3, none⟩) (List.flatMap clC s.cl), ro (some ⟨g4, o4, none⟩) (List.flatMap clC t.cl), .blk g1 75 [.int .i64 s.pos, .int .i64 s.st, .int .i64 s.fa, .slice (some ⟨g3, o3, none⟩) s.cl.length s.cc, .slice s.ha s.hl.length s.hc, .string (mkS s.out), .int .i64 s.rd], .blk g2 75 [.int .i64 t.pos, .int .i64 t.st, .int .i64 t.fa, .slice (some ⟨g4, o4, none⟩) t.cl.length t.cc, .slice t.ha t.hl.length t.hc, .string (mkS t.out), .int .i64 t.rd]] (sub_of [0, 2, 4, 5] (by kernel_rfl)) 14 (by kernel_rfl) ?_
    refine wpa_take true [(0, []), (1, [2]), (2, []), (3, []), (5, []), (6, [3]), (7, []), (8, [])] ([(73, .pointer (some ⟨g4, o4 + i * 5, none⟩)), (68, .pointer (some ⟨g3, o3 + i * 5, none⟩)), (5, .int .i64 (↑i : Int)), (4, .bool false), (3, .pointer (some ⟨g2, 0, none⟩)), (2, .pointer (some ⟨g1, 0, none⟩))]) (#[true, true, true, true, false, true, true, true, true, false, false, false, false, false]) [(0 : Int) ≤ (↑i : Int) ∧ (↑i : Int) < (↑s.cl.length : Int), (0 : Int) ≤ (↑i : Int) ∧ (↑i : Int) < (↑t.cl.length : Int)] (n := 6) (by kernel_rfl) (by kernel_rfl) (by kernel_rfl) ⟨by omega, by omega, trivial⟩ ?_
    refine wpa_qld (i := 4) (n := 5) (by kernel_rfl) (by kernel_rfl) (by kernel_rfl) (t := 124) (a := ⟨g3, o3 + i * 5, none⟩) (dst := some 69) (by kernel_rfl) true 5 (by kernel_rfl) (by simp) (clC s.cl[i]) rfl (fun w h => ld_roL h 0 rfl (i * 5) (cls_at hlt)) ?_
    refine wpa_qld (i := 9) (n := 4) (by kernel_rfl) (by kernel_rfl) (by kernel_rfl) (t := 124) (a := ⟨g4, o4 + i * 5, none⟩) (dst := some 74) (by kernel_rfl) true 5 (by kernel_rfl) (by simp) (clC t.cl[i]) rfl (fun w h => ld_roL h 1 rfl (i * 5) (cls_at hlt2)) ?_
    refine wpa_joinx (X := Nat × Nat) (fun y => St.mk [(7, .pointer (some ⟨y.2, 0, none⟩)), (6, .pointer (some ⟨y.1, 0, none⟩)), (5, .int .i64 (i : Int)), (4, .bool false), (3, .pointer (some ⟨g2, 0, none⟩)), (2, .pointer (some ⟨g1, 0, none⟩))]
      [ro (some ⟨g3, o3, none⟩) (s.cl.flatMap clC), gCl s.cl, ro (some ⟨g4, o4, none⟩) (t.cl.flatMap clC), gCl t.cl,
        .blk g1 75 [.int .i64 s.pos, .int .i64 s.st, .int .i64 s.fa, .slice (some ⟨g3, o3, none⟩) s.cl.length s.cc, .slice s.ha s.hl.length s.hc, .string (mkS s.out), .int .i64 s.rd],
        .blk g2 75 [.int .i64 t.pos, .int .i64 t.st, .int .i64 t.fa, .slice (some ⟨g4, o4, none⟩) t.cl.length t.cc, .slice t.ha t.hl.length t.hc, .string (mkS t.out), .int .i64 t.rd],
        .blk y.1 124 (clC s.cl[i]), .blk y.2 124 (clC t.cl[i])]) (fun Q1 hQ1 hk => ?_) ?_
    · skip
      refine wpa_two (i := 10) (j := 11) (n := 3) (by kernel_rfl) ?_ ?_
      · refine wpi_new (n := 3) true 10 [] (fun g5 => [(6, .pointer (some ⟨g5, 0, none⟩)), (74, .agg #[.int .i64 t.cl[i].u, .int .i64 t.cl[i].t, .int .i64 t.cl[i].m, .slice t.cl[i].sa t.cl[i].slots.length t.cl[i].sc, .slice t.cl[i].ta t.cl[i].stack.length t.cl[i].tc]), (69, .agg #[.int .i64 s.cl[i].u, .int .i64 s.cl[i].t, .int .i64 s.cl[i].m, .slice s.cl[i].sa s.cl[i].slots.length s.cl[i].sc, .slice s.cl[i].ta s.cl[i].stack.length s.cl[i].tc]), (5, .int .i64 (↑i : Int)), (4, .bool false), (3, .pointer (some ⟨g2, 0, none⟩)), (2, .pointer (some ⟨g1, 0, none⟩))]) (fun g5 => [ro (some ⟨g3, o3, none⟩) (List.flatMap clC s.cl), gCl s.cl, ro (some ⟨g4, o4, none⟩) (List.flatMap clC t.cl), gCl t.cl, .blk g1 75 [.int .i64 s.pos, .int .i64 s.st, .int .i64 s.fa, .slice (some ⟨g3, o3, none⟩) s.cl.length s.cc, .slice s.ha s.hl.length s.hc, .string (mkS s.out), .int .i64 s.rd], .blk g2 75 [.int .i64 t.pos, .int .i64 t.st, .int .i64 t.fa, .slice (some ⟨g4, o4, none⟩) t.cl.length t.cc, .slice t.ha t.hl.length t.hc, .string (mkS t.out), .int .i64 t.rd], .blk g5 124 [.int .i64 0, .int .i64 0, .int .i64 0, .slice none 0 0, .slice none 0 0]]) (fun g5 => []) (fun g5 => by kernel_rfl) (fun g5 => by kernel_rfl) (fun g5 => trivial) (fun g5 => sub_of [0, 2, 4, 5] (by kernel_rfl)) fun g5 => ?_
        refine wpa_new (n := 2) true 11 [] (fun g6 => [(7, .pointer (some ⟨g6, 0, none⟩)), (6, .pointer (some ⟨g5, 0, none⟩)), (74, .agg #[.int .i64 t.cl[i].u, .int .i64 t.cl[i].t, .int .i64 t.cl[i].m, .slice t.cl[i].sa t.cl[i].slots.length t.cl[i].sc, .slice t.cl[i].ta t.cl[i].stack.length t.cl[i].tc]), (69, .agg #[.int .i64 s.cl[i].u, .int .i64 s.cl[i].t, .int .i64 s.cl[i].m, .slice s.cl[i].sa s.cl[i].slots.length s.cl[i].sc, .slice s.cl[i].ta s.cl[i].stack.length s.cl[i].tc]), (5, .int .i64 (↑i : Int)), (4, .bool false), (3, .pointer (some ⟨g2, 0, none⟩)), (2, .pointer (some ⟨g1, 0, none⟩))]) (fun g6 => [ro (some ⟨g3, o3, none⟩) (List.flatMap clC s.cl), gCl s.cl, ro (some ⟨g4, o4, none⟩) (List.flatMap clC t.cl), gCl t.cl, .blk g1 75 [.int .i64 s.pos, .int .i64 s.st, .int .i64 s.fa, .slice (some ⟨g3, o3, none⟩) s.cl.length s.cc, .slice s.ha s.hl.length s.hc, .string (mkS s.out), .int .i64 s.rd], .blk g2 75 [.int .i64 t.pos, .int .i64 t.st, .int .i64 t.fa, .slice (some ⟨g4, o4, none⟩) t.cl.length t.cc, .slice t.ha t.hl.length t.hc, .string (mkS t.out), .int .i64 t.rd], .blk g5 124 [.int .i64 0, .int .i64 0, .int .i64 0, .slice none 0 0, .slice none 0 0], .blk g6 124 [.int .i64 0, .int .i64 0, .int .i64 0, .slice none 0 0, .slice none 0 0]]) (fun g6 => []) (by kernel_rfl) (fun g6 => by kernel_rfl) (fun g6 => by kernel_rfl) (fun g6 => trivial) (fun g6 => sub_of [0, 2, 4, 5] (by kernel_rfl)) fun g6 => ?_
        refine AO 1 12 [6, 6, 6, 6, 6] (.k (.k (.k (.d (.k .a))))) (.k (.k (.k (.k (.k (.k (.u (.i (.int .i64 s.cl[i].u) (.i (.int .i64 s.cl[i].t) (.i (.int .i64 s.cl[i].m) (.i (.slice s.cl[i].sa s.cl[i].slots.length s.cl[i].sc) (.i (.slice s.cl[i].ta s.cl[i].stack.length s.cl[i].tc) .z))))) .a))))))) [0, 2, 4, 5] ?_
        refine AO 0 13 [7, 7, 7, 7, 7] (.k (.k (.d (.k .a)))) (.k (.k (.k (.k (.k (.k (.k (.u (.i (.int .i64 t.cl[i].u) (.i (.int .i64 t.cl[i].t) (.i (.int .i64 t.cl[i].m) (.i (.slice t.cl[i].sa t.cl[i].slots.length t.cl[i].sc) (.i (.slice t.cl[i].ta t.cl[i].stack.length t.cl[i].tc) .z))))) .a)))))))) [0, 2, 4, 5] ?_
        refine wpa_done 0 (by kernel_rfl) ?_
        exact nx_ent (ent_hp [0, 0, 0, 0, 0, 0, 0, 0] rfl) (nx_ent (ent_fr (by kernel_rfl)) (hk ⟨g5, g6⟩))
      · refine wpi_new (n := 3) true 11 [] (fun g5 => [(7, .pointer (some ⟨g5, 0, none⟩)), (74, .agg #[.int .i64 t.cl[i].u, .int .i64 t.cl[i].t, .int .i64 t.cl[i].m, .slice t.cl[i].sa t.cl[i].slots.length t.cl[i].sc, .slice t.cl[i].ta t.cl[i].stack.length t.cl[i].tc]), (69, .agg #[.int .i64 s.cl[i].u, .int .i64 s.cl[i].t, .int .i64 s.cl[i].m, .slice s.cl[i].sa s.cl[i].slots.length s.cl[i].sc, .slice s.cl[i].ta s.cl[i].stack.length s.cl[i].tc]), (5, .int .i64 (↑i : Int)), (4, .bool false), (3, .pointer (some ⟨g2, 0, none⟩)), (2, .pointer (some ⟨g1, 0, none⟩))]) (fun g5 => [ro (some ⟨g3, o3, none⟩) (List.flatMap clC s.cl), gCl s.cl, ro (some ⟨g4, o4, none⟩) (List.flatMap clC t.cl), gCl t.cl, .blk g1 75 [.int .i64 s.pos, .int .i64 s.st, .int .i64 s.fa, .slice (some ⟨g3, o3, none⟩) s.cl.length s.cc, .slice s.ha s.hl.length s.hc, .string (mkS s.out), .int .i64 s.rd], .blk g2 75 [.int .i64 t.pos, .int .i64 t.st, .int .i64 t.fa, .slice (some ⟨g4, o4, none⟩) t.cl.length t.cc, .slice t.ha t.hl.length t.hc, .string (mkS t.out), .int .i64 t.rd], .blk g5 124 [.int .i64 0, .int .i64 0, .int .i64 0, .slice none 0 0, .slice none 0 0]]) (fun g5 => []) (fun g5 => by kernel_rfl) (fun g5 => by kernel_rfl) (fun g5 => trivial) (fun g5 => sub_of [0, 2, 4, 5] (by kernel_rfl)) fun g5 => ?_
        refine wpa_new (n := 2) true 10 [] (fun g6 => [(6, .pointer (some ⟨g6, 0, none⟩)), (7, .pointer (some ⟨g5, 0, none⟩)), (74, .agg #[.int .i64 t.cl[i].u, .int .i64 t.cl[i].t, .int .i64 t.cl[i].m, .slice t.cl[i].sa t.cl[i].slots.length t.cl[i].sc, .slice t.cl[i].ta t.cl[i].stack.length t.cl[i].tc]), (69, .agg #[.int .i64 s.cl[i].u, .int .i64 s.cl[i].t, .int .i64 s.cl[i].m, .slice s.cl[i].sa s.cl[i].slots.length s.cl[i].sc, .slice s.cl[i].ta s.cl[i].stack.length s.cl[i].tc]), (5, .int .i64 (↑i : Int)), (4, .bool false), (3, .pointer (some ⟨g2, 0, none⟩)), (2, .pointer (some ⟨g1, 0, none⟩))]) (fun g6 => [ro (some ⟨g3, o3, none⟩) (List.flatMap clC s.cl), gCl s.cl, ro (some ⟨g4, o4, none⟩) (List.flatMap clC t.cl), gCl t.cl, .blk g1 75 [.int .i64 s.pos, .int .i64 s.st, .int .i64 s.fa, .slice (some ⟨g3, o3, none⟩) s.cl.length s.cc, .slice s.ha s.hl.length s.hc, .string (mkS s.out), .int .i64 s.rd], .blk g2 75 [.int .i64 t.pos, .int .i64 t.st, .int .i64 t.fa, .slice (some ⟨g4, o4, none⟩) t.cl.length t.cc, .slice t.ha t.hl.length t.hc, .string (mkS t.out), .int .i64 t.rd], .blk g5 124 [.int .i64 0, .int .i64 0, .int .i64 0, .slice none 0 0, .slice none 0 0], .blk g6 124 [.int .i64 0, .int .i64 0, .int .i64 0, .slice none 0 0, .slice none 0 0]]) (fun g6 => []) (by kernel_rfl) (fun g6 => by kernel_rfl) (fun g6 => by kernel_rfl) (fun g6 => trivial) (fun g6 => sub_of [0, 2, 4, 5] (by kernel_rfl)) fun g6 => ?_
        refine AO 1 12 [7, 7, 7, 7, 7] (.k (.k (.k (.d (.k .a))))) (.k (.k (.k (.k (.k (.k (.k (.u (.i (.int .i64 s.cl[i].u) (.i (.int .i64 s.cl[i].t) (.i (.int .i64 s.cl[i].m) (.i (.slice s.cl[i].sa s.cl[i].slots.length s.cl[i].sc) (.i (.slice s.cl[i].ta s.cl[i].stack.length s.cl[i].tc) .z))))) .a)))))))) [0, 2, 4, 5] ?_
        refine AO 0 13 [6, 6, 6, 6, 6] (.k (.k (.d (.k .a)))) (.k (.k (.k (.k (.k (.k (.u (.i (.int .i64 t.cl[i].u) (.i (.int .i64 t.cl[i].t) (.i (.int .i64 t.cl[i].m) (.i (.slice t.cl[i].sa t.cl[i].slots.length t.cl[i].sc) (.i (.slice t.cl[i].ta t.cl[i].stack.length t.cl[i].tc) .z))))) .a))))))) [0, 2, 4, 5] ?_
        refine wpa_done 0 (by kernel_rfl) ?_
        exact nx_ent (ent_hp [0, 0, 0, 0, 0, 0, 1, 0] rfl) (nx_ent (ent_fr (by kernel_rfl)) (hk ⟨g6, g5⟩))
    · rintro ⟨g5, g6⟩
      dsimp only
      by_cases j0 : ¬ s.cl[i].u = t.cl[i].u
      · rw [hno (fun e => j0 (congrArg (fun x : C5 => x.1) e))]
        refine NT (SQ (RG ?_))
        refine RR [6, 7] (.d (.d (.d (.d (.d (.d .a)))))) (.i 80 (.bool (s.cl[i].u != t.cl[i].u)) .a) (.k (.k (.k (.k (.k (.k (.u .a (.u .a .a)))))))) ?_
        refine SR 80 (s.cl[i].u != t.cl[i].u) true (by simp only [bne_iff_ne, beq_iff_eq, ne_eq]; omega) ?_
        refine RR [] .z (.i 109 (.bool true) (.d (.d (.d (.d (.k .a)))))) (.k (.k (.k (.k (.k (.k (.u .a (.u .a .a)))))))) ?_
        refine RZ (NT (CT (SQ (RG ?_))))
        refine RR [] .z (.i 4 (.bool false) (.d (.k (.d (.k .a))))) (.k (.k (.k (.k (.k (.k (.u .a (.u .a .a)))))))) ?_
        refine RZ (NT (RE (BR (TR (TR (BR (TR ?_)))))))
        refine NE [] .z (.k (.k (.k (.k (.k (.k (.u .a (.u .a .a)))))))) [] (.bool false) ?_
        exact ⟨rfl, rfl⟩
      rw [Decidable.not_not] at j0
      by_cases j1 : ¬ s.cl[i].t = t.cl[i].t
      · rw [hno (fun e => j1 (congrArg (fun x : C5 => x.2.1) e))]
        refine NT (SQ (RG ?_))
        refine RR [6, 7] (.d (.d (.d (.d (.d (.d .a)))))) (.i 80 (.bool (s.cl[i].u != t.cl[i].u)) .a) (.k (.k (.k (.k (.k (.k (.u .a (.u .a .a)))))))) ?_
        refine SR 80 (s.cl[i].u != t.cl[i].u) false (by simp only [bne_eq_false_iff_eq, beq_eq_false_iff_ne, ne_eq]; omega) ?_
        refine RR [6, 7] (.d (.d (.d (.d (.d (.d (.d .a))))))) (.i 87 (.bool (s.cl[i].t != t.cl[i].t)) (.d (.d (.k .a)))) (.k (.k (.k (.k (.k (.k (.u .a (.u .a .a)))))))) ?_
        refine SR 87 (s.cl[i].t != t.cl[i].t) true (by simp only [bne_iff_ne, beq_iff_eq, ne_eq]; omega) ?_
        refine RR [] .z (.i 109 (.bool true) (.d (.d (.d (.d (.k .a)))))) (.k (.k (.k (.k (.k (.k (.u .a (.u .a .a)))))))) ?_
        refine RZ (NT (CT (SQ (RG ?_))))
        refine RR [] .z (.i 4 (.bool false) (.d (.k (.d (.k .a))))) (.k (.k (.k (.k (.k (.k (.u .a (.u .a .a)))))))) ?_
        refine RZ (NT (RE (BR (TR (TR (BR (TR ?_)))))))
        refine NE [] .z (.k (.k (.k (.k (.k (.k (.u .a (.u .a .a)))))))) [] (.bool false) ?_
        exact ⟨rfl, rfl⟩
      rw [Decidable.not_not] at j1
      by_cases j2 : ¬ s.cl[i].m = t.cl[i].m
      · rw [hno (fun e => j2 (congrArg (fun x : C5 => x.2.2.1) e))]
        refine NT (SQ (RG ?_))
        refine RR [6, 7] (.d (.d (.d (.d (.d (.d .a)))))) (.i 80 (.bool (s.cl[i].u != t.cl[i].u)) .a) (.k (.k (.k (.k (.k (.k (.u .a (.u .a .a)))))))) ?_
        refine SR 80 (s.cl[i].u != t.cl[i].u) false (by simp only [bne_eq_false_iff_eq, beq_eq_false_iff_ne, ne_eq]; omega) ?_
        refine RR [6, 7] (.d (.d (.d (.d (.d (.d (.d .a))))))) (.i 87 (.bool (s.cl[i].t != t.cl[i].t)) (.d (.d (.k .a)))) (.k (.k (.k (.k (.k (.k (.u .a (.u .a .a)))))))) ?_
        refine SR 87 (s.cl[i].t != t.cl[i].t) false (by simp only [bne_eq_false_iff_eq, beq_eq_false_iff_ne, ne_eq]; omega) ?_
        refine RR [6, 7] (.d (.d (.d (.d (.d (.d (.d .a))))))) (.i 94 (.bool (s.cl[i].m != t.cl[i].m)) (.d (.d (.k .a)))) (.k (.k (.k (.k (.k (.k (.u .a (.u .a .a)))))))) ?_
        refine SR 94 (s.cl[i].m != t.cl[i].m) true (by simp only [bne_iff_ne, beq_iff_eq, ne_eq]; omega) ?_
        refine RR [] .z (.i 109 (.bool true) (.d (.d (.d (.d (.k .a)))))) (.k (.k (.k (.k (.k (.k (.u .a (.u .a .a)))))))) ?_
        refine RZ (NT (CT (SQ (RG ?_))))
        refine RR [] .z (.i 4 (.bool false) (.d (.k (.d (.k .a))))) (.k (.k (.k (.k (.k (.k (.u .a (.u .a .a)))))))) ?_
        refine RZ (NT (RE (BR (TR (TR (BR (TR ?_)))))))
        refine NE [] .z (.k (.k (.k (.k (.k (.k (.u .a (.u .a .a)))))))) [] (.bool false) ?_
        exact ⟨rfl, rfl⟩
      rw [Decidable.not_not] at j2
      refine NT (SQ (RG ?_))
      refine RR [6, 7] (.d (.d (.d (.d (.d (.d .a)))))) (.i 80 (.bool (s.cl[i].u != t.cl[i].u)) .a) (.k (.k (.k (.k (.k (.k (.u .a (.u .a .a)))))))) ?_
      refine SR 80 (s.cl[i].u != t.cl[i].u) false (by simp only [bne_eq_false_iff_eq, beq_eq_false_iff_ne, ne_eq]; omega) ?_
      refine RR [6, 7] (.d (.d (.d (.d (.d (.d (.d .a))))))) (.i 87 (.bool (s.cl[i].t != t.cl[i].t)) (.d (.d (.k .a)))) (.k (.k (.k (.k (.k (.k (.u .a (.u .a .a)))))))) ?_
      refine SR 87 (s.cl[i].t != t.cl[i].t) false (by simp only [bne_eq_false_iff_eq, beq_eq_false_iff_ne, ne_eq]; omega) ?_
      refine RR [6, 7] (.d (.d (.d (.d (.d (.d (.d .a))))))) (.i 94 (.bool (s.cl[i].m != t.cl[i].m)) (.d (.d (.k .a)))) (.k (.k (.k (.k (.k (.k (.u .a (.u .a .a)))))))) ?_
      refine SR 94 (s.cl[i].m != t.cl[i].m) false (by simp only [bne_eq_false_iff_eq, beq_eq_false_iff_ne, ne_eq]; omega) ?_
      refine RR [6, 7] (.d (.d (.d (.d .a)))) (.i 98 (.slice t.cl[i].sa t.cl[i].slots.length t.cl[i].sc) (.i 96 (.slice s.cl[i].sa s.cl[i].slots.length s.cl[i].sc) (.k (.d (.k .a))))) (.k (.k (.k (.k (.k (.k (.u .a (.u .a .a)))))))) ?_
      refine wpr_ent (ent_copy 1 (ro s.cl[i].sa (s.cl[i].slots.flatMap valC)) rfl (fun h => h) (view_in (clRo_in1 hlt) view_ro)) ?_
      refine wpr_ent (ent_copy 2 (ro s.cl[i].ta (s.cl[i].stack.flatMap valC)) rfl (fun h => h) (view_in (clRo_in2 hlt) view_ro)) ?_
      refine wpr_ent (ent_copy 5 (ro t.cl[i].sa (t.cl[i].slots.flatMap valC)) rfl (fun h => h) (view_in (clRo_in1 hlt2) view_ro)) ?_
      refine wpr_ent (ent_copy 6 (ro t.cl[i].ta (t.cl[i].stack.flatMap valC)) rfl (fun h => h) (view_in (clRo_in2 hlt2) view_ro)) ?_
      refine RCG (dst := some 99) (.k (.k (.k (.k (.k (.k (.k (.k (.k (.k (.u .a (.u .a .a)))))))))))) (SameVals_spec s.cl[i].sa s.cl[i].sc s.cl[i].slots t.cl[i].sa t.cl[i].sc t.cl[i].slots x1 y1) (GV (GV (GI []) 1 view_ro) 3 view_ro) ?_
      rintro v _ ⟨rfl, rfl⟩
      by_cases j3 : ¬ s.cl[i].slots = t.cl[i].slots
      · rw [hno (fun e => j3 (congrArg (fun x : C5 => x.2.2.2.1) e)), decide_eq_false j3]
        refine RR [] .z (.i 109 (.bool true) (.d (.d (.d (.d (.d (.d (.k .a)))))))) (.k (.k (.k (.k (.k (.k (.k (.k (.k (.k (.u .a (.u .a .a)))))))))))) ?_
        refine RZ (NT (CT (SQ (RG ?_))))
        refine RR [] .z (.i 4 (.bool false) (.d (.k (.d (.k .a))))) (.k (.k (.k (.k (.k (.k (.k (.k (.k (.k (.u .a (.u .a .a)))))))))))) ?_
        refine RZ (NT (RE (BR (TR (TR (BR (TR ?_)))))))
        refine NE [] .z (.k (.k (.k (.k (.k (.k (.k (.k (.k (.k (.u .a (.u .a .a)))))))))))) [] (.bool false) ?_
        exact ⟨rfl, rfl⟩
      rw [Decidable.not_not] at j3
      rw [decide_eq_true j3]
      refine RR [10, 11] (.d (.d (.d (.d (.d (.d (.d .a))))))) (.i 106 (.slice t.cl[i].ta t.cl[i].stack.length t.cl[i].tc) (.i 104 (.slice s.cl[i].ta s.cl[i].stack.length s.cl[i].tc) (.i 102 (.bool false) (.d (.d (.d (.d (.d (.d (.k .a)))))))))) (.k (.k (.k (.k (.k (.k (.k (.k (.k (.k (.u .a (.u .a .a)))))))))))) ?_
      refine RCG (dst := some 107) (.k (.k (.k (.k (.k (.k (.k (.k (.k (.k (.u .a (.u .a .a)))))))))))) (SameVals_spec s.cl[i].ta s.cl[i].tc s.cl[i].stack t.cl[i].ta t.cl[i].tc t.cl[i].stack x2 y2) (GV (GV (GI []) 0 view_ro) 2 view_ro) ?_
      rintro v _ ⟨rfl, rfl⟩
      by_cases j4 : ¬ s.cl[i].stack = t.cl[i].stack
      · rw [hno (fun e => j4 (congrArg (fun x : C5 => x.2.2.2.2) e)), decide_eq_false j4]
        refine RR [] .z (.i 109 (.bool true) (.d (.d (.d (.d (.k .a)))))) (.k (.k (.k (.k (.k (.k (.k (.k (.k (.k (.u .a (.u .a .a)))))))))))) ?_
        refine RZ (NT (CT (SQ (RG ?_))))
        refine RR [] .z (.i 4 (.bool false) (.d (.k (.d (.k .a))))) (.k (.k (.k (.k (.k (.k (.k (.k (.k (.k (.u .a (.u .a .a)))))))))))) ?_
        refine RZ (NT (RE (BR (TR (TR (BR (TR ?_)))))))
        refine NE [] .z (.k (.k (.k (.k (.k (.k (.k (.k (.k (.k (.u .a (.u .a .a)))))))))))) [] (.bool false) ?_
        exact ⟨rfl, rfl⟩
      rw [Decidable.not_not] at j4
      rw [decide_eq_true j4]
      refine RR [] .z (.i 109 (.bool false) (.d (.d (.d (.d (.k .a)))))) (.k (.k (.k (.k (.k (.k (.k (.k (.k (.k (.u .a (.u .a .a)))))))))))) ?_
      refine RZ (NT (CF (SK (BN (NT (RG ?_))))))
      refine RV true [] .z (.i 5 (.int .i64 ((↑i : Int) + 1)) (.d (.d (.k .a)))) (.k (.k (.k (.k (.k (.k (.k (.k (.k (.k (.u .a (.u .a .a)))))))))))) ([inI64 ((↑i : Int) + (1 : Int))]) ⟨by unfold inI64; omega, trivial⟩ ?_
      refine RZ ?_
      rw [← hca, ← hta]
      exact fun a' w' hS' => ⟨⟨i + 1, hlt, cls_o hlt hlt2 he (by unfold Cl.p; rw [j0, j1, j2, j3, j4])⟩, by dsimp only; omega, ent_fr (by kernel_rfl) _ _ (ent_hp [4, 4, 4, 4, 4, 4] rfl _ _ hS')⟩
  · obtain rfl : i = s.cl.length := by omega
    have hall : s.p = t.p := by
      rw [List.take_length, k6, List.take_length] at he
      unfold Sv.p
      rw [k0, k1, k2, k3, k4, k5, he]
    refine SQ (SQ (RG ?_))
    refine RR [4] .z (.i 62 (.bool (decide ((↑s.cl.length : Int) < (↑s.cl.length : Int)))) .a) .a ?_
    refine RZ (NT ?_)
    refine SC 62 (decide ((↑s.cl.length : Int) < (↑s.cl.length : Int))) false (by simp) ?_
    refine CF (EX (TE (TE (BH (NT (SQ (RG ?_)))))))
    refine RR [] .z (.i 4 (.bool true) .z) .a ?_
    refine RZ (NT (RE ?_))
    refine NE [] .z .a [] (.bool true) ?_
    exact ⟨by rw [decide_eq_true hall], rfl⟩
end Go.Proofs.YtpfhleghgkeemaaGreatDoor
namespace Go.Proofs.YtpfhleghgkeemaaGreatDoor
open Go Go.Sx
theorem SnapReads_spec (a : Option Addr) (c : Nat) (bs : List UInt8) (ha : a = none → bs = []) (hl : bs.length ≤ 1099511627776) (hc : bs.length ≤ c) :
    Does Tryz.prog 11 [.slice a bs.length c] [ro a (u8s bs), gWords, gPow] (fun v hp' => v = .bool true ∧ hp' = []) := by
  have hlv := slives_spec
  by_cases hlen : bs.length > 20000
  · refine fn_enter Tryz.func11 rfl 35 rfl fun w0 h0 => ?_
    refine SQ (RG ?_)
    refine RR [] .z (.i 2 (.bool false) .a) .a ?_
    refine RZ (NT (SQ (SQ (RG ?_))))
    refine RR [] .z (.i 9 (.bool (decide ((↑bs.length : Int) > (20000 : Int)))) .a) .a ?_
    refine RZ (NT ?_)
    refine SC 9 (decide ((↑bs.length : Int) > (20000 : Int))) true (decide_eq_true (by omega)) ?_
    refine CT (SQ (RG ?_))
    refine RCG (dst := some 10) .a (hlv) (GV (GI []) 1 view_ro) ?_
    rintro v _ ⟨rfl, rfl⟩
    refine RR [] .z (.i 2 (.bool true) (.d (.d (.d (.d (.k .a)))))) .a ?_
    refine RZ (NT (RE (TR ?_)))
    refine NE [] .z .a [] (.bool true) ?_
    exact ⟨rfl, rfl⟩
  · have hS := rLoadS_spec bs (by omega)
    refine fn_enter Tryz.func11 rfl 35 rfl fun w0 h0 => ?_
    refine SQ (RG ?_)
    refine RR [] .z (.i 2 (.bool false) .a) .a ?_
    refine RZ (NT (SQ (SQ (RG ?_))))
    refine RR [] .z (.i 9 (.bool (decide ((↑bs.length : Int) > (20000 : Int)))) .a) .a ?_
    refine RZ (NT ?_)
    refine SC 9 (decide ((↑bs.length : Int) > (20000 : Int))) false (decide_eq_false (by omega)) ?_
    refine CF (SK (NT (SQ (RG ?_))))
    refine RN [] (.d .a) 12 (fun g1 => (.slice (some ⟨g1, 0, none⟩) 0 0)) (.d (.d (.k .a))) .a 5 [] fun g1 => ?_
    refine RR [] (.d .a) (.i 13 (.slice a bs.length c) .a) .a ?_
    refine wpr_ent (ent_turn 3 (row 5 1 (some ⟨g1, 0, none⟩) 0 0 []) rfl (turn_blk rfl (by intro u hu; cases hu) (by simp)) rfl) ?_
    refine wpr_app (a := (some ⟨g1, 0, none⟩)) (n := 0) (cap := 0) (x := (.slice a bs.length c)) (t := 77) (xt := 77) (dst := some 14) (by kernel_rfl) (e := 5) (sz := 1) (bytes := 1) (by kernel_rfl) 3 (xs := []) (by kernel_rfl) (m := (bs.length)) (news := (u8s bs)) (fun w h => src_ro h 0 rfl (by simp [u8s_len]) (fun e => by rw [ha e]; rfl)) (by unfold maxLen; omega) (by omega) ?_
    intro a1 c1 hn
    simp only [List.nil_append, Nat.zero_add]
    have hL := snapLoad_spec a1 c1 bs (fun e => by cases (hn.1 e).1) (by omega)
    refine RCG (dst := some 15) .a (hL) (GV (GV (GI []) 1 view_ro) 3 view_row) ?_
    rintro v _ ⟨s, hs1, hs2, rfl, rfl⟩
    rw [show svC s = [.int .i64 s.pos, .int .i64 s.st, .int .i64 s.fa, .slice s.ca s.cl.length s.cc, .slice s.ha s.hl.length s.hc, .string (mkS s.out), .int .i64 s.rd] from rfl]
    rw [show svH s = [row 124 5 s.ca s.cl.length s.cc (s.cl.flatMap clC), star (s.cl.flatMap clRows), row 43 2 s.ha s.hl.length s.hc (s.hl.flatMap objC), star (s.hl.map obRow)] from rfl]
    refine RP [] (.d (.d (.d (.d .a)))) 3 (.i 17 (.int .i64 (loadE bs)) (.i 16 (.agg #[.int .i64 s.pos, .int .i64 s.st, .int .i64 s.fa, .slice s.ca s.cl.length s.cc, .slice s.ha s.hl.length s.hc, .string (mkS s.out), .int .i64 s.rd]) (.d (.d (.d (.d (.k .a))))))) .a 75 [.int .i64 0, .int .i64 0, .int .i64 0, .slice none 0 0, .slice none 0 0, .string ⟨#[]⟩, .int .i64 0] fun g2 => ?_
    refine RR [8, 8, 8, 8, 8, 8, 8] .z (.i 4 (.int .i64 (loadE bs)) (.k (.d (.d (.k .a))))) (.k (.k (.k (.k (.k (.k (.k (.k (.u (.i (.int .i64 s.pos) (.i (.int .i64 s.st) (.i (.int .i64 s.fa) (.i (.slice s.ca s.cl.length s.cc) (.i (.slice s.ha s.hl.length s.hc) (.i (.string (mkS s.out)) (.i (.int .i64 s.rd) .z))))))) .a))))))))) ?_
    refine RZ (NT (SQ (RG ?_)))
    refine RR [] (.d .a) (.i 19 (.slice a bs.length c) (.k (.k (.k .z)))) .a ?_
    refine wpr_eq (b2s (a := 77) (b := 9) (ad := a) (n := bs.length) (c := c) (dst := some 20) (by kernel_rfl) (by kernel_rfl) bs (by first | rfl | simp) (fun w h => b2s_ro h 4 rfl)) ?_
    refine RC (dst := some 21) [] .a (hS) ?_
    rintro v _ ⟨t, ht1, ht2, rfl, rfl⟩
    have hSt := sameState_spec s t hs2 ht2
    rw [hs1, ht1, decide_eq_true rfl] at hSt
    unfold svC at hSt
    rw [show svC t = [.int .i64 t.pos, .int .i64 t.st, .int .i64 t.fa, .slice t.ca t.cl.length t.cc, .slice t.ha t.hl.length t.hc, .string (mkS t.out), .int .i64 t.rd] from rfl]
    rw [show svH t = [row 124 5 t.ca t.cl.length t.cc (t.cl.flatMap clC), star (t.cl.flatMap clRows), row 43 2 t.ha t.hl.length t.hc (t.hl.flatMap objC), star (t.hl.map obRow)] from rfl]
    refine RP [] (.d (.d (.d (.d .a)))) 5 (.i 23 (.int .i64 (loadE bs)) (.i 22 (.agg #[.int .i64 t.pos, .int .i64 t.st, .int .i64 t.fa, .slice t.ca t.cl.length t.cc, .slice t.ha t.hl.length t.hc, .string (mkS t.out), .int .i64 t.rd]) (.d (.d (.d (.k .a)))))) .a 75 [.int .i64 0, .int .i64 0, .int .i64 0, .slice none 0 0, .slice none 0 0, .string ⟨#[]⟩, .int .i64 0] fun g3 => ?_
    refine RR [13, 13, 13, 13, 13, 13, 13] .z (.i 6 (.int .i64 (loadE bs)) (.k (.d (.d (.k .a))))) (.k (.k (.k (.k (.k (.k (.k (.k (.k (.k (.k (.k (.k (.u (.i (.int .i64 t.pos) (.i (.int .i64 t.st) (.i (.int .i64 t.fa) (.i (.slice t.ca t.cl.length t.cc) (.i (.slice t.ha t.hl.length t.hc) (.i (.string (mkS t.out)) (.i (.int .i64 t.rd) .z))))))) .a)))))))))))))) ?_
    refine RZ (NT (SQ (RG ?_)))
    refine RR [12, 12, 12, 12, 12, 12, 12, 13, 13, 13, 13, 13, 13, 13] (.d (.d .a)) (.i 25 (.agg #[.int .i64 t.pos, .int .i64 t.st, .int .i64 t.fa, .slice t.ca t.cl.length t.cc, .slice t.ha t.hl.length t.hc, .string (mkS t.out), .int .i64 t.rd]) (.i 24 (.agg #[.int .i64 s.pos, .int .i64 s.st, .int .i64 s.fa, .slice s.ca s.cl.length s.cc, .slice s.ha s.hl.length s.hc, .string (mkS s.out), .int .i64 s.rd]) (.k (.d (.k (.d (.k .a))))))) .a ?_
    refine RCG (dst := some 26) .a (hSt) (GV (GV (GV (GV (GV (GV (GV (GV (GI []) 3 view_gBag) 2 view_row) 1 view_gCl) 0 view_row) 7 view_gBag) 6 view_row) 5 view_gCl) 4 view_row) ?_
    rintro v _ ⟨rfl, rfl⟩
    refine RR [] (.d (.d (.d (.d (.d (.d .a)))))) (.i 32 (.bool (loadE bs == loadE bs)) (.d (.d (.d (.d (.d (.k .a))))))) .a ?_
    refine SR 32 (loadE bs == loadE bs) true (by simp) ?_
    refine RCG (dst := some 33) .a (hlv) (GV (GI []) 9 view_ro) ?_
    rintro v _ ⟨rfl, rfl⟩
    refine RR [] .z (.i 2 (.bool true) .z) .a ?_
    refine RZ (NT (RE ?_))
    refine NE [] .z .a [] (.bool true) ?_
    exact ⟨rfl, rfl⟩
end Go.Proofs.YtpfhleghgkeemaaGreatDoor
namespace Go.Proofs.YtpfhleghgkeemaaGreatDoor
open Go Go.Sx
/-! Readers and writers that fit: what is written is read; what is read is what would be written; what is cut off ends too early. -/
theorem num_cut_vb : ∀ (k i f g m : Nat), i + k = 10 → 0 < k → (0 < i → 0 < g) → f + g * 128 ^ i < 18446744073709551616 → m < (vb g).length →
    numGo k i f ((vb g).take m) = (0, 0, 3)
  | 0, _, _, _, _, _, h, _, _, _ => absurd h (by decide)
  | k + 1, i, f, g, 0, _, _, _, _, _ => by rw [List.take_zero]; rfl
  | k + 1, i, f, g, m + 1, hk, _, hg, hF, hm => by
    have e9 : (128 : Nat) ^ 9 = 9223372036854775808 := by decide
    by_cases hs : g < 128
    · rw [vb_lt hs] at hm; simp at hm
    · rw [vb_ge hs] at hm ⊢
      have hc : (UInt8.ofNat (g % 128 + 128)).toNat = g % 128 + 128 := ofNat_toNat (by omega)
      have hi9 : i < 9 := by
        rcases Nat.lt_or_ge i 9 with h | h
        · exact h
        · have e : i = 9 := by omega
          subst e
          rw [e9] at hF
          omega
      rw [List.take_succ_cons]
      unfold numGo
      rw [hc]
      have e : f + (g % 128 + 128) % 128 * 128 ^ i + g / 128 * 128 ^ (i + 1) = f + g * 128 ^ i := by
        have h1 : (g % 128 + 128) % 128 = g % 128 := by omega
        have h2 : g / 128 * 128 ^ (i + 1) = (128 * (g / 128)) * 128 ^ i := by rw [Nat.pow_succ, Nat.mul_comm (128 ^ i), ← Nat.mul_assoc, Nat.mul_comm (g / 128)]
        rw [h1, h2, Nat.add_assoc, ← Nat.add_mul, Nat.mod_add_div]
      rw [if_neg (by omega), if_pos (by omega)]
      exact num_cut_vb k (i + 1) _ (g / 128) m (by omega) (by omega) (fun _ => by omega) (by rw [e]; exact hF) (by simpa using hm)
theorem num_cut {n : Int} (h1 : -9223372036854775808 ≤ n) (h2 : n ≤ 9223372036854775807) {m : Nat} (hm : m < (encI n).length) : num ((encI n).take m) = (0, 0, 3) := by
  have hF := foldN_lt h1 h2
  have hN := foldN_nn n
  exact num_cut_vb 10 0 0 (foldN n).toNat m rfl (by decide) (fun h => absurd h (by decide)) (by simp; omega) hm
structure Codec {α : Type} (f : List UInt8 → At2 → α × At2) (enc : α → List UInt8) (ok : α → Prop) : Prop where
  stick : ∀ s p, p.2 ≠ 0 → (f s p).2 = p
  goes : ∀ s, Goes s (f s)
  back : ∀ s a x rest, ok x → s.drop a = enc x ++ rest → f s (a, 0) = (x, a + (enc x).length, 0)
  form : ∀ s a, a ≤ s.length → (f s (a, 0)).2.2 = 0 → s.drop a = enc (f s (a, 0)).1 ++ s.drop (f s (a, 0)).2.1
  cut : ∀ s a x m, ok x → s.drop a = (enc x).take m → m < (enc x).length → (f s (a, 0)).2.2 = 3
theorem rd_nz {α : Type} (z : α) (A : Nat) (e : Int) (x : α × Int × Int) (h : e ≠ 0) : rd z A e x = (z, A, e) := by unfold rd; rw [if_pos h]
theorem rd_ok {α : Type} (z : α) (A : Nat) (x : α × Int × Int) (h : x.2.2 = 0) : rd z A 0 x = (x.1, A + x.2.1.toNat, 0) := by
  unfold rd; rw [if_neg (fun h => h rfl), if_neg (fun hn => hn h)]
theorem rd_bad {α : Type} (z : α) (A : Nat) (x : α × Int × Int) (h : x.2.2 ≠ 0) : rd z A 0 x = (z, A, x.2.2) := by
  unfold rd; rw [if_neg (fun h => h rfl), if_pos h]
theorem take_form {s t : List UInt8} {a : Nat} (h : (s.drop a).take t.length = t) : s.drop a = t ++ s.drop (a + t.length) := by
  have h2 : (s.drop a).drop t.length = s.drop (a + t.length) := List.drop_drop
  conv => lhs; rw [← List.take_append_drop t.length (s.drop a)]
  rw [h, h2]
theorem codec_rI : Codec rI encI i64r where
  stick := fun s p h => by unfold rI; rw [rd_nz _ _ _ _ h]
  goes := goes_rI
  back := fun s a x rest hx h => by
    show rd 0 a 0 (num (s.drop a)) = _
    rw [h, num_encI hx.1 hx.2, rd_ok _ _ _ rfl, Int.toNat_natCast]
  form := fun s a ha h => by
    have h' : (rd 0 a 0 (num (s.drop a))).2.2 = 0 := h
    show s.drop a = encI (rd 0 a 0 (num (s.drop a))).1 ++ s.drop (rd 0 a 0 (num (s.drop a))).2.1
    obtain ⟨n, u, e, hn⟩ : ∃ n u e, num (s.drop a) = (n, u, e) := ⟨_, _, _, rfl⟩
    rw [hn] at h' ⊢
    by_cases he : e ≠ 0
    · rw [rd_bad _ _ _ he] at h'; exact absurd h' he
    · have he := Classical.not_not.1 he
      subst he
      obtain ⟨f1, f2, f3⟩ := num_form _ _ _ hn
      rw [rd_ok _ _ _ rfl]
      dsimp only
      rw [f1, Int.toNat_natCast]
      exact take_form f2
  cut := fun s a x m hx h hm => by
    show (rd 0 a 0 (num (s.drop a))).2.2 = 3
    rw [h, num_cut hx.1 hx.2 hm, rd_bad _ _ _ (by decide)]
theorem cnt_cut {n : Int} (h1 : -9223372036854775808 ≤ n) (h2 : n ≤ 9223372036854775807) (most : Int) {m : Nat} (hm : m < (encI n).length) : cnt ((encI n).take m) most = (0, 0, 3) := by
  unfold cnt
  rw [num_cut h1 h2 hm]
  rfl
def okN (most n : Int) : Prop := 0 ≤ n ∧ n ≤ most ∧ n ≤ 9223372036854775807
theorem codec_rC (most : Int) : Codec (fun s => rC s most) encI (okN most) where
  stick := fun s p h => by unfold rC; rw [rd_nz _ _ _ _ h]
  goes := fun s => goes_rC s most
  back := fun s a x rest hx h => by
    show rd 0 a 0 (cnt (s.drop a) most) = _
    obtain ⟨h1, h2, h3⟩ := hx
    rw [h, cnt_encI h1 h3, if_neg (by omega), rd_ok _ _ _ rfl, Int.toNat_natCast]
  form := fun s a ha h => by
    have h' : (rd 0 a 0 (cnt (s.drop a) most)).2.2 = 0 := h
    show s.drop a = encI (rd 0 a 0 (cnt (s.drop a) most)).1 ++ s.drop (rd 0 a 0 (cnt (s.drop a) most)).2.1
    obtain ⟨n, u, e, hn⟩ : ∃ n u e, cnt (s.drop a) most = (n, u, e) := ⟨_, _, _, rfl⟩
    rw [hn] at h' ⊢
    by_cases he : e ≠ 0
    · rw [rd_bad _ _ _ he] at h'; exact absurd h' he
    · have he := Classical.not_not.1 he
      subst he
      obtain ⟨f1, f2, f3⟩ := num_form _ _ _ (cnt_num _ _ _ _ hn).1
      rw [rd_ok _ _ _ rfl]
      dsimp only
      rw [f1, Int.toNat_natCast]
      exact take_form f2
  cut := fun s a x m hx h hm => by
    show (rd 0 a 0 (cnt (s.drop a) most)).2.2 = 3
    obtain ⟨h1, h2, h3⟩ := hx
    rw [h, cnt_cut (by omega) h3 _ hm, rd_bad _ _ _ (by decide)]
def okT (most : Int) (t : List UInt8) : Prop := (t.length : Int) ≤ most ∧ (t.length : Int) ≤ 9223372036854775807
theorem codec_rT (most : Int) : Codec (fun s => rT s most) encT (okT most) where
  stick := fun s p h => by unfold rT; rw [rd_nz _ _ _ _ h]
  goes := fun s => goes_rT s most
  back := fun s a x rest hx h => by
    show rd [] a 0 (txW (s.drop a) most) = _
    obtain ⟨h1, h2⟩ := hx
    rw [h, txt_encT x h2 most (by omega), rd_ok _ _ _ rfl, Int.toNat_natCast]
  form := fun s a ha h => by
    have h' : (rd [] a 0 (txW (s.drop a) most)).2.2 = 0 := h
    show s.drop a = encT (rd [] a 0 (txW (s.drop a) most)).1 ++ s.drop (rd [] a 0 (txW (s.drop a) most)).2.1
    obtain ⟨n, u, e, hn⟩ : ∃ n u e, txW (s.drop a) most = (n, u, e) := ⟨_, _, _, rfl⟩
    rw [hn] at h' ⊢
    by_cases he : e ≠ 0
    · rw [rd_bad _ _ _ he] at h'; exact absurd h' he
    · have he := Classical.not_not.1 he
      subst he
      obtain ⟨f1, f2, f3⟩ := txt_form _ _ _ _ hn
      rw [rd_ok _ _ _ rfl]
      dsimp only
      rw [f1, Int.toNat_natCast]
      exact take_form f2
  cut := fun s a x m hx h hm => by
    show (rd [] a 0 (txW (s.drop a) most)).2.2 = 3
    obtain ⟨h1, h2⟩ := hx
    have hE : encT x = encI x.length ++ x := rfl
    have hEl : (encT x).length = (encI x.length).length + x.length := by rw [hE, List.length_append]
    rw [h]
    by_cases hmi : m < (encI x.length).length
    · have hc := cnt_cut (n := x.length) (by omega) h2 most hmi
      have e : (encT x).take m = (encI x.length).take m := by rw [hE, List.take_append_of_le_length (by omega)]
      have ht : txW ((encT x).take m) most = ([], 0, 3) := by
        unfold txW
        rw [e, hc]
        rfl
      rw [ht, rd_bad _ _ _ (by decide)]
    · have e : (encT x).take m = encI x.length ++ x.take (m - (encI x.length).length) := by
        rw [hE, List.take_append, List.take_of_length_le (by omega)]
      have hc := cnt_encI (most := most) (n := x.length) (by omega) h2 (x.take (m - (encI x.length).length))
      rw [if_neg (by omega)] at hc
      have ht : txW ((encT x).take m) most = ([], 0, 3) := by
        unfold txW
        rw [e, hc]
        dsimp only
        rw [if_neg (fun h => h rfl), if_pos (by rw [List.length_append, List.length_take]; omega)]
      rw [ht, rd_bad _ _ _ (by decide)]
def sq {α β : Type} (f : List UInt8 → At2 → α × At2) (g : List UInt8 → At2 → β × At2) : List UInt8 → At2 → (α × β) × At2 :=
  fun s p => (((f s p).1, (g s (f s p).2).1), (g s (f s p).2).2)
theorem pair_eta {p : At2} {a : Nat} {e : Int} (h1 : p.1 = a) (h2 : p.2 = e) : p = (a, e) := Prod.ext h1 h2
theorem Codec.sq {α β : Type} {f : List UInt8 → At2 → α × At2} {ea : α → List UInt8} {oka : α → Prop} {g : List UInt8 → At2 → β × At2} {eb : β → List UInt8} {okb : β → Prop}
    (F : Codec f ea oka) (G : Codec g eb okb) : Codec (sq f g) (fun x => ea x.1 ++ eb x.2) (fun x => oka x.1 ∧ okb x.2) where
  stick := fun s p h => by
    show (g s (f s p).2).2 = p
    rw [F.stick s p h, G.stick s p h]
  goes := fun s p hp => goes_then (F.goes s p hp) (fun h => goes_weak (G.goes s _ h))
  back := fun s a x rest hx h => by
    have h1 := F.back s a x.1 (eb x.2 ++ rest) hx.1 (by rw [h, List.append_assoc])
    have h2 := G.back s (a + (ea x.1).length) x.2 rest hx.2 (by
      rw [← List.drop_drop, h, List.append_assoc, List.drop_left])
    show (((f s (a, 0)).1, (g s (f s (a, 0)).2).1), (g s (f s (a, 0)).2).2) = _
    rw [h1]
    dsimp only
    rw [h2, List.length_append, Nat.add_assoc]
  form := fun s a ha h => by
    have h' : (g s (f s (a, 0)).2).2.2 = 0 := h
    have he : (f s (a, 0)).2.2 = 0 := Classical.byContradiction fun hn => by
      rw [G.stick s _ hn] at h'; exact hn h'
    have hg := F.goes s (a, 0) ha
    have h1 := F.form s a ha he
    have hp : (f s (a, 0)).2 = ((f s (a, 0)).2.1, 0) := pair_eta rfl he
    rw [hp] at h'
    have h2 := G.form s _ hg.2.1 h'
    show s.drop a = (ea (f s (a, 0)).1 ++ eb (g s (f s (a, 0)).2).1) ++ s.drop (g s (f s (a, 0)).2).2.1
    rw [hp]
    rw [h1, h2, List.append_assoc]
  cut := fun s a x m hx h hm => by
    show (g s (f s (a, 0)).2).2.2 = 3
    rw [List.length_append] at hm
    by_cases hmi : m < (ea x.1).length
    · have h3 := F.cut s a x.1 m hx.1 (by rw [h, List.take_append_of_le_length (by omega)]) hmi
      rw [G.stick s _ (by rw [h3]; decide), h3]
    · have e : s.drop a = ea x.1 ++ (eb x.2).take (m - (ea x.1).length) := by
        rw [h, List.take_append, List.take_of_length_le (by omega)]
      rw [F.back s a x.1 _ hx.1 e]
      dsimp only
      exact G.cut s _ x.2 (m - (ea x.1).length) hx.2 (by rw [← List.drop_drop, e, List.drop_left]) (by omega)
theorem Codec.map {α β : Type} {f : List UInt8 → At2 → α × At2} {ea : α → List UInt8} {oka : α → Prop} (F : Codec f ea oka) (to : α → β) (fr : β → α) (h1 : ∀ x, fr (to x) = x) (h2 : ∀ y, to (fr y) = y)
    {f' : List UInt8 → At2 → β × At2} (hf : ∀ s p, f' s p = (to (f s p).1, (f s p).2)) {eb : β → List UInt8} (he : ∀ y, eb y = ea (fr y)) {okb : β → Prop} (ho : ∀ y, okb y → oka (fr y)) : Codec f' eb okb where
  stick := fun s p h => by rw [hf]; exact F.stick s p h
  goes := fun s p hp => by rw [hf]; exact F.goes s p hp
  back := fun s a y rest hy h => by
    rw [hf, F.back s a (fr y) rest (ho _ hy) (by rw [h, he]), h2, he]
  form := fun s a ha h => by
    rw [hf] at h ⊢
    rw [he, h1]
    exact F.form s a ha h
  cut := fun s a y m hy h hm => by
    rw [hf]
    rw [he] at h hm
    exact F.cut s a (fr y) m (ho _ hy) h hm
def encR {α : Type} (enc : α → List UInt8) (l : List α) : List UInt8 := encI l.length ++ l.flatMap enc
def okR {α : Type} (ok : α → Prop) (l : List α) : Prop := l.length ≤ 1048576 ∧ ∀ x ∈ l, ok x
section
variable {α : Type} {f : List UInt8 → At2 → α × At2} {enc : α → List UInt8} {ok : α → Prop}
theorem many_back (F : Codec f enc ok) (s : List UInt8) : ∀ (l : List α) (a : Nat) (rest : List UInt8), (∀ x ∈ l, ok x) → s.drop a = l.flatMap enc ++ rest → rMany (f s) l.length (a, 0) = (l, a + (l.flatMap enc).length, 0)
  | [], a, rest, _, _ => rfl
  | x :: l, a, rest, ho, h => by
    rw [List.flatMap_cons, List.append_assoc] at h
    have h1 := F.back s a x _ (ho x (List.mem_cons_self ..)) h
    have h2 := many_back F s l (a + (enc x).length) rest (fun y hy => ho y (List.mem_cons_of_mem _ hy)) (by rw [← List.drop_drop, h, List.drop_left])
    rw [List.length_cons, rMany_succ _ _ _ rfl, h1]
    dsimp only
    rw [h2, List.flatMap_cons, List.length_append, Nat.add_assoc]
theorem many_form (F : Codec f enc ok) (s : List UInt8) : ∀ (k a : Nat), a ≤ s.length → (rMany (f s) k (a, 0)).2.2 = 0 →
    (rMany (f s) k (a, 0)).1.length = k ∧ s.drop a = (rMany (f s) k (a, 0)).1.flatMap enc ++ s.drop (rMany (f s) k (a, 0)).2.1
  | 0, a, _, _ => ⟨rfl, rfl⟩
  | k + 1, a, ha, h => by
    rw [rMany_succ _ _ _ rfl] at h ⊢
    dsimp only at h ⊢
    have he : (f s (a, 0)).2.2 = 0 := Classical.byContradiction fun hn => by
      rw [rMany_nil _ _ _ hn] at h; exact hn h
    have hp : (f s (a, 0)).2 = ((f s (a, 0)).2.1, 0) := pair_eta rfl he
    have h1 := F.form s a ha he
    rw [hp] at h
    obtain ⟨h2, h3⟩ := many_form F s k _ (F.goes s (a, 0) ha).2.1 h
    rw [hp]
    refine ⟨by rw [List.length_cons, h2], ?_⟩
    rw [List.flatMap_cons, List.append_assoc, ← h3]
    exact h1
theorem many_cut (F : Codec f enc ok) (s : List UInt8) : ∀ (l : List α) (a m : Nat), (∀ x ∈ l, ok x) → s.drop a = (l.flatMap enc).take m → m < (l.flatMap enc).length → (rMany (f s) l.length (a, 0)).2.2 = 3
  | [], a, m, _, _, hm => by simp at hm
  | x :: l, a, m, ho, h, hm => by
    rw [List.flatMap_cons] at h hm
    rw [List.length_append] at hm
    rw [List.length_cons, rMany_succ _ _ _ rfl]
    dsimp only
    by_cases hmi : m < (enc x).length
    · have h3 := F.cut s a x m (ho x (List.mem_cons_self ..)) (by rw [h, List.take_append_of_le_length (by omega)]) hmi
      rw [rMany_nil _ _ _ (by rw [h3]; decide), h3]
    · have e : s.drop a = enc x ++ (l.flatMap enc).take (m - (enc x).length) := by
        rw [h, List.take_append, List.take_of_length_le (by omega)]
      rw [F.back s a x _ (ho x (List.mem_cons_self ..)) e]
      dsimp only
      exact many_cut F s l _ (m - (enc x).length) (fun y hy => ho y (List.mem_cons_of_mem _ hy)) (by rw [← List.drop_drop, e, List.drop_left]) (by omega)
theorem Codec.rows (F : Codec f enc ok) : Codec (fun s => rRows s (f s)) (encR enc) (okR ok) where
  stick := fun s p h => by
    show (rMany (f s) (rC s 1048576 p).1.toNat (rC s 1048576 p).2).2 = p
    rw [(codec_rC 1048576).stick s p h, rMany_nil _ _ _ h]
  goes := fun s => goes_rows (F.goes s)
  back := fun s a l rest hl h => by
    obtain ⟨h1, h2⟩ := hl
    unfold encR at h ⊢
    rw [List.append_assoc] at h
    have hc := (codec_rC 1048576).back s a (l.length : Int) _ ⟨by omega, by omega, by omega⟩ h
    have hm := many_back F s l (a + (encI (l.length : Int)).length) rest h2 (by rw [← List.drop_drop, h, List.drop_left])
    show rMany (f s) (rC s 1048576 (a, 0)).1.toNat (rC s 1048576 (a, 0)).2 = _
    rw [show rC s 1048576 (a, 0) = _ from hc]
    dsimp only
    rw [Int.toNat_natCast, hm, List.length_append, Nat.add_assoc]
  form := fun s a ha h => by
    have h' : (rMany (f s) (rC s 1048576 (a, 0)).1.toNat (rC s 1048576 (a, 0)).2).2.2 = 0 := h
    have he : (rC s 1048576 (a, 0)).2.2 = 0 := Classical.byContradiction fun hn => by
      rw [rMany_nil _ _ _ hn] at h'; exact hn h'
    have hp : (rC s 1048576 (a, 0)).2 = ((rC s 1048576 (a, 0)).2.1, 0) := pair_eta rfl he
    have h1 := (codec_rC 1048576).form s a ha he
    have hr := rC_rng s (a, 0)
    rw [hp] at h'
    obtain ⟨h2, h3⟩ := many_form F s _ _ ((codec_rC 1048576).goes s (a, 0) ha).2.1 h'
    show s.drop a = encR enc (rMany (f s) (rC s 1048576 (a, 0)).1.toNat (rC s 1048576 (a, 0)).2).1 ++ s.drop (rMany (f s) (rC s 1048576 (a, 0)).1.toNat (rC s 1048576 (a, 0)).2).2.1
    rw [hp]
    unfold encR
    rw [List.append_assoc, ← h3, h2, Int.toNat_of_nonneg hr.1]
    exact h1
  cut := fun s a l m hl h hm => by
    obtain ⟨h1, h2⟩ := hl
    unfold encR at h hm
    rw [List.length_append] at hm
    show (rMany (f s) (rC s 1048576 (a, 0)).1.toNat (rC s 1048576 (a, 0)).2).2.2 = 3
    by_cases hmi : m < (encI (l.length : Int)).length
    · have h3 := (codec_rC 1048576).cut s a (l.length : Int) m ⟨by omega, by omega, by omega⟩ (by rw [h, List.take_append_of_le_length (by omega)]) hmi
      rw [rMany_nil _ _ _ (by rw [show (rC s 1048576 (a, 0)).2.2 = 3 from h3]; decide)]
      exact h3
    · have e : s.drop a = encI (l.length : Int) ++ (l.flatMap enc).take (m - (encI (l.length : Int)).length) := by
        rw [h, List.take_append, List.take_of_length_le (by omega)]
      have hc := (codec_rC 1048576).back s a (l.length : Int) _ ⟨by omega, by omega, by omega⟩ e
      rw [show rC s 1048576 (a, 0) = _ from hc]
      dsimp only
      rw [Int.toNat_natCast]
      exact many_cut F s l _ (m - (encI (l.length : Int)).length) h2 (by rw [← List.drop_drop, e, List.drop_left]) (by omega)
end
end Go.Proofs.YtpfhleghgkeemaaGreatDoor
namespace Go.Proofs.YtpfhleghgkeemaaGreatDoor
open Go Go.Sx
/-! What is told is read as it was; what is read is told as just these bytes; what is cut off ends too early. -/
def nV (v : V) : Prop := i64r v.k ∧ i64r v.n ∧ v.s.length ≤ 255 ∧ ((v.k = 1 ∨ v.k = 2 ∨ v.k = 4) → v.s = []) ∧ (v.k = 3 → v.n = 0) ∧ (¬ (v.k = 1 ∨ v.k = 2 ∨ v.k = 4) → v.k ≠ 3 → v.n = 0 ∧ v.s = [])
theorem rV_stick (s : List UInt8) (p : At2) (h : p.2 ≠ 0) : (rV s p).2 = p := by
  have h1 := codec_rI.stick s p h
  unfold rV
  split
  · dsimp only; rw [h1, codec_rI.stick s p h]
  · split
    · dsimp only; rw [h1]; exact (codec_rT 255).stick s p h
    · dsimp only; exact h1
theorem rV_case (s : List UInt8) (p : At2) (h : (rI s p).2.2 ≠ 0) : (rV s p).2 = (rI s p).2 := by
  unfold rV
  split
  · exact codec_rI.stick s _ h
  · split
    · exact (codec_rT 255).stick s _ h
    · rfl
theorem codec_rV : Codec rV encV nV where
  stick := rV_stick
  goes := goes_rV
  back := fun s a v rest hv h => by
    obtain ⟨k, n, t⟩ := v
    obtain ⟨h1, h2, h3, h4, h5, h6⟩ := hv
    dsimp only at h1 h2 h3 h4 h5 h6
    unfold encV at h ⊢
    dsimp only at h ⊢
    by_cases k1 : k = 1 ∨ k = 2 ∨ k = 4
    · rw [if_pos k1] at h ⊢
      rw [List.append_assoc] at h
      have a1 := codec_rI.back s a k _ h1 h
      have a2 := codec_rI.back s (a + (encI k).length) n rest h2 (by rw [← List.drop_drop, h, List.drop_left])
      unfold rV
      rw [a1]
      dsimp only
      rw [if_pos k1, a2]
      dsimp only
      rw [h4 k1, List.length_append, Nat.add_assoc]
    · rw [if_neg k1] at h ⊢
      by_cases k3 : k = 3
      · rw [if_pos k3] at h ⊢
        rw [List.append_assoc] at h
        have a1 := codec_rI.back s a k _ h1 h
        have a2 := (codec_rT 255).back s (a + (encI k).length) t rest ⟨by omega, by omega⟩ (by rw [← List.drop_drop, h, List.drop_left])
        unfold rV
        rw [a1]
        dsimp only
        rw [if_neg k1, if_pos k3, show rT s 255 (a + (encI k).length, 0) = _ from a2]
        dsimp only
        rw [h5 k3, List.length_append, Nat.add_assoc]
      · rw [if_neg k3, List.append_nil] at h ⊢
        have a1 := codec_rI.back s a k _ h1 h
        unfold rV
        rw [a1]
        dsimp only
        rw [if_neg k1, if_neg k3, (h6 k1 k3).1, (h6 k1 k3).2]
  form := fun s a ha h => by
    have he : (rI s (a, 0)).2.2 = 0 := Classical.byContradiction fun hn => by
      rw [rV_case s _ hn] at h; exact hn h
    have hg := codec_rI.goes s (a, 0) ha
    have h1 := codec_rI.form s a ha he
    have hp : (rI s (a, 0)).2 = ((rI s (a, 0)).2.1, 0) := pair_eta rfl he
    unfold rV at h ⊢
    by_cases k1 : (rI s (a, 0)).1 = 1 ∨ (rI s (a, 0)).1 = 2 ∨ (rI s (a, 0)).1 = 4
    · rw [if_pos k1] at h ⊢
      dsimp only at h ⊢
      rw [hp] at h ⊢
      have h2 := codec_rI.form s _ hg.2.1 h
      unfold encV
      dsimp only
      rw [if_pos k1, List.append_assoc, ← h2]
      exact h1
    · rw [if_neg k1] at h ⊢
      by_cases k3 : (rI s (a, 0)).1 = 3
      · rw [if_pos k3] at h ⊢
        dsimp only at h ⊢
        rw [hp] at h ⊢
        have h2 := (codec_rT 255).form s _ hg.2.1 h
        unfold encV
        dsimp only
        rw [if_neg k1, if_pos k3, List.append_assoc, ← h2]
        exact h1
      · rw [if_neg k3] at h ⊢
        unfold encV
        dsimp only
        rw [if_neg k1, if_neg k3, List.append_nil]
        exact h1
  cut := fun s a v m hv h hm => by
    obtain ⟨k, n, t⟩ := v
    obtain ⟨h1, h2, h3, h4, h5, h6⟩ := hv
    dsimp only at h1 h2 h3 h4 h5 h6
    unfold encV at h hm
    dsimp only at h hm
    rw [List.length_append] at hm
    by_cases hmi : m < (encI k).length
    · have e3 := codec_rI.cut s a k m h1 (by rw [h, List.take_append_of_le_length (by omega)]) hmi
      rw [rV_case s _ (by rw [e3]; decide), e3]
    · have e : s.drop a = encI k ++ (if k = 1 ∨ k = 2 ∨ k = 4 then encI n else if k = 3 then encT t else []).take (m - (encI k).length) := by
        rw [h, List.take_append, List.take_of_length_le (l := encI k) (by omega)]
      have a1 := codec_rI.back s a k _ h1 e
      have e2 := congrArg (List.drop (encI k).length) e
      rw [List.drop_drop, List.drop_left] at e2
      unfold rV
      rw [a1]
      dsimp only
      by_cases k1 : k = 1 ∨ k = 2 ∨ k = 4
      · rw [if_pos k1] at hm e2
        rw [if_pos k1]
        exact codec_rI.cut s _ n (m - (encI k).length) h2 e2 (by omega)
      · rw [if_neg k1] at hm e2
        rw [if_neg k1]
        by_cases k3 : k = 3
        · rw [if_pos k3] at hm e2
          rw [if_pos k3]
          exact (codec_rT 255).cut s _ t (m - (encI k).length) ⟨by omega, by omega⟩ e2 (by omega)
        · rw [if_neg k3] at hm
          simp only [List.length_nil] at hm
          omega
theorem codec_rVs : Codec rVs encVs (okR nV) := codec_rV.rows
def nO (o : O) : Prop := okT 255 o.1 ∧ okR nV o.2
theorem codec_rO : Codec rO encO nO := (codec_rT 255).sq codec_rVs
def nC (x : C5) : Prop := i64r x.1 ∧ i64r x.2.1 ∧ i64r x.2.2.1 ∧ okR nV x.2.2.2.1 ∧ okR nV x.2.2.2.2
theorem codec_rCl : Codec rCl encC nC :=
  (codec_rI.sq (codec_rI.sq (codec_rI.sq (codec_rVs.sq codec_rVs)))).map (fun x => x) (fun x => x) (fun _ => rfl) (fun _ => rfl) (fun _ _ => rfl) (fun y => by unfold encC; simp only [List.append_assoc]) (fun _ h => h)
def nS (s : SP) : Prop := i64r s.pos ∧ i64r s.st ∧ i64r s.fa ∧ i64r s.rd ∧ okT 4096 s.out ∧ okR nC s.C ∧ okR nO s.L
theorem codec_rS : Codec rS encS nS :=
  (codec_rI.sq (codec_rI.sq (codec_rI.sq (codec_rI.sq ((codec_rT 4096).sq (codec_rCl.rows.sq codec_rO.rows)))))).map
    (fun x => (⟨x.1, x.2.1, x.2.2.1, x.2.2.2.2.2.1, x.2.2.2.2.2.2, x.2.2.2.2.1, x.2.2.2.1⟩ : SP)) (fun s => (s.pos, s.st, s.fa, s.rd, s.out, s.C, s.L)) (fun _ => rfl) (fun _ => rfl) (fun _ _ => rfl)
    (fun y => by unfold encS encCs encOs encR; simp only [List.flatMap_cons, List.flatMap_nil, List.append_assoc, List.append_nil, List.nil_append]) (fun _ h => h)
theorem right_nV {v : V} {m : Int} (hv : v.ok) (h : rightB v m = true) : nV v := by
  obtain ⟨h1, h2, h3⟩ := hv
  unfold rightB at h
  unfold nV i64r
  by_cases k0 : v.k = 0
  · rw [if_pos k0] at h
    simp only [Bool.and_eq_true, decide_eq_true_eq] at h
    exact ⟨h1, h2, by rw [h.2]; exact Nat.zero_le _, fun _ => h.2, fun _ => h.1, fun _ _ => h⟩
  rw [if_neg k0] at h
  by_cases k1 : v.k = 1
  · rw [if_pos k1] at h
    have h := of_decide_eq_true h
    exact ⟨h1, h2, by rw [h]; exact Nat.zero_le _, fun _ => h, fun h3 => by omega, fun hn => absurd (.inl k1) hn⟩
  rw [if_neg k1] at h
  by_cases k2 : v.k = 2
  · rw [if_pos k2] at h
    simp only [Bool.and_eq_true, decide_eq_true_eq] at h
    exact ⟨h1, h2, by rw [h.1]; exact Nat.zero_le _, fun _ => h.1, fun h3 => by omega, fun hn => absurd (.inr (.inl k2)) hn⟩
  rw [if_neg k2] at h
  by_cases k3 : v.k = 3
  · rw [if_pos k3] at h
    simp only [Bool.and_eq_true, decide_eq_true_eq, plainB] at h
    exact ⟨h1, h2, h.2.1, fun hn => by omega, fun _ => h.1, fun _ hn => absurd k3 hn⟩
  rw [if_neg k3] at h
  by_cases k4 : v.k = 4
  · rw [if_pos k4] at h
    simp only [Bool.and_eq_true, decide_eq_true_eq] at h
    exact ⟨h1, h2, by rw [h.1.1]; exact Nat.zero_le _, fun _ => h.1.1, fun h3 => absurd h3 k3, fun hn => absurd (.inr (.inr k4)) hn⟩
  rw [if_neg k4] at h
  cases h
theorem nameB_len {s : List UInt8} (h : nameB s = true) : s.length ≤ 20 := by
  unfold nameB at h
  cases s with
  | nil => cases h
  | cons c s =>
    dsimp only at h
    simp only [Bool.and_eq_true, decide_eq_true_eq] at h
    exact h.1.1.1
theorem may_ok {s : Sv} (hs : s.ok) (hm : mayB s.p = true) : nS s.p := by
  obtain ⟨hp, hst, hfa, hrd, hc1, hc2, hh1, hh2, hh3, ho, hu⟩ := hs
  unfold mayB at hm
  simp only [Bool.and_eq_true] at hm
  obtain ⟨⟨h1, h2⟩, h3⟩ := hm
  obtain ⟨q1, q2, q3, q4, q5, q6, q7, q8⟩ := (headB_iff s.p).1 h1
  refine ⟨hp, hst, hfa, hrd, ⟨by omega, by omega⟩, ⟨by omega, fun x hx => ?_⟩, ⟨?_, fun o ho => ?_⟩⟩
  · have h4 := List.all_eq_true.1 h3 x hx
    unfold callB at h4
    simp only [Bool.and_eq_true, decide_eq_true_eq] at h4
    obtain ⟨⟨⟨⟨⟨⟨r1, r2⟩, r3⟩, r4⟩, r5⟩, r6⟩, r7⟩ := h4
    obtain ⟨y, hy, rfl⟩ := List.mem_map.1 hx
    obtain ⟨y1, y2, y3, y4, y5, y6, y7⟩ := hc2 y hy
    exact ⟨y1, y2, y3, ⟨y4, fun v hv => right_nV (y6 v hv) (List.all_eq_true.1 r6 v hv)⟩, ⟨y5, fun v hv => right_nV (y7 v hv) (List.all_eq_true.1 r7 v hv)⟩⟩
  · show (s.hl.map Ob.o).length ≤ _
    rw [List.length_map]; exact hh1
  · unfold heapOk at h2
    simp only [Bool.and_eq_true] at h2
    have h4 := List.all_eq_true.1 h2.1 o ho
    obtain ⟨y, hy, rfl⟩ := List.mem_map.1 ho
    unfold objB at h4
    simp only [Bool.and_eq_true, Bool.or_eq_true, decide_eq_true_eq] at h4
    have hcl := (hh2 y hy).2.2.1
    refine ⟨?_, ⟨hcl, fun v hv => ?_⟩⟩
    · rcases h4.1 with h | h
      · rw [h]; exact ⟨by decide, by decide⟩
      · have := nameB_len h
        exact ⟨by omega, by omega⟩
    · have h5 := List.all_eq_true.1 h4.2 v hv
      unfold cellB at h5
      simp only [Bool.and_eq_true] at h5
      exact right_nV (hh3 y hy v hv) h5.2
theorem end_all (s : List UInt8) : endE s (s.length : Nat) 0 = 0 := by
  unfold endE
  rw [if_neg (fun h => h rfl), if_neg (by omega)]
theorem snap_back {p : SP} (hn : nS p) (hm : mayB p = true) : loadE (encS p) = 0 ∧ loadS (encS p) = p := by
  have h := codec_rS.back (encS p) 0 p [] hn (by rw [List.drop_zero, List.append_nil])
  rw [Nat.zero_add] at h
  have hE : loadE (encS p) = 0 := by
    unfold loadE
    rw [h]
    dsimp only
    rw [end_all, if_neg (fun h => h rfl), hm]
    rfl
  refine ⟨hE, ?_⟩
  unfold loadS
  rw [if_pos hE, h]
theorem endE_end {s : List UInt8} {a : Nat} {e : Int} (h : endE s a e = 0) : e = 0 ∧ s.length ≤ a := by
  unfold endE at h
  split at h
  · rename_i h1; exact absurd h h1
  · rename_i h1
    split at h
    · omega
    · exact ⟨Classical.not_not.1 h1, by omega⟩
theorem snap_form {bs : List UInt8} (h : loadE bs = 0) : encS (loadS bs) = bs ∧ mayB (loadS bs) = true := by
  have hS : loadS bs = (rS bs (0, 0)).1 := by unfold loadS; rw [if_pos h]
  rw [hS]
  unfold loadE at h
  split at h
  · rename_i h1; exact absurd h h1
  · rename_i h1
    obtain ⟨e0, ha⟩ := endE_end (Classical.not_not.1 h1)
    split at h
    · rename_i hm
      have hf := codec_rS.form bs 0 (Nat.zero_le _) e0
      rw [List.drop_zero, List.drop_eq_nil_of_le ha, List.append_nil] at hf
      exact ⟨hf.symm, hm⟩
    · omega
theorem snap_cut {p : SP} (hn : nS p) {m : Nat} (hm : m < (encS p).length) : loadE ((encS p).take m) = 3 := by
  have h := codec_rS.cut ((encS p).take m) 0 p m hn (List.drop_zero) hm
  have h1 : endE ((encS p).take m) (rS ((encS p).take m) (0, 0)).2.1 (rS ((encS p).take m) (0, 0)).2.2 = 3 := by
    rw [h]; rfl
  unfold loadE
  rw [h1, if_pos (by decide)]
theorem snap_more {p : SP} (hn : nS p) (c : UInt8) : loadE (encS p ++ [c]) = 5 := by
  have h := codec_rS.back (encS p ++ [c]) 0 p [c] hn (List.drop_zero)
  rw [Nat.zero_add] at h
  have h1 : endE (encS p ++ [c]) (encS p).length 0 = 5 := by
    unfold endE
    rw [if_neg (fun h => h rfl), if_pos (by rw [List.length_append, List.length_singleton]; omega)]
  unfold loadE
  rw [h]
  dsimp only
  rw [h1, if_pos (by decide)]
theorem snap_pos (p : SP) (hn : nS p) : 0 < (encS p).length := by
  have h := codec_rS.back (encS p) 0 p [] hn (by rw [List.drop_zero, List.append_nil])
  have hg := codec_rS.goes (encS p) (0, 0) (Nat.zero_le _)
  rw [h] at hg
  have := hg.2.2.2 rfl rfl
  dsimp only at this
  omega
theorem loadS_bad {bs : List UInt8} (h : loadE bs ≠ 0) : loadS bs = noS := by unfold loadS; rw [if_neg h]
theorem enc_inj {p q : SP} (hp : nS p) (hq : nS q) (h : encS p = encS q) : p = q := by
  have h1 := codec_rS.back (encS p) 0 p [] hp (by rw [List.drop_zero, List.append_nil])
  have h2 := codec_rS.back (encS q) 0 q [] hq (by rw [List.drop_zero, List.append_nil])
  rw [h, h2] at h1
  exact (Prod.mk.inj h1).1.symm
end Go.Proofs.YtpfhleghgkeemaaGreatDoor
