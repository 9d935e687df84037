import Derived.Test.YtpfhleghgkeemaaGreatDoorSp5
set_option linter.unusedVariables false
set_option linter.unusedSimpArgs false
namespace Go.Proofs.YtpfhleghgkeemaaGreatDoor
open Go Go.Sx
theorem zero_same (s : Sv) (hs : s.ok) (h : s.p = noS) : Does Tryz.prog 46 [.agg #[.int .i64 s.pos, .int .i64 s.st, .int .i64 s.fa, .slice s.ca s.cl.length s.cc, .slice s.ha s.hl.length s.hc, .string (mkS s.out), .int .i64 s.rd], .agg #[.int .i64 0, .int .i64 0, .int .i64 0, .slice none 0 0, .slice none 0 0, .string ⟨#[]⟩, .int .i64 0]]
    [ro s.ca (s.cl.flatMap clC), gCl s.cl, ro s.ha (s.hl.flatMap objC), gBag s.hl, ro none [], bag [], ro none [], bag []] (fun v hp' => v = .bool true ∧ hp' = []) := by
  have h1 := sameState_spec s noSv hs noSv_ok
  rw [show noSv.p = noS from rfl, h, decide_eq_true rfl] at h1
  exact h1
set_option maxHeartbeats 8000000 in
theorem SnapBack_spec (s : Sv) (hs : s.ok) (hB : (encS s.p).length ≤ 134217728) (a : Option Addr) (c : Nat) (bs : List UInt8) (ha : a = none → bs = []) (hl : bs.length ≤ 1048576) :
    Does Tryz.prog 12 [.agg (svC s).toArray, .slice a bs.length c] [ro s.ca (s.cl.flatMap clC), gCl s.cl, ro s.ha (s.hl.flatMap objC), gBag s.hl, ro a (u8s bs), gWords, gPow] (fun v hp' => v = .bool true ∧ hp' = []) := by
  have hli := light_spec s hs
  have h1 := snapBytes_spec s hs (by omega)
  have h3 := snapCheck_spec s hs
  have hlv := slives_spec
  have hLb := snapLoad_spec a c bs ha (by omega)
  unfold svC at hli h1 h3 ⊢
  refine fn_enter Tryz.func12 rfl 85 rfl fun w0 h0 => ?_
  refine SQ (RG ?_)
  refine RP [] (.d .a) 2 (.d (.k .a)) .a 75 [.int .i64 s.pos, .int .i64 s.st, .int .i64 s.fa, .slice s.ca s.cl.length s.cc, .slice s.ha s.hl.length s.hc, .string (mkS s.out), .int .i64 s.rd] fun g1 => ?_
  refine RR [] .z (.i 4 (.bool false) .a) .a ?_
  refine RZ (NT (SQ (SQ (RG ?_))))
  refine RR [7, 7, 7, 7, 7, 7, 7] (.d .a) (.i 13 (.agg #[.int .i64 s.pos, .int .i64 s.st, .int .i64 s.fa, .slice s.ca s.cl.length s.cc, .slice s.ha s.hl.length s.hc, .string (mkS s.out), .int .i64 s.rd]) .a) .a ?_
  refine RCG (dst := some 14) .a (hli) (GV (GV (GV (GV (GI []) 3 view_self) 2 view_ro) 1 view_self) 0 view_ro) ?_
  rintro v _ ⟨b, rfl, rfl⟩
  cases b with
  | false =>
    refine RR [] .z (.i 20 (.bool true) (.d (.d (.k .a)))) .a ?_
    refine RZ (NT (CT (SQ (RG ?_))))
    refine RCG (dst := some 21) .a (hlv) (GV (GI []) 5 view_ro) ?_
    rintro v _ ⟨rfl, rfl⟩
    refine RR [] .z (.i 4 (.bool true) (.d (.d (.d (.k .a))))) .a ?_
    refine RZ (NT (RE (TR ?_)))
    refine NE [] .z .a [] (.bool true) ?_
    exact ⟨rfl, rfl⟩
  | true =>
  by_cases hlen : bs.length > 20000
  · refine RR [] .z (.i 20 (.bool (decide ((↑bs.length : Int) > (20000 : Int)))) (.d (.d (.k .a)))) .a ?_
    refine RZ (NT ?_)
    refine SC 20 (decide ((↑bs.length : Int) > (20000 : Int))) true (decide_eq_true (by omega)) ?_
    refine CT (SQ (RG ?_))
    refine RCG (dst := some 21) .a (hlv) (GV (GI []) 5 view_ro) ?_
    rintro v _ ⟨rfl, rfl⟩
    refine RR [] .z (.i 4 (.bool true) (.d (.d (.d (.d (.k .a)))))) .a ?_
    refine RZ (NT (RE (TR ?_)))
    refine NE [] .z .a [] (.bool true) ?_
    exact ⟨rfl, rfl⟩
  refine RR [] .z (.i 20 (.bool (decide ((↑bs.length : Int) > (20000 : Int)))) (.d (.d (.k .a)))) .a ?_
  refine RZ (NT ?_)
  refine SC 20 (decide ((↑bs.length : Int) > (20000 : Int))) false (decide_eq_false (by omega)) ?_
  refine CF (SK (NT (SQ (SQ (RG ?_)))))
  refine RR [7, 7, 7, 7, 7, 7, 7] (.d .a) (.i 23 (.agg #[.int .i64 s.pos, .int .i64 s.st, .int .i64 s.fa, .slice s.ca s.cl.length s.cc, .slice s.ha s.hl.length s.hc, .string (mkS s.out), .int .i64 s.rd]) (.d (.d (.k .a)))) .a ?_
  refine RCG (dst := some 24) .a (h1) (GV (GV (GV (GV (GV (GI []) 5 view_ro) 3 view_self) 2 view_ro) 1 view_self) 0 view_ro) ?_
  intro v hp' hv
  by_cases hm : mayB s.p = true
  · rw [if_pos hm] at hv h3
    obtain ⟨a1, c1, rfl, rfl⟩ := hv
    have hnS := may_ok hs hm
    obtain ⟨e1, e2⟩ := snap_back hnS hm
    refine wpr_fact (fun w h => row_addr h 0 rfl (snap_pos _ hnS)) ?_
    rintro ⟨gb, ob, rfl⟩
    have hL := snapLoad_spec (some ⟨gb, ob, none⟩) c1 (encS s.p) (fun h => nomatch h) hB
    rw [e1, e2] at hL
    refine RR [] .z (.i 6 (.int .i64 0) (.i 5 (.slice (some ⟨gb, ob, none⟩) (encS s.p).length c1) (.d (.d (.k .a))))) .a ?_
    refine RZ (NT (SQ (RG ?_)))
    refine RR [] .z (.i 28 (.bool true) (.d (.k .a))) .a ?_
    refine RZ (NT (CT (SQ (RG ?_))))
    refine RR [] (.d .a) (.i 30 (.slice (some ⟨gb, ob, none⟩) (encS s.p).length c1) (.d (.d (.k .a)))) .a ?_
    refine RCG (dst := some 31) .a (hL) (GV (GV (GI []) 6 view_ro) 0 view_row) ?_
    rintro v _ ⟨t, ht1, ht2, rfl, rfl⟩
    have hSt := sameState_spec s t hs ht2
    rw [ht1, decide_eq_true rfl] at hSt
    unfold svC at hSt
    rw [show svC t = [.int .i64 t.pos, .int .i64 t.st, .int .i64 t.fa, .slice t.ca t.cl.length t.cc, .slice t.ha t.hl.length t.hc, .string (mkS t.out), .int .i64 t.rd] from rfl]
    rw [show svH t = [row 124 5 t.ca t.cl.length t.cc (t.cl.flatMap clC), star (t.cl.flatMap clRows), row 43 2 t.ha t.hl.length t.hc (t.hl.flatMap objC), star (t.hl.map obRow)] from rfl]
    refine RP [] (.d (.d (.d (.d .a)))) 7 (.i 33 (.int .i64 0) (.i 32 (.agg #[.int .i64 t.pos, .int .i64 t.st, .int .i64 t.fa, .slice t.ca t.cl.length t.cc, .slice t.ha t.hl.length t.hc, .string (mkS t.out), .int .i64 t.rd]) (.d (.d (.k .a))))) .a 75 [.int .i64 0, .int .i64 0, .int .i64 0, .slice none 0 0, .slice none 0 0, .string ⟨#[]⟩, .int .i64 0] fun g2 => ?_
    refine RR [13, 13, 13, 13, 13, 13, 13] .z (.i 8 (.int .i64 0) (.k (.d (.d (.k .a))))) (.k (.k (.k (.k (.k (.k (.k (.k (.k (.k (.k (.k (.k (.u (.i (.int .i64 t.pos) (.i (.int .i64 t.st) (.i (.int .i64 t.fa) (.i (.slice t.ca t.cl.length t.cc) (.i (.slice t.ha t.hl.length t.hc) (.i (.string (mkS t.out)) (.i (.int .i64 t.rd) .z))))))) .a)))))))))))))) ?_
    refine RZ (NT (SQ (RG ?_)))
    refine RR [12, 12, 12, 12, 12, 12, 12, 13, 13, 13, 13, 13, 13, 13] (.d (.d (.d (.d (.d .a))))) (.i 38 (.agg #[.int .i64 t.pos, .int .i64 t.st, .int .i64 t.fa, .slice t.ca t.cl.length t.cc, .slice t.ha t.hl.length t.hc, .string (mkS t.out), .int .i64 t.rd]) (.i 37 (.agg #[.int .i64 s.pos, .int .i64 s.st, .int .i64 s.fa, .slice s.ca s.cl.length s.cc, .slice s.ha s.hl.length s.hc, .string (mkS s.out), .int .i64 s.rd]) (.i 36 (.bool false) (.d (.d (.k .a)))))) .a ?_
    refine RCG (dst := some 39) .a (hSt) (GV (GV (GV (GV (GV (GV (GV (GV (GI []) 3 view_gBag) 2 view_row) 1 view_gCl) 0 view_row) 8 view_self) 7 view_ro) 6 view_self) 5 view_ro) ?_
    rintro v _ ⟨rfl, rfl⟩
    refine RR [12, 12, 12, 12, 12, 12, 12] (.d (.d (.d (.d .a)))) (.i 43 (.agg #[.int .i64 s.pos, .int .i64 s.st, .int .i64 s.fa, .slice s.ca s.cl.length s.cc, .slice s.ha s.hl.length s.hc, .string (mkS s.out), .int .i64 s.rd]) (.i 42 (.bool false) (.d (.d (.d (.d (.k (.d (.k .a))))))))) .a ?_
    refine RCG (dst := some 44) .a (h3) (GV (GV (GV (GV (GV (GI []) 10 view_ro) 8 view_self) 7 view_ro) 6 view_self) 5 view_ro) ?_
    rintro v _ ⟨rfl, rfl⟩
    refine RR [] .z (.i 46 (.bool false) (.d (.d (.d (.k .a))))) .a ?_
    refine RZ (NT (CF (SK (NT (SQ (RG ?_))))))
    refine RR [] (.d .a) (.i 56 (.slice a bs.length c) (.d (.k .a))) .a ?_
    refine RCG (dst := some 57) .a (hLb) (GV (GV (GI []) 10 view_ro) 9 view_ro) ?_
    rintro v _ ⟨u, hu1, hu2, rfl, rfl⟩
    rw [show svC u = [.int .i64 u.pos, .int .i64 u.st, .int .i64 u.fa, .slice u.ca u.cl.length u.cc, .slice u.ha u.hl.length u.hc, .string (mkS u.out), .int .i64 u.rd] from rfl]
    rw [show svH u = [row 124 5 u.ca u.cl.length u.cc (u.cl.flatMap clC), star (u.cl.flatMap clRows), row 43 2 u.ha u.hl.length u.hc (u.hl.flatMap objC), star (u.hl.map obRow)] from rfl]
    by_cases hE : loadE bs = 0
    · obtain ⟨f1, f2⟩ := snap_form hE
      have hby := snapBytes_spec u hu2 (by rw [hu1, f1]; omega)
      rw [hu1, f1] at hby
      unfold svC at hby
      rw [hE]
      refine RP [] (.d (.d (.d (.d .a)))) 9 (.i 59 (.int .i64 0) (.i 58 (.agg #[.int .i64 u.pos, .int .i64 u.st, .int .i64 u.fa, .slice u.ca u.cl.length u.cc, .slice u.ha u.hl.length u.hc, .string (mkS u.out), .int .i64 u.rd]) (.d (.d (.k .a))))) .a 75 [.int .i64 0, .int .i64 0, .int .i64 0, .slice none 0 0, .slice none 0 0, .string ⟨#[]⟩, .int .i64 0] fun g3 => ?_
      refine RR [18, 18, 18, 18, 18, 18, 18] .z (.i 10 (.int .i64 0) (.k (.d (.d (.k .a))))) (.k (.k (.k (.k (.k (.k (.k (.k (.k (.k (.k (.k (.k (.k (.k (.k (.k (.k (.u (.i (.int .i64 u.pos) (.i (.int .i64 u.st) (.i (.int .i64 u.fa) (.i (.slice u.ca u.cl.length u.cc) (.i (.slice u.ha u.hl.length u.hc) (.i (.string (mkS u.out)) (.i (.int .i64 u.rd) .z))))))) .a))))))))))))))))))) ?_
      refine RZ (NT (SQ (SQ (RG ?_))))
      refine RR [] .z (.i 61 (.bool false) (.d (.k .a))) .a ?_
      refine RZ (NT (CF (SK (NT (SQ (RG ?_))))))
      refine RR [18, 18, 18, 18, 18, 18, 18] (.d .a) (.i 69 (.agg #[.int .i64 u.pos, .int .i64 u.st, .int .i64 u.fa, .slice u.ca u.cl.length u.cc, .slice u.ha u.hl.length u.hc, .string (mkS u.out), .int .i64 u.rd]) (.d (.d (.k .a)))) .a ?_
      refine RCG (dst := some 70) .a (hby) (GV (GV (GV (GV (GV (GI []) 14 view_ro) 3 view_gBag) 2 view_row) 1 view_gCl) 0 view_row) ?_
      intro v hp' hv
      rw [if_pos f2] at hv
      obtain ⟨a9, c9, rfl, rfl⟩ := hv
      refine RR [] .z (.i 12 (.int .i64 0) (.i 11 (.slice a9 bs.length c9) (.d (.d (.k .a))))) .a ?_
      refine RZ (NT (SQ (RG ?_)))
      refine RR [] (.d (.d (.d (.d .a)))) (.i 76 (.slice a9 bs.length c9) (.i 75 (.bool true) (.d (.d (.k .a))))) .a ?_
      refine wpr_eq (b2s (a := 77) (b := 9) (ad := a9) (n := bs.length) (c := c9) (dst := some 77) (by kernel_rfl) (by kernel_rfl) bs (by first | rfl | simp) (fun w h => b2s_row h 0 rfl)) ?_
      refine RR [] (.d .a) (.i 78 (.slice a bs.length c) (.k (.d (.k (.k .z))))) .a ?_
      refine wpr_eq (b2s (a := 77) (b := 9) (ad := a) (n := bs.length) (c := c) (dst := some 79) (by kernel_rfl) (by kernel_rfl) bs (by first | rfl | simp) (fun w h => b2s_ro h 14 rfl)) ?_
      refine RR [] (.d (.d (.d .a))) (.i 82 (.bool (decide (bs = bs))) (.d (.d (.d (.d (.k .a)))))) .a ?_
      refine SR 82 (decide (bs = bs)) true (by simp) ?_
      refine RCG (dst := some 83) .a (hlv) (GV (GI []) 15 view_ro) ?_
      rintro v _ ⟨rfl, rfl⟩
      refine RR [] .z (.i 4 (.bool true) .z) .a ?_
      refine RZ (NT (RE ?_))
      refine NE [] .z .a [] (.bool true) ?_
      exact ⟨rfl, rfl⟩
    · have hz := zero_same u hu2 (by rw [hu1]; exact loadS_bad hE)
      refine RP [] (.d (.d (.d (.d .a)))) 9 (.i 59 (.int .i64 (loadE bs)) (.i 58 (.agg #[.int .i64 u.pos, .int .i64 u.st, .int .i64 u.fa, .slice u.ca u.cl.length u.cc, .slice u.ha u.hl.length u.hc, .string (mkS u.out), .int .i64 u.rd]) (.d (.d (.k .a))))) .a 75 [.int .i64 0, .int .i64 0, .int .i64 0, .slice none 0 0, .slice none 0 0, .string ⟨#[]⟩, .int .i64 0] fun g3 => ?_
      refine RR [18, 18, 18, 18, 18, 18, 18] .z (.i 10 (.int .i64 (loadE bs)) (.k (.d (.d (.k .a))))) (.k (.k (.k (.k (.k (.k (.k (.k (.k (.k (.k (.k (.k (.k (.k (.k (.k (.k (.u (.i (.int .i64 u.pos) (.i (.int .i64 u.st) (.i (.int .i64 u.fa) (.i (.slice u.ca u.cl.length u.cc) (.i (.slice u.ha u.hl.length u.hc) (.i (.string (mkS u.out)) (.i (.int .i64 u.rd) .z))))))) .a))))))))))))))))))) ?_
      refine RZ (NT (SQ (SQ (RG ?_))))
      refine RR [] .z (.i 61 (.bool (loadE bs != (0 : Int))) (.d (.k .a))) .a ?_
      refine RZ (NT ?_)
      refine SC 61 (loadE bs != (0 : Int)) true (by simp only [bne_iff_ne, beq_iff_eq, ne_eq]; omega) ?_
      refine CT (SQ (RG ?_))
      refine RR [18, 18, 18, 18, 18, 18, 18] (.d (.d .a)) (.i 63 (.agg #[.int .i64 0, .int .i64 0, .int .i64 0, .slice none 0 0, .slice none 0 0, .string ⟨#[]⟩, .int .i64 0]) (.i 62 (.agg #[.int .i64 u.pos, .int .i64 u.st, .int .i64 u.fa, .slice u.ca u.cl.length u.cc, .slice u.ha u.hl.length u.hc, .string (mkS u.out), .int .i64 u.rd]) (.d (.d (.k .a))))) .a ?_
      refine wpr_ent (Ent.trans ent_bag_nil (Ent.trans ent_roz (Ent.trans ent_bag_nil ent_roz))) ?_
      refine RCG (dst := some 64) .a (hz) (GV (GV (GV (GV (GV (GV (GV (GV (GI []) 1 view_self) 0 view_ro) 1 view_self) 0 view_ro) 7 view_gBag) 6 view_row) 5 view_gCl) 4 view_row) ?_
      rintro v _ ⟨rfl, rfl⟩
      refine RR [] (.d .a) (.i 65 (.bool true) (.d (.d (.d (.k .a))))) .a ?_
      refine RCG (dst := some 66) .a (hlv) (GV (GI []) 18 view_ro) ?_
      rintro v _ ⟨rfl, rfl⟩
      refine RR [] .z (.i 4 (.bool true) (.d (.d (.k (.d (.k .a)))))) .a ?_
      refine RZ (NT (RE (TR ?_)))
      refine NE [] .z .a [] (.bool true) ?_
      exact ⟨rfl, rfl⟩
  · rw [if_neg hm] at hv h3
    obtain ⟨rfl, rfl⟩ := hv
    refine RR [] .z (.i 6 (.int .i64 2) (.i 5 (.slice none 0 0) (.d (.d (.k .a))))) .a ?_
    refine RZ (NT (SQ (RG ?_)))
    refine RR [] .z (.i 28 (.bool false) (.d (.k .a))) .a ?_
    refine RZ (NT (CF (SQ (RG ?_))))
    refine RR [7, 7, 7, 7, 7, 7, 7] (.d (.d (.d (.d (.d .a))))) (.i 51 (.agg #[.int .i64 s.pos, .int .i64 s.st, .int .i64 s.fa, .slice s.ca s.cl.length s.cc, .slice s.ha s.hl.length s.hc, .string (mkS s.out), .int .i64 s.rd]) (.i 50 (.bool false) (.d (.d (.k (.d (.k .a))))))) .a ?_
    refine RCG (dst := some 52) .a (h3) (GV (GV (GV (GV (GV (GI []) 5 view_ro) 3 view_self) 2 view_ro) 1 view_self) 0 view_ro) ?_
    rintro v _ ⟨rfl, rfl⟩
    refine RR [] .z (.i 54 (.bool false) (.d (.d (.d (.k .a))))) .a ?_
    refine RZ (NT (CF (SK (NT (SQ (RG ?_))))))
    refine RR [] (.d .a) (.i 56 (.slice a bs.length c) (.d (.k .a))) .a ?_
    refine RCG (dst := some 57) .a (hLb) (GV (GV (GI []) 5 view_ro) 4 view_ro) ?_
    rintro v _ ⟨u, hu1, hu2, rfl, rfl⟩
    rw [show svC u = [.int .i64 u.pos, .int .i64 u.st, .int .i64 u.fa, .slice u.ca u.cl.length u.cc, .slice u.ha u.hl.length u.hc, .string (mkS u.out), .int .i64 u.rd] from rfl]
    rw [show svH u = [row 124 5 u.ca u.cl.length u.cc (u.cl.flatMap clC), star (u.cl.flatMap clRows), row 43 2 u.ha u.hl.length u.hc (u.hl.flatMap objC), star (u.hl.map obRow)] from rfl]
    by_cases hE : loadE bs = 0
    · obtain ⟨f1, f2⟩ := snap_form hE
      have hby := snapBytes_spec u hu2 (by rw [hu1, f1]; omega)
      rw [hu1, f1] at hby
      unfold svC at hby
      rw [hE]
      refine RP [] (.d (.d (.d (.d .a)))) 9 (.i 59 (.int .i64 0) (.i 58 (.agg #[.int .i64 u.pos, .int .i64 u.st, .int .i64 u.fa, .slice u.ca u.cl.length u.cc, .slice u.ha u.hl.length u.hc, .string (mkS u.out), .int .i64 u.rd]) (.d (.d (.k .a))))) .a 75 [.int .i64 0, .int .i64 0, .int .i64 0, .slice none 0 0, .slice none 0 0, .string ⟨#[]⟩, .int .i64 0] fun g2 => ?_
      refine RR [12, 12, 12, 12, 12, 12, 12] .z (.i 10 (.int .i64 0) (.k (.d (.d (.k .a))))) (.k (.k (.k (.k (.k (.k (.k (.k (.k (.k (.k (.k (.u (.i (.int .i64 u.pos) (.i (.int .i64 u.st) (.i (.int .i64 u.fa) (.i (.slice u.ca u.cl.length u.cc) (.i (.slice u.ha u.hl.length u.hc) (.i (.string (mkS u.out)) (.i (.int .i64 u.rd) .z))))))) .a))))))))))))) ?_
      refine RZ (NT (SQ (SQ (RG ?_))))
      refine RR [] .z (.i 61 (.bool false) (.d (.k .a))) .a ?_
      refine RZ (NT (CF (SK (NT (SQ (RG ?_))))))
      refine RR [12, 12, 12, 12, 12, 12, 12] (.d .a) (.i 69 (.agg #[.int .i64 u.pos, .int .i64 u.st, .int .i64 u.fa, .slice u.ca u.cl.length u.cc, .slice u.ha u.hl.length u.hc, .string (mkS u.out), .int .i64 u.rd]) (.d (.d (.k .a)))) .a ?_
      refine RCG (dst := some 70) .a (hby) (GV (GV (GV (GV (GV (GI []) 9 view_ro) 3 view_gBag) 2 view_row) 1 view_gCl) 0 view_row) ?_
      intro v hp' hv
      rw [if_pos f2] at hv
      obtain ⟨a9, c9, rfl, rfl⟩ := hv
      refine RR [] .z (.i 12 (.int .i64 0) (.i 11 (.slice a9 bs.length c9) (.d (.d (.k .a))))) .a ?_
      refine RZ (NT (SQ (RG ?_)))
      refine RR [] (.d (.d (.d (.d .a)))) (.i 76 (.slice a9 bs.length c9) (.i 75 (.bool true) (.d (.d (.k .a))))) .a ?_
      refine wpr_eq (b2s (a := 77) (b := 9) (ad := a9) (n := bs.length) (c := c9) (dst := some 77) (by kernel_rfl) (by kernel_rfl) bs (by first | rfl | simp) (fun w h => b2s_row h 0 rfl)) ?_
      refine RR [] (.d .a) (.i 78 (.slice a bs.length c) (.k (.d (.k (.k .z))))) .a ?_
      refine wpr_eq (b2s (a := 77) (b := 9) (ad := a) (n := bs.length) (c := c) (dst := some 79) (by kernel_rfl) (by kernel_rfl) bs (by first | rfl | simp) (fun w h => b2s_ro h 9 rfl)) ?_
      refine RR [] (.d (.d (.d .a))) (.i 82 (.bool (decide (bs = bs))) (.d (.d (.d (.d (.k .a)))))) .a ?_
      refine SR 82 (decide (bs = bs)) true (by simp) ?_
      refine RCG (dst := some 83) .a (hlv) (GV (GI []) 10 view_ro) ?_
      rintro v _ ⟨rfl, rfl⟩
      refine RR [] .z (.i 4 (.bool true) .z) .a ?_
      refine RZ (NT (RE ?_))
      refine NE [] .z .a [] (.bool true) ?_
      exact ⟨rfl, rfl⟩
    · have hz := zero_same u hu2 (by rw [hu1]; exact loadS_bad hE)
      refine RP [] (.d (.d (.d (.d .a)))) 9 (.i 59 (.int .i64 (loadE bs)) (.i 58 (.agg #[.int .i64 u.pos, .int .i64 u.st, .int .i64 u.fa, .slice u.ca u.cl.length u.cc, .slice u.ha u.hl.length u.hc, .string (mkS u.out), .int .i64 u.rd]) (.d (.d (.k .a))))) .a 75 [.int .i64 0, .int .i64 0, .int .i64 0, .slice none 0 0, .slice none 0 0, .string ⟨#[]⟩, .int .i64 0] fun g2 => ?_
      refine RR [12, 12, 12, 12, 12, 12, 12] .z (.i 10 (.int .i64 (loadE bs)) (.k (.d (.d (.k .a))))) (.k (.k (.k (.k (.k (.k (.k (.k (.k (.k (.k (.k (.u (.i (.int .i64 u.pos) (.i (.int .i64 u.st) (.i (.int .i64 u.fa) (.i (.slice u.ca u.cl.length u.cc) (.i (.slice u.ha u.hl.length u.hc) (.i (.string (mkS u.out)) (.i (.int .i64 u.rd) .z))))))) .a))))))))))))) ?_
      refine RZ (NT (SQ (SQ (RG ?_))))
      refine RR [] .z (.i 61 (.bool (loadE bs != (0 : Int))) (.d (.k .a))) .a ?_
      refine RZ (NT ?_)
      refine SC 61 (loadE bs != (0 : Int)) true (by simp only [bne_iff_ne, beq_iff_eq, ne_eq]; omega) ?_
      refine CT (SQ (RG ?_))
      refine RR [12, 12, 12, 12, 12, 12, 12] (.d (.d .a)) (.i 63 (.agg #[.int .i64 0, .int .i64 0, .int .i64 0, .slice none 0 0, .slice none 0 0, .string ⟨#[]⟩, .int .i64 0]) (.i 62 (.agg #[.int .i64 u.pos, .int .i64 u.st, .int .i64 u.fa, .slice u.ca u.cl.length u.cc, .slice u.ha u.hl.length u.hc, .string (mkS u.out), .int .i64 u.rd]) (.d (.d (.k .a))))) .a ?_
      refine wpr_ent (Ent.trans ent_bag_nil (Ent.trans ent_roz (Ent.trans ent_bag_nil ent_roz))) ?_
      refine RCG (dst := some 64) .a (hz) (GV (GV (GV (GV (GV (GV (GV (GV (GI []) 1 view_self) 0 view_ro) 1 view_self) 0 view_ro) 7 view_gBag) 6 view_row) 5 view_gCl) 4 view_row) ?_
      rintro v _ ⟨rfl, rfl⟩
      refine RR [] (.d .a) (.i 65 (.bool true) (.d (.d (.d (.k .a))))) .a ?_
      refine RCG (dst := some 66) .a (hlv) (GV (GI []) 13 view_ro) ?_
      rintro v _ ⟨rfl, rfl⟩
      refine RR [] .z (.i 4 (.bool true) (.d (.d (.k (.d (.k .a)))))) .a ?_
      refine RZ (NT (RE (TR ?_)))
      refine NE [] .z .a [] (.bool true) ?_
      exact ⟨rfl, rfl⟩
end Go.Proofs.YtpfhleghgkeemaaGreatDoor
namespace Go.Proofs.YtpfhleghgkeemaaGreatDoor
open Go Go.Sx
theorem enc_same {s t : Sv} (hs : s.ok) (ht : t.ok) (ms : mayB s.p = true) (mt : mayB t.p = true) : (decide (encS s.p = encS t.p) == decide (s.p = t.p)) = true := by
  by_cases h : s.p = t.p
  · rw [h, decide_eq_true rfl, decide_eq_true rfl]; rfl
  · rw [decide_eq_false h, decide_eq_false (fun e => h (enc_inj (may_ok hs ms) (may_ok ht mt) e))]; rfl
set_option maxHeartbeats 8000000 in
theorem SnapApart_spec (s : Sv) (hs : s.ok) (hB : (encS s.p).length ≤ 134217728) (t : Sv) (ht : t.ok) (hC : (encS t.p).length ≤ 134217728) :
    Does Tryz.prog 14 [.agg (svC s).toArray, .agg (svC t).toArray] [ro s.ca (s.cl.flatMap clC), gCl s.cl, ro s.ha (s.hl.flatMap objC), gBag s.hl, ro t.ca (t.cl.flatMap clC), gCl t.cl, ro t.ha (t.hl.flatMap objC), gBag t.hl, gWords, gPow] (fun v hp' => v = .bool true ∧ hp' = []) := by
  have hli := light_spec s hs
  have hlj := light_spec t ht
  have h1 := snapBytes_spec s hs (by omega)
  have h2 := snapBytes_spec t ht (by omega)
  have hSt := sameState_spec s t hs ht
  have hlv := slives_spec
  unfold svC at hli hlj h1 h2 hSt ⊢
  refine fn_enter Tryz.func14 rfl 48 rfl fun w0 h0 => ?_
  refine SQ (RG ?_)
  refine RP [] (.d .a) 2 (.d (.k .a)) .a 75 [.int .i64 s.pos, .int .i64 s.st, .int .i64 s.fa, .slice s.ca s.cl.length s.cc, .slice s.ha s.hl.length s.hc, .string (mkS s.out), .int .i64 s.rd] fun g1 => ?_
  refine RP [] (.d .a) 3 (.k .z) .a 75 [.int .i64 t.pos, .int .i64 t.st, .int .i64 t.fa, .slice t.ca t.cl.length t.cc, .slice t.ha t.hl.length t.hc, .string (mkS t.out), .int .i64 t.rd] fun g2 => ?_
  refine RR [] .z (.i 4 (.bool false) .a) .a ?_
  refine RZ (NT (SQ (SQ (RG ?_))))
  refine RR [10, 10, 10, 10, 10, 10, 10] (.d .a) (.i 9 (.agg #[.int .i64 s.pos, .int .i64 s.st, .int .i64 s.fa, .slice s.ca s.cl.length s.cc, .slice s.ha s.hl.length s.hc, .string (mkS s.out), .int .i64 s.rd]) .a) .a ?_
  refine RCG (dst := some 10) .a (hli) (GV (GV (GV (GV (GI []) 3 view_self) 2 view_ro) 1 view_self) 0 view_ro) ?_
  rintro v _ ⟨b, rfl, rfl⟩
  cases b with
  | false =>
    refine RR [] .z (.i 16 (.bool true) (.d (.d (.k .a)))) .a ?_
    refine RZ (NT (CT (SQ (RG ?_))))
    refine RCG (dst := some 17) .a (hlv) (GV (GI []) 8 view_ro) ?_
    rintro v _ ⟨rfl, rfl⟩
    refine RR [] .z (.i 4 (.bool true) (.d (.d (.d (.k .a))))) .a ?_
    refine RZ (NT (RE (TR ?_)))
    refine NE [] .z .a [] (.bool true) ?_
    exact ⟨rfl, rfl⟩
  | true =>
  refine RR [11, 11, 11, 11, 11, 11, 11] (.d (.d (.d .a))) (.i 13 (.agg #[.int .i64 t.pos, .int .i64 t.st, .int .i64 t.fa, .slice t.ca t.cl.length t.cc, .slice t.ha t.hl.length t.hc, .string (mkS t.out), .int .i64 t.rd]) (.i 12 (.bool false) (.d (.d (.k .a))))) .a ?_
  refine RCG (dst := some 14) .a (hlj) (GV (GV (GV (GV (GI []) 7 view_self) 6 view_ro) 5 view_self) 4 view_ro) ?_
  rintro v _ ⟨b, rfl, rfl⟩
  cases b with
  | false =>
    refine RR [] .z (.i 16 (.bool true) (.d (.d (.d (.k .a))))) .a ?_
    refine RZ (NT (CT (SQ (RG ?_))))
    refine RCG (dst := some 17) .a (hlv) (GV (GI []) 8 view_ro) ?_
    rintro v _ ⟨rfl, rfl⟩
    refine RR [] .z (.i 4 (.bool true) (.d (.d (.d (.k .a))))) .a ?_
    refine RZ (NT (RE (TR ?_)))
    refine NE [] .z .a [] (.bool true) ?_
    exact ⟨rfl, rfl⟩
  | true =>
  refine RR [] .z (.i 16 (.bool false) (.d (.d (.d (.k .a))))) .a ?_
  refine RZ (NT (CF (SK (NT (SQ (RG ?_))))))
  refine RR [10, 10, 10, 10, 10, 10, 10] (.d .a) (.i 19 (.agg #[.int .i64 s.pos, .int .i64 s.st, .int .i64 s.fa, .slice s.ca s.cl.length s.cc, .slice s.ha s.hl.length s.hc, .string (mkS s.out), .int .i64 s.rd]) (.d (.k .a))) .a ?_
  refine RCG (dst := some 20) .a (h1) (GV (GV (GV (GV (GV (GI []) 8 view_ro) 3 view_self) 2 view_ro) 1 view_self) 0 view_ro) ?_
  intro v hp' hv
  by_cases hm : mayB s.p = true
  · rw [if_pos hm] at hv
    obtain ⟨a1, c1, rfl, rfl⟩ := hv
    refine RR [] .z (.i 6 (.int .i64 0) (.i 5 (.slice a1 (encS s.p).length c1) (.d (.d (.k .a))))) .a ?_
    refine RZ (NT (SQ (RG ?_)))
    refine RR [12, 12, 12, 12, 12, 12, 12] (.d .a) (.i 24 (.agg #[.int .i64 t.pos, .int .i64 t.st, .int .i64 t.fa, .slice t.ca t.cl.length t.cc, .slice t.ha t.hl.length t.hc, .string (mkS t.out), .int .i64 t.rd]) .a) .a ?_
    refine RCG (dst := some 25) .a (h2) (GV (GV (GV (GV (GV (GI []) 9 view_ro) 8 view_self) 7 view_ro) 6 view_self) 5 view_ro) ?_
    intro v hp' hv
    by_cases hn : mayB t.p = true
    · rw [if_pos hn] at hv
      obtain ⟨a2, c2, rfl, rfl⟩ := hv
      refine RR [] .z (.i 8 (.int .i64 0) (.i 7 (.slice a2 (encS t.p).length c2) (.d (.d (.k .a))))) .a ?_
      refine RZ (NT (SQ ?_))
      refine wpc_ent (ent_turn 0 (ro a2 (u8s (encS t.p))) rfl (turn_view view_row) rfl) ?_
      refine wpc_ent (ent_turn 1 (ro a1 (u8s (encS s.p))) rfl (turn_view view_row) rfl) ?_
      refine wpc_draw (by kernel_rfl) [ro a2 (u8s (encS t.p)), ro a1 (u8s (encS s.p)), .blk g1 75 [.int .i64 s.pos, .int .i64 s.st, .int .i64 s.fa, .slice s.ca s.cl.length s.cc, .slice s.ha s.hl.length s.hc, .string (mkS s.out), .int .i64 s.rd], .blk g2 75 [.int .i64 t.pos, .int .i64 t.st, .int .i64 t.fa, .slice t.ca t.cl.length t.cc, .slice t.ha t.hl.length t.hc, .string (mkS t.out), .int .i64 t.rd]] (sub_of [0, 1, 12, 13] (by kernel_rfl)) 21 (by kernel_rfl) ?_
      refine TK 10 [(0, []), (1, []), (2, []), (3, []), (4, []), (5, []), (6, []), (7, []), (9, []), (12, [2, 2, 2, 2, 2, 2, 2]), (13, [3, 3, 3, 3, 3, 3, 3])] (.i 41 (.agg #[.int .i64 t.pos, .int .i64 t.st, .int .i64 t.fa, .slice t.ca t.cl.length t.cc, .slice t.ha t.hl.length t.hc, .string (mkS t.out), .int .i64 t.rd]) (.i 40 (.agg #[.int .i64 s.pos, .int .i64 s.st, .int .i64 s.fa, .slice s.ca s.cl.length s.cc, .slice s.ha s.hl.length s.hc, .string (mkS s.out), .int .i64 s.rd]) (.i 37 (.slice a2 (encS t.p).length c2) (.i 35 (.slice a1 (encS s.p).length c1) (.i 34 (.bool false) (.d (.d (.d (.d (.k .z)))))))))) (#[true, true, true, true, true, true, true, true, false, true, false, false, true, true, false, false, false, false, false, false, false]) ?_
      refine wpa_qb2s (i := 8) (n := 9) (by kernel_rfl) (by kernel_rfl) (by kernel_rfl) (a := 77) (b := 9) (ad := a1) (m := ((encS s.p).length)) (c := c1) (dst := some 36) (by kernel_rfl) (by kernel_rfl) (encS s.p) (by first | rfl | simp) (fun w h => b2s_roL h 1 rfl) ?_
      refine wpa_qb2s (i := 10) (n := 8) (by kernel_rfl) (by kernel_rfl) (by kernel_rfl) (a := 77) (b := 9) (ad := a2) (m := ((encS t.p).length)) (c := c2) (dst := some 38) (by kernel_rfl) (by kernel_rfl) (encS t.p) (by first | rfl | simp) (fun w h => b2s_roL h 0 rfl) ?_
      refine TK 7 [(11, [])] (.i 39 (.bool (decide (encS s.p = encS t.p))) (.d (.d (.k (.k (.d (.d (.k .a)))))))) (#[true, true, true, true, true, true, true, true, true, true, true, true, true, true, false, false, false, false, false, false, false]) ?_
      refine AC (dst := some 42) 6 14 .a (hSt) (GV (GV (GV (GV (GV (GV (GV (GV (GI []) 9 view_self) 8 view_ro) 7 view_self) 6 view_ro) 5 view_self) 4 view_ro) 3 view_self) 2 view_ro) [0, 1, 12, 13] ?_
      rintro v _ ⟨rfl, rfl⟩
      refine TK 3 [(15, []), (16, []), (17, [])] (.i 45 (.bool (decide (encS s.p = encS t.p) == decide (s.p = t.p))) (.d (.d (.d (.d (.d (.k .a))))))) (#[true, true, true, true, true, true, true, true, true, true, true, true, true, true, true, true, true, true, false, false, false]) ?_
      refine SA 45 (decide (encS s.p = encS t.p) == decide (s.p = t.p)) true (enc_same hs ht hm hn) ?_
      refine AC (dst := some 46) 2 18 .a (hlv) (GV (GI []) 10 view_ro) [0, 1, 12, 13] ?_
      rintro v _ ⟨rfl, rfl⟩
      refine TK 0 [(19, []), (20, [])] (.i 4 (.bool true) .z) (#[true, true, true, true, true, true, true, true, true, true, true, true, true, true, true, true, true, true, true, true, true]) ?_
      refine wpa_done 0 (by kernel_rfl) ?_
      refine NT (RE ?_)
      refine NE [] .z .a [] (.bool true) ?_
      exact ⟨rfl, rfl⟩
    · rw [if_neg hn] at hv
      obtain ⟨rfl, rfl⟩ := hv
      refine RR [] .z (.i 8 (.int .i64 2) (.i 7 (.slice none 0 0) (.d (.d (.k .a))))) .a ?_
      refine RZ (NT (SQ ?_))
      refine wpc_draw (by kernel_rfl) [] (sub_of [] (by kernel_rfl)) 21 (by kernel_rfl) ?_
      refine TK 3 [(0, []), (1, []), (2, []), (3, []), (4, []), (5, []), (6, []), (7, []), (8, []), (9, []), (10, []), (11, []), (12, []), (13, []), (14, []), (15, []), (16, []), (17, [])] (.i 45 (.bool true) (.d (.d (.d (.d (.k .z)))))) (#[true, true, true, true, true, true, true, true, true, true, true, true, true, true, true, true, true, true, false, false, false]) ?_
      refine AC (dst := some 46) 2 18 .a (hlv) (GV (GI []) 9 view_ro) [] ?_
      rintro v _ ⟨rfl, rfl⟩
      refine TK 0 [(19, []), (20, [])] (.i 4 (.bool true) .z) (#[true, true, true, true, true, true, true, true, true, true, true, true, true, true, true, true, true, true, true, true, true]) ?_
      refine wpa_done 0 (by kernel_rfl) ?_
      refine NT (RE ?_)
      refine NE [] .z .a [] (.bool true) ?_
      exact ⟨rfl, rfl⟩
  · rw [if_neg hm] at hv
    obtain ⟨rfl, rfl⟩ := hv
    refine RR [] .z (.i 6 (.int .i64 2) (.i 5 (.slice none 0 0) (.d (.d (.k .a))))) .a ?_
    refine RZ (NT (SQ (RG ?_)))
    refine RR [11, 11, 11, 11, 11, 11, 11] (.d .a) (.i 24 (.agg #[.int .i64 t.pos, .int .i64 t.st, .int .i64 t.fa, .slice t.ca t.cl.length t.cc, .slice t.ha t.hl.length t.hc, .string (mkS t.out), .int .i64 t.rd]) .a) .a ?_
    refine RCG (dst := some 25) .a (h2) (GV (GV (GV (GV (GV (GI []) 8 view_ro) 7 view_self) 6 view_ro) 5 view_self) 4 view_ro) ?_
    intro v hp' hv
    by_cases hn : mayB t.p = true
    · rw [if_pos hn] at hv
      obtain ⟨a2, c2, rfl, rfl⟩ := hv
      refine RR [] .z (.i 8 (.int .i64 0) (.i 7 (.slice a2 (encS t.p).length c2) (.d (.d (.k .a))))) .a ?_
      refine RZ (NT (SQ ?_))
      refine wpc_draw (by kernel_rfl) [] (sub_of [] (by kernel_rfl)) 21 (by kernel_rfl) ?_
      refine TK 3 [(0, []), (1, []), (2, []), (3, []), (4, []), (5, []), (6, []), (7, []), (8, []), (9, []), (10, []), (11, []), (12, []), (13, []), (14, []), (15, []), (16, []), (17, [])] (.i 45 (.bool true) (.d (.d (.d (.d (.k .z)))))) (#[true, true, true, true, true, true, true, true, true, true, true, true, true, true, true, true, true, true, false, false, false]) ?_
      refine AC (dst := some 46) 2 18 .a (hlv) (GV (GI []) 9 view_ro) [] ?_
      rintro v _ ⟨rfl, rfl⟩
      refine TK 0 [(19, []), (20, [])] (.i 4 (.bool true) .z) (#[true, true, true, true, true, true, true, true, true, true, true, true, true, true, true, true, true, true, true, true, true]) ?_
      refine wpa_done 0 (by kernel_rfl) ?_
      refine NT (RE ?_)
      refine NE [] .z .a [] (.bool true) ?_
      exact ⟨rfl, rfl⟩
    · rw [if_neg hn] at hv
      obtain ⟨rfl, rfl⟩ := hv
      refine RR [] .z (.i 8 (.int .i64 2) (.i 7 (.slice none 0 0) (.d (.d (.k .a))))) .a ?_
      refine RZ (NT (SQ ?_))
      refine wpc_draw (by kernel_rfl) [] (sub_of [] (by kernel_rfl)) 21 (by kernel_rfl) ?_
      refine TK 3 [(0, []), (1, []), (2, []), (3, []), (4, []), (5, []), (6, []), (7, []), (8, []), (9, []), (10, []), (11, []), (12, []), (13, []), (14, []), (15, []), (16, []), (17, [])] (.i 45 (.bool true) (.d (.d (.d (.d (.k .z)))))) (#[true, true, true, true, true, true, true, true, true, true, true, true, true, true, true, true, true, true, false, false, false]) ?_
      refine AC (dst := some 46) 2 18 .a (hlv) (GV (GI []) 8 view_ro) [] ?_
      rintro v _ ⟨rfl, rfl⟩
      refine TK 0 [(19, []), (20, [])] (.i 4 (.bool true) .z) (#[true, true, true, true, true, true, true, true, true, true, true, true, true, true, true, true, true, true, true, true, true]) ?_
      refine wpa_done 0 (by kernel_rfl) ?_
      refine NT (RE ?_)
      refine NE [] .z .a [] (.bool true) ?_
      exact ⟨rfl, rfl⟩
end Go.Proofs.YtpfhleghgkeemaaGreatDoor
namespace Go.Proofs.YtpfhleghgkeemaaGreatDoor
open Go Go.Sx
theorem view_u8 {a : Option Addr} (l : List UInt8) (k : Nat) : View (ro a (u8s l)) (ro a (u8s (l.take k))) := by
  have h := view_front (a := a) (xs := u8s l) k
  have e : (u8s l).take k = u8s (l.take k) := by simp [u8s, List.map_take]
  rwa [e] at h
set_option maxHeartbeats 8000000 in
theorem SnapCut_spec (s : Sv) (hs : s.ok) (hB : (encS s.p).length ≤ 67108864) (n : Int) (hn : -9223372036854775808 ≤ n ∧ n ≤ 9223372036854775807) (m : UInt8) :
    Does Tryz.prog 13 [.agg (svC s).toArray, .int .i64 n, .int .u8 m.toNat] [ro s.ca (s.cl.flatMap clC), gCl s.cl, ro s.ha (s.hl.flatMap objC), gBag s.hl, gWords, gPow] (fun v hp' => v = .bool true ∧ hp' = []) := by
  have hli := light_spec s hs
  have h1 := snapBytes_spec s hs (by omega)
  have hlv := slives_spec
  unfold svC at hli h1 ⊢
  refine fn_enter Tryz.func13 rfl 74 rfl fun w0 h0 => ?_
  refine SQ (RG ?_)
  refine RP [] (.d .a) 3 (.d (.k .a)) .a 75 [.int .i64 s.pos, .int .i64 s.st, .int .i64 s.fa, .slice s.ca s.cl.length s.cc, .slice s.ha s.hl.length s.hc, .string (mkS s.out), .int .i64 s.rd] fun g1 => ?_
  refine RR [] .z (.i 6 (.bool false) .a) .a ?_
  refine RZ (NT (SQ (SQ (RG ?_))))
  refine RR [6, 6, 6, 6, 6, 6, 6] (.d .a) (.i 13 (.agg #[.int .i64 s.pos, .int .i64 s.st, .int .i64 s.fa, .slice s.ca s.cl.length s.cc, .slice s.ha s.hl.length s.hc, .string (mkS s.out), .int .i64 s.rd]) .a) .a ?_
  refine RCG (dst := some 14) .a (hli) (GV (GV (GV (GV (GI []) 3 view_self) 2 view_ro) 1 view_self) 0 view_ro) ?_
  rintro v _ ⟨b, rfl, rfl⟩
  cases b with
  | false =>
    refine RR [] .z (.i 15 (.bool true) (.d (.d (.k .a)))) .a ?_
    refine RZ (NT (CT (SQ (RG ?_))))
    refine RCG (dst := some 16) .a (hlv) (GV (GI []) 4 view_ro) ?_
    rintro v _ ⟨rfl, rfl⟩
    refine RR [] .z (.i 6 (.bool true) (.d (.d (.d (.k .a))))) .a ?_
    refine RZ (NT (RE (TR ?_)))
    refine NE [] .z .a [] (.bool true) ?_
    exact ⟨rfl, rfl⟩
  | true =>
  refine RR [] .z (.i 15 (.bool false) (.d (.d (.k .a)))) .a ?_
  refine RZ (NT (CF (SK (NT (SQ (RG ?_))))))
  refine RR [6, 6, 6, 6, 6, 6, 6] (.d .a) (.i 18 (.agg #[.int .i64 s.pos, .int .i64 s.st, .int .i64 s.fa, .slice s.ca s.cl.length s.cc, .slice s.ha s.hl.length s.hc, .string (mkS s.out), .int .i64 s.rd]) (.d (.k (.d (.k .a))))) .a ?_
  refine RCG (dst := some 19) .a (h1) (GV (GV (GV (GV (GV (GI []) 4 view_ro) 3 view_self) 2 view_ro) 1 view_self) 0 view_ro) ?_
  intro v hp' hv
  by_cases hm : mayB s.p = true
  · rw [if_pos hm] at hv
    obtain ⟨a1, c1, rfl, rfl⟩ := hv
    have hnS := may_ok hs hm
    have hpos := snap_pos _ hnS
    refine wpr_fact (fun w h => row_addr h 0 rfl hpos) ?_
    rintro ⟨gb, ob, rfl⟩
    refine wpr_fact (fun w h => row_cap h 0 rfl) fun hcap => ?_
    have hcap2 := hcap.2.1
    have hU : IntKind.u64.wrap ((encS s.p).length : Int) = ((encS s.p).length : Int) := by rw [u64_wrap]; omega
    obtain ⟨cut, hcl, hcut⟩ : ∃ cut : Nat, cut < (encS s.p).length ∧ IntKind.i64.wrap ((IntKind.u64.wrap n).tmod (IntKind.u64.wrap ((encS s.p).length : Int))) = (cut : Int) := by
      rw [hU]
      have h0 : 0 ≤ IntKind.u64.wrap n := by rw [u64_wrap]; omega
      rw [Int.tmod_eq_emod_of_nonneg h0]
      have h1 := Int.emod_nonneg (IntKind.u64.wrap n) (show ((encS s.p).length : Int) ≠ 0 by omega)
      have h2 := Int.emod_lt_of_pos (IntKind.u64.wrap n) (show 0 < ((encS s.p).length : Int) by omega)
      refine ⟨(IntKind.u64.wrap n % ((encS s.p).length : Int)).toNat, by omega, ?_⟩
      rw [i64_wrap]
      split <;> omega
    refine RR [] .z (.i 8 (.int .i64 0) (.i 7 (.slice (some ⟨gb, ob, none⟩) (encS s.p).length c1) (.d (.d (.k .a))))) .a ?_
    refine RZ (NT (SQ (SQ (RG ?_))))
    refine RR [] .z (.i 23 (.bool false) .a) .a ?_
    refine RZ (NT (CF (SK (NT (SQ (SQ (RG ?_)))))))
    refine RR [] .z (.i 31 (.bool ((↑(encS s.p).length : Int) == (0 : Int))) (.d (.d (.k .a)))) .a ?_
    refine RZ (NT ?_)
    refine SC 31 ((↑(encS s.p).length : Int) == (0 : Int)) false (by simp only [bne_eq_false_iff_eq, beq_eq_false_iff_ne, ne_eq]; omega) ?_
    refine CF (SK (NT (SQ (RG ?_))))
    refine RV true [] (.d (.d (.d (.d (.d (.d (.d (.d (.d .a))))))))) (.i 41 (.slice (some ⟨gb, ob, none⟩) (Int.toNat (IntKind.wrap IntKind.i64 (Int.tmod (IntKind.wrap IntKind.u64 n) (IntKind.wrap IntKind.u64 (↑(List.length (encS (Sv.p s))) : Int))))) c1) (.d (.d (.k (.k (.d (.k .a))))))) .a [IntKind.u64.wrap (↑(encS s.p).length : Int) ≠ (0 : Int), (0 : Int) ≤ IntKind.i64.wrap ((IntKind.u64.wrap n).tmod (IntKind.u64.wrap (↑(encS s.p).length : Int))) ∧ IntKind.i64.wrap ((IntKind.u64.wrap n).tmod (IntKind.u64.wrap (↑(encS s.p).length : Int))) ≤ (↑c1 : Int)] ⟨by omega, by omega, trivial⟩ ?_
    have hcT : ((encS s.p).take cut).length = cut := by rw [List.length_take]; omega
    refine wpr_ent (ent_set 41 (.slice (some ⟨gb, ob, none⟩) (Int.toNat (IntKind.wrap IntKind.i64 (Int.tmod (IntKind.wrap IntKind.u64 n) (IntKind.wrap IntKind.u64 (↑(List.length (encS (Sv.p s))) : Int))))) c1) (.slice (some ⟨gb, ob, none⟩) ((encS s.p).take cut).length c1) (by kernel_rfl) (by rw [hcut, hcT]; rfl)) ?_
    refine wpr_ent (ent_turn 0 (ro (some ⟨gb, ob, none⟩) (u8s (encS s.p))) rfl (turn_view view_row) rfl) ?_
    refine wpr_ent (ent_copy 0 (ro (some ⟨gb, ob, none⟩) (u8s ((encS s.p).take cut))) rfl (fun h => h) (view_u8 (encS s.p) cut)) ?_
    have hL1 := snapLoad_spec (some ⟨gb, ob, none⟩) c1 ((encS s.p).take cut) (fun h => nomatch h) (by omega)
    have hE1 := snap_cut hnS hcl
    rw [hE1] at hL1
    refine RCG (dst := some 42) .a (hL1) (GV (GV (GI []) 6 view_ro) 0 view_ro) ?_
    rintro v _ ⟨u, hu1, hu2, rfl, rfl⟩
    have hz1 := zero_same u hu2 (by rw [hu1]; exact loadS_bad (by rw [hE1]; decide))
    rw [show svC u = [.int .i64 u.pos, .int .i64 u.st, .int .i64 u.fa, .slice u.ca u.cl.length u.cc, .slice u.ha u.hl.length u.hc, .string (mkS u.out), .int .i64 u.rd] from rfl]
    rw [show svH u = [row 124 5 u.ca u.cl.length u.cc (u.cl.flatMap clC), star (u.cl.flatMap clRows), row 43 2 u.ha u.hl.length u.hc (u.hl.flatMap objC), star (u.hl.map obRow)] from rfl]
    refine RP [] (.d (.d (.d (.d .a)))) 9 (.i 44 (.int .i64 3) (.i 43 (.agg #[.int .i64 u.pos, .int .i64 u.st, .int .i64 u.fa, .slice u.ca u.cl.length u.cc, .slice u.ha u.hl.length u.hc, .string (mkS u.out), .int .i64 u.rd]) (.d (.d (.d (.k .a)))))) .a 75 [.int .i64 0, .int .i64 0, .int .i64 0, .slice none 0 0, .slice none 0 0, .string ⟨#[]⟩, .int .i64 0] fun g2 => ?_
    refine RR [13, 13, 13, 13, 13, 13, 13] .z (.i 10 (.int .i64 3) (.k (.d (.d (.k .a))))) (.k (.k (.k (.k (.k (.k (.k (.k (.k (.k (.k (.k (.k (.u (.i (.int .i64 u.pos) (.i (.int .i64 u.st) (.i (.int .i64 u.fa) (.i (.slice u.ca u.cl.length u.cc) (.i (.slice u.ha u.hl.length u.hc) (.i (.string (mkS u.out)) (.i (.int .i64 u.rd) .z))))))) .a)))))))))))))) ?_
    refine RZ (NT (SQ (RG ?_)))
    refine RN [] (.d .a) 46 (fun g3 => (.slice (some ⟨g3, 0, none⟩) 0 0)) .a .a 5 [] fun g3 => ?_
    refine RR [] (.d .a) (.i 47 (.slice (some ⟨gb, ob, none⟩) (encS s.p).length c1) (.k (.k (.k (.d (.k .a)))))) .a ?_
    refine wpr_ent (ent_turn 14 (row 5 1 (some ⟨g3, 0, none⟩) 0 0 []) rfl (turn_blk rfl (by intro u hu; cases hu) (by simp)) rfl) ?_
    refine wpr_app (a := (some ⟨g3, 0, none⟩)) (n := 0) (cap := 0) (x := (.slice (some ⟨gb, ob, none⟩) (encS s.p).length c1)) (t := 77) (xt := 77) (dst := some 48) (by kernel_rfl) (e := 5) (sz := 1) (bytes := 1) (by kernel_rfl) 14 (xs := []) (by kernel_rfl) (m := ((encS s.p).length)) (news := (u8s (encS s.p))) (fun w h => src_ro h 5 rfl (by simp [u8s_len]) (fun e => by cases e)) (by unfold maxLen; omega) (by omega) ?_
    intro a2 c2 hn2
    simp only [List.nil_append, Nat.zero_add]
    refine RN [] (.d (.d .a)) 50 (fun g4 => (.slice (some ⟨g4, 0, none⟩) 1 1)) (.k (.d (.d (.k (.k (.k .z)))))) .a 5 [.int .u8 (↑m.toNat : Int)] fun g4 => ?_
    refine wpr_ent (ent_turn 15 (ro (some ⟨g4, 0, none⟩) (u8s [m])) rfl (turn_rblk (l := u8s [m]) (by intro v hv; rw [List.mem_singleton.1 hv]; rfl)) rfl) ?_
    refine wpr_app (a := a2) (n := ((encS s.p).length)) (cap := c2) (x := (.slice (some ⟨g4, 0, none⟩) 1 1)) (t := 77) (xt := 77) (dst := some 51) (by kernel_rfl) (e := 5) (sz := 1) (bytes := 1) (by kernel_rfl) 14 (xs := (u8s (encS s.p))) (by kernel_rfl) (m := 1) (news := (u8s [m])) (fun w h => src_ro h 15 rfl rfl (fun e => by cases e)) (by unfold maxLen; omega) (by omega) ?_
    intro a3 c3 hn3
    rw [show (encS s.p).length + 1 = (encS s.p ++ [m]).length by simp, show u8s (encS s.p) ++ u8s [m] = u8s (encS s.p ++ [m]) by simp [u8s]]
    have hL2 := snapLoad_spec a3 c3 (encS s.p ++ [m]) (fun e => by cases (hn2.1 (hn3.1 e).1).1) (by rw [List.length_append, List.length_singleton]; omega)
    have hE2 := snap_more hnS m
    rw [hE2] at hL2
    refine RCG (dst := some 52) .a (hL2) (GV (GV (GI []) 10 view_ro) 14 view_row) ?_
    rintro v _ ⟨x, hx1, hx2, rfl, rfl⟩
    have hz2 := zero_same x hx2 (by rw [hx1]; exact loadS_bad (by rw [hE2]; decide))
    rw [show svC x = [.int .i64 x.pos, .int .i64 x.st, .int .i64 x.fa, .slice x.ca x.cl.length x.cc, .slice x.ha x.hl.length x.hc, .string (mkS x.out), .int .i64 x.rd] from rfl]
    rw [show svH x = [row 124 5 x.ca x.cl.length x.cc (x.cl.flatMap clC), star (x.cl.flatMap clRows), row 43 2 x.ha x.hl.length x.hc (x.hl.flatMap objC), star (x.hl.map obRow)] from rfl]
    refine RP [] (.d (.d (.d (.d .a)))) 11 (.i 54 (.int .i64 5) (.i 53 (.agg #[.int .i64 x.pos, .int .i64 x.st, .int .i64 x.fa, .slice x.ca x.cl.length x.cc, .slice x.ha x.hl.length x.hc, .string (mkS x.out), .int .i64 x.rd]) (.d (.d (.d (.d (.k .a))))))) .a 75 [.int .i64 0, .int .i64 0, .int .i64 0, .slice none 0 0, .slice none 0 0, .string ⟨#[]⟩, .int .i64 0] fun g5 => ?_
    refine RR [20, 20, 20, 20, 20, 20, 20] .z (.i 12 (.int .i64 5) (.k (.d (.d (.k .a))))) (.k (.k (.k (.k (.k (.k (.k (.k (.k (.k (.k (.k (.k (.k (.k (.k (.k (.k (.k (.k (.u (.i (.int .i64 x.pos) (.i (.int .i64 x.st) (.i (.int .i64 x.fa) (.i (.slice x.ca x.cl.length x.cc) (.i (.slice x.ha x.hl.length x.hc) (.i (.string (mkS x.out)) (.i (.int .i64 x.rd) .z))))))) .a))))))))))))))))))))) ?_
    refine RZ (NT (SQ (RG ?_)))
    refine RR [17, 17, 17, 17, 17, 17, 17] (.d (.d .a)) (.i 56 (.agg #[.int .i64 0, .int .i64 0, .int .i64 0, .slice none 0 0, .slice none 0 0, .string ⟨#[]⟩, .int .i64 0]) (.i 55 (.agg #[.int .i64 u.pos, .int .i64 u.st, .int .i64 u.fa, .slice u.ca u.cl.length u.cc, .slice u.ha u.hl.length u.hc, .string (mkS u.out), .int .i64 u.rd]) (.k (.k (.k (.d (.k .a))))))) .a ?_
    refine wpr_ent (Ent.trans ent_bag_nil (Ent.trans ent_roz (Ent.trans ent_bag_nil ent_roz))) ?_
    refine RCG (dst := some 57) .a (hz1) (GV (GV (GV (GV (GV (GV (GV (GV (GI []) 1 view_self) 0 view_ro) 1 view_self) 0 view_ro) 11 view_gBag) 10 view_row) 9 view_gCl) 8 view_row) ?_
    rintro v _ ⟨rfl, rfl⟩
    refine RR [24, 24, 24, 24, 24, 24, 24] (.d (.d (.d (.d (.d (.d (.d .a))))))) (.i 64 (.agg #[.int .i64 0, .int .i64 0, .int .i64 0, .slice none 0 0, .slice none 0 0, .string ⟨#[]⟩, .int .i64 0]) (.i 63 (.agg #[.int .i64 x.pos, .int .i64 x.st, .int .i64 x.fa, .slice x.ca x.cl.length x.cc, .slice x.ha x.hl.length x.hc, .string (mkS x.out), .int .i64 x.rd]) (.i 62 (.bool true) (.d (.d (.d (.k (.d (.d (.k .a)))))))))) .a ?_
    refine wpr_ent (Ent.trans ent_bag_nil (Ent.trans ent_roz (Ent.trans ent_bag_nil ent_roz))) ?_
    refine RCG (dst := some 65) .a (hz2) (GV (GV (GV (GV (GV (GV (GV (GV (GI []) 1 view_self) 0 view_ro) 1 view_self) 0 view_ro) 11 view_gBag) 10 view_row) 9 view_gCl) 8 view_row) ?_
    rintro v _ ⟨rfl, rfl⟩
    refine RR [] (.d (.d (.d (.d (.d (.d .a)))))) (.i 71 (.bool true) (.d (.d (.d (.d (.d (.k .a))))))) .a ?_
    refine RCG (dst := some 72) .a (hlv) (GV (GI []) 22 view_ro) ?_
    rintro v _ ⟨rfl, rfl⟩
    refine RR [] .z (.i 6 (.bool true) .z) .a ?_
    refine RZ (NT (RE ?_))
    refine NE [] .z .a [] (.bool true) ?_
    exact ⟨rfl, rfl⟩
  · rw [if_neg hm] at hv
    obtain ⟨rfl, rfl⟩ := hv
    refine RR [] .z (.i 8 (.int .i64 2) (.i 7 (.slice none 0 0) (.d (.d (.k .a))))) .a ?_
    refine RZ (NT (SQ (SQ (RG ?_))))
    refine RR [] .z (.i 23 (.bool true) .a) .a ?_
    refine RZ (NT (CT (SQ (RG ?_))))
    refine RR [] (.d (.d (.d .a))) (.i 26 (.bool true) (.d (.d (.k .a)))) .a ?_
    refine RCG (dst := some 27) .a (hlv) (GV (GI []) 4 view_ro) ?_
    rintro v _ ⟨rfl, rfl⟩
    refine RR [] .z (.i 6 (.bool true) (.d (.d (.k (.d (.k .a)))))) .a ?_
    refine RZ (NT (RE (TR ?_)))
    refine NE [] .z .a [] (.bool true) ?_
    exact ⟨rfl, rfl⟩
end Go.Proofs.YtpfhleghgkeemaaGreatDoor
namespace Go.Proofs.YtpfhleghgkeemaaGreatDoor
open Go Go.Sx
/-! What comes in, of SnapReads, SnapBack, SnapCut, SnapApart. -/
theorem opens_u8s : Opens Tryz.prog 77 1 (sliceS (intS .u8)) := opens_slice Tryz.underlying77 (by kernel_rfl) (opens_int Tryz.underlying5 (by kernel_rfl))
def toB (l : List Int) : List UInt8 := l.map fun n => UInt8.ofNat n.toNat
theorem wf_u8 {n : Int} (h1 : (Lit.int .u8 n).wf = true) : ((UInt8.ofNat n.toNat).toNat : Int) = n := by
  simp [Lit.wf, IntKind.min, IntKind.max, IntKind.signed, IntKind.bits] at h1
  rw [UInt8.toNat_ofNat']; omega
theorem toB_flat : ∀ (l : List Int), (∀ n ∈ l, (intS .u8).V n) → l.flatMap (intS .u8).C = u8s (toB l)
  | [], _ => rfl
  | n :: l, h => by
    have h2 := wf_u8 (h n (List.mem_cons_self ..))
    have ih := toB_flat l (fun m hm => h m (List.mem_cons_of_mem _ hm))
    rw [List.flatMap_cons, ih]
    show [Value.int .u8 n] ++ u8s (toB l) = Value.int .u8 ((UInt8.ofNat n.toNat).toNat : Int) :: u8s (toB l)
    rw [h2]; rfl
theorem toB_len (l : List Int) : (toB l).length = l.length := List.length_map ..
theorem does_ro {P : Program} {f : FuncId} {args : List Value} {pre pre' : Hp} {R : Value → Hp → Prop} (h : Does P f args pre R) (hold : ∀ w, HS pre' w → ∀ c ∈ pre, c.holds w) (hn : ∀ c ∈ pre, ¬ c.rw) : Does P f args pre' R :=
  h.pre (fun w hw => Go.Sx.hs_ro (hold w hw) hn) (fun k ⟨d, hd, hr, _⟩ => (hn d hd hr).elim)
theorem bytes_hold {x : Sl Int} (hV : (sliceS (intS .u8)).V x) {w : World} (h : (deep (sliceS (intS .u8)) x).holds w) : (ro x.1 (u8s (toB x.2.2))).holds w := by
  have h3 := view_flat.holds w h
  rwa [toB_flat x.2.2 hV.2.2.2] at h3
theorem bytes_len {x : Sl Int} (hB : (sliceS (intS .u8)).B x ≤ 1048576) : x.2.2.length ≤ 1048576 := by
  have hl2 := le_sumB (intS .u8) (fun _ => Nat.le_refl 1) x.2.2
  have hb : (sliceS (intS .u8)).B x = sumB (intS .u8) x.2.2 + 1 := rfl
  omega
theorem SnapReads_in (x0 : Sl Int) (hV : (sliceS (intS .u8)).V x0) (hB : (sliceS (intS .u8)).B x0 ≤ 1048576) :
    Does Tryz.prog 11 [.slice x0.1 x0.2.2.length x0.2.1] [deep (sliceS (intS .u8)) x0, gWords, gPow] (fun v hp' => v = .bool true ∧ hp' = []) := by
  have hl := bytes_len hB
  have h := SnapReads_spec x0.1 x0.2.1 (toB x0.2.2) (fun e => by rw [hV.1 e]; rfl) (by rw [toB_len]; omega) (by rw [toB_len]; exact hV.2.1)
  rw [toB_len] at h
  refine does_ro h (fun w hw c hc => ?_) (fun c hc => ?_)
  · simp only [List.mem_cons, List.not_mem_nil, or_false] at hc
    rcases hc with rfl | rfl | rfl
    · exact bytes_hold hV (hw.holds (deep (sliceS (intS .u8)) x0) (by simp))
    · exact hw.holds gWords (by simp)
    · exact hw.holds gPow (by simp)
  · simp only [List.mem_cons, List.not_mem_nil, or_false] at hc
    rcases hc with rfl | rfl | rfl <;> exact fun h => h
theorem SnapBack_in (x0 : St2) (x1 : Sl Int) (hV : stS.V x0) (hB : stS.B x0 ≤ 1048576) (hV1 : (sliceS (intS .u8)).V x1) (hB1 : (sliceS (intS .u8)).B x1 ≤ 1048576) :
    Does Tryz.prog 12 [.agg (stS.C x0).toArray, .slice x1.1 x1.2.2.length x1.2.1] [deep stS x0, deep (sliceS (intS .u8)) x1, gWords, gPow] (fun v hp' => v = .bool true ∧ hp' = []) := by
  obtain ⟨h1, h2⟩ := st_ok hV hB
  have hl := bytes_len hB1
  have h := SnapBack_spec (toSv x0) h1 (by omega) x1.1 x1.2.1 (toB x1.2.2) (fun e => by rw [hV1.1 e]; rfl) (by rw [toB_len]; omega)
  rw [toB_len] at h
  rw [stS_C]
  refine does_ro h (fun w hw c hc => ?_) (fun c hc => ?_)
  · obtain ⟨h3, h4, h5, h6⟩ := st_hold (hw.holds (deep stS x0) (by simp))
    simp only [List.mem_cons, List.not_mem_nil, or_false] at hc
    rcases hc with rfl | rfl | rfl | rfl | rfl | rfl | rfl
    · exact h3
    · exact h4
    · exact h5
    · exact h6
    · exact bytes_hold hV1 (hw.holds (deep (sliceS (intS .u8)) x1) (by simp))
    · exact hw.holds gWords (by simp)
    · exact hw.holds gPow (by simp)
  · simp only [List.mem_cons, List.not_mem_nil, or_false] at hc
    rcases hc with rfl | rfl | rfl | rfl | rfl | rfl | rfl <;> exact fun h => h
theorem SnapCut_in (x0 : St2) (x1 x2 : Int) (hV : stS.V x0) (hB : stS.B x0 ≤ 1048576) (hV1 : (intS .i64).V x1) (hV2 : (intS .u8).V x2) :
    Does Tryz.prog 13 [.agg (stS.C x0).toArray, .int .i64 x1, .int .u8 x2] [deep stS x0, deep (intS .i64) x1, deep (intS .u8) x2, gWords, gPow] (fun v hp' => v = .bool true ∧ hp' = []) := by
  obtain ⟨h1, h2⟩ := st_ok hV hB
  have h := SnapCut_spec (toSv x0) h1 (by omega) x1 (wf_i64 hV1) (UInt8.ofNat x2.toNat)
  rw [wf_u8 hV2] at h
  rw [stS_C]
  refine does_ro h (fun w hw c hc => ?_) (fun c hc => ?_)
  · obtain ⟨h3, h4, h5, h6⟩ := st_hold (hw.holds (deep stS x0) (by simp))
    simp only [List.mem_cons, List.not_mem_nil, or_false] at hc
    rcases hc with rfl | rfl | rfl | rfl | rfl | rfl
    · exact h3
    · exact h4
    · exact h5
    · exact h6
    · exact hw.holds gWords (by simp)
    · exact hw.holds gPow (by simp)
  · simp only [List.mem_cons, List.not_mem_nil, or_false] at hc
    rcases hc with rfl | rfl | rfl | rfl | rfl | rfl <;> exact fun h => h
theorem SnapApart_in (x0 x1 : St2) (hV : stS.V x0) (hB : stS.B x0 ≤ 1048576) (hV1 : stS.V x1) (hB1 : stS.B x1 ≤ 1048576) :
    Does Tryz.prog 14 [.agg (stS.C x0).toArray, .agg (stS.C x1).toArray] [deep stS x0, deep stS x1, gWords, gPow] (fun v hp' => v = .bool true ∧ hp' = []) := by
  obtain ⟨h1, h2⟩ := st_ok hV hB
  obtain ⟨g1, g2⟩ := st_ok hV1 hB1
  have h := SnapApart_spec (toSv x0) h1 (by omega) (toSv x1) g1 (by omega)
  rw [stS_C, stS_C]
  refine does_ro h (fun w hw c hc => ?_) (fun c hc => ?_)
  · obtain ⟨h3, h4, h5, h6⟩ := st_hold (hw.holds (deep stS x0) (by simp))
    obtain ⟨k3, k4, k5, k6⟩ := st_hold (hw.holds (deep stS x1) (by simp))
    simp only [List.mem_cons, List.not_mem_nil, or_false] at hc
    rcases hc with rfl | rfl | rfl | rfl | rfl | rfl | rfl | rfl | rfl | rfl
    · exact h3
    · exact h4
    · exact h5
    · exact h6
    · exact k3
    · exact k4
    · exact k5
    · exact k6
    · exact hw.holds gWords (by simp)
    · exact hw.holds gPow (by simp)
  · simp only [List.mem_cons, List.not_mem_nil, or_false] at hc
    rcases hc with rfl | rfl | rfl | rfl | rfl | rfl | rfl | rfl | rfl | rfl <;> exact fun h => h
end Go.Proofs.YtpfhleghgkeemaaGreatDoor
