import Derived.Lib.LaidTab
import Derived.Stop.LaidErr
import Derived.Test.YtgcfomhlgipllaaGreatDoorCc5
set_option linter.unusedVariables false
set_option linter.unusedSimpArgs false
namespace Go.Proofs.YtgcfomhlgipllaaGreatDoor
open Go Go.Sx
def shRows (x : ShV) : Hp := [row 9 1 x.fa x.fields.length x.fc (strsC x.fields)]
def unRows (x : UnV) : Hp := [row 62 2 x.ia x.ins.length x.ic (x.ins.flatMap insC), row 116 4 x.va x.vars.length x.vc (x.vars.flatMap varC)]
theorem ins1 (x : InP) : Sx.One (insC x) := by
 intro v hv
 simp only [insC, List.mem_cons, List.not_mem_nil, or_false] at hv
 rcases hv with rfl | rfl <;> rfl
theorem var1 (x : VarP) : Sx.One (varC x) := by
 intro v hv
 simp only [varC, List.mem_cons, List.not_mem_nil, or_false] at hv
 rcases hv with rfl | rfl | rfl | rfl <;> rfl
theorem sh1 (x : ShV) : Sx.One (shC x) := by
 intro v hv
 simp only [shC, List.mem_cons, List.not_mem_nil, or_false] at hv
 rcases hv with rfl | rfl <;> rfl
theorem un1 (u : UnV) : Sx.One (unC u) := unC_one u
theorem str1 (t : Tx) : Sx.One [.string (mkS t)] := by
 intro v hv
 rw [List.mem_singleton.1 hv]; rfl
theorem goes_rTx (s : List UInt8) : Goes s (rTx s) := codec_rTx.goes s
theorem goes_rIn (s : List UInt8) : Goes s (rIn s) := codec_rIn.goes s
theorem goes_rVr (s : List UInt8) : Goes s (rVr s) := codec_rVr.goes s
theorem goes_rSh (s : List UInt8) : Goes s (rSh s) := codec_rSh.goes s
theorem goes_rU (s : List UInt8) : Goes s (rU s) := codec_rU.goes s
theorem ctext_spec (r A : Nat) (s : List UInt8) (e : Int) (hA : A ≤ s.length) (hl : s.length ≤ 1099511627776) :
  Does Tryz.prog 59 [.pointer (some ⟨r, 0, none⟩)] [rdr r s A e] (fun v hp' => v = .string (mkS (rTx s (A, e)).1) ∧ hp' = [rdr r s (rTx s (A, e)).2.1 (rTx s (A, e)).2.2]) := by
 refine fn_enter Tryz.func59 rfl 5 rfl fun w0 h0 => ?_
 refine SQ (RG ?_)
 refine RR [] .z (.i 2 (.string ⟨#[]⟩) .a) (.i (.blk r 184 [.bool true, .string (mkS s), .int .i64 (↑A : Int), .int .i64 e]) .z) ?_
 refine RZ (NT (SQ (RG ?_)))
 refine RR [] (.d .a) (.i 3 (.pointer (some ⟨r, 0, none⟩)) (.k .z)) .a ?_
 refine RCA (dst := some 4) (Text_spec r A s e 255 hA hl) ?_
 rintro v _ ⟨rfl, rfl⟩
 obtain ⟨⟨t, A1, e1⟩, hx⟩ : ∃ x, x = rTx s (A, e) := ⟨_, rfl⟩
 have hx2 : rd [] A e (txW (s.drop A) 255) = (t, A1, e1) := hx.symm
 rw [← hx, hx2]
 dsimp only
 refine RR [] .z (.i 2 (.string (mkS t)) .z) (.i (.blk r 184 [.bool true, .string (mkS s), .int .i64 (↑A1 : Int), .int .i64 e1]) .z) ?_
 refine RZ (NT (RE ?_))
 refine NE [0] .a .z [] (.string (mkS t)) ?_
 exact ⟨rfl, rfl⟩
theorem rowT_spec (r A : Nat) (s : List UInt8) (e : Int) (hA : A ≤ s.length) (hl : s.length ≤ 1099511627776) :
  Does Tryz.prog 58 [.pointer (some ⟨r, 0, none⟩), .func (.func 59) #[] #[]] [rdr r s A e]
   (fun v hp' => ∃ a c, v = .slice a (rRows s (rTx s) (A, e)).1.length c ∧ hp' = [row 9 1 a (rRows s (rTx s) (A, e)).1.length c (strsC (rRows s (rTx s) (A, e)).1), rdr r s (rRows s (rTx s) (A, e)).2.1 (rRows s (rTx s) (A, e)).2.2]) := by
 obtain ⟨g1, g2, -, -⟩ := goes_rC s 1048576 (A, e) hA
 unfold rRows
 refine fn_enter Tryz.func58 rfl 25 rfl fun w0 h0 => ?_
 refine SQ (RG ?_)
 refine RR [] .z (.i 4 (.slice none 0 0) .a) (.i (.blk r 184 [.bool true, .string (mkS s), .int .i64 (↑A : Int), .int .i64 e]) .z) ?_
 refine RZ (NT (SQ (RG ?_)))
 refine RR [] .z (.i 5 (.slice none 0 0) .a) .a ?_
 refine RZ (NT (SQ (SQ (RG ?_))))
 refine RR [] (.d .a) (.i 7 (.pointer (some ⟨r, 0, none⟩)) .a) .a ?_
 refine RCA (dst := some 8) (RdCount_spec r A s e 1048576 hA hl) ?_
 rintro v _ ⟨rfl, rfl⟩
 obtain ⟨⟨k, A1, e1⟩, hx⟩ : ∃ x, x = rC s 1048576 (A, e) := ⟨_, rfl⟩
 have hx2 : rd 0 A e (cnt (s.drop A) 1048576) = (k, A1, e1) := hx.symm
 rw [← hx] at g1 g2 ⊢
 rw [hx2]
 dsimp only at g1 g2 ⊢
 have hk := rC_rng s (A, e)
 rw [← hx] at hk
 dsimp only at hk
 obtain ⟨n, rfl⟩ := Int.eq_ofNat_of_zero_le hk.1
 obtain ⟨⟨L, A9, e9⟩, ht⟩ : ∃ x, x = rMany (rTx s) (n : Int).toNat (A1, e1) := ⟨_, rfl⟩
 rw [← ht]
 rw [Int.toNat_natCast] at ht
 have hln := many_len (goes_rTx s) n (A1, e1) g2
 rw [← ht] at hln
 dsimp only at hln ⊢
 refine RR [] .z (.i 6 (.int .i64 (↑n : Int)) (.d (.d (.k .a)))) (.i (.blk r 184 [.bool true, .string (mkS s), .int .i64 (↑A1 : Int), .int .i64 e1]) .z) ?_
 refine RZ (NT (BK ?_))
 refine wpc_loop (X := {x : Nat × Option Addr × Nat × List Tx × Nat × Int // x.1 ≤ n ∧ x.2.2.2.2.1 ≤ s.length ∧ L = x.2.2.2.1 ++ (rMany (rTx s) x.1 x.2.2.2.2).1 ∧ (A9, e9) = (rMany (rTx s) x.1 x.2.2.2.2).2}) (fun x => St.mk [(6, .int .i64 (x.1.1 : Int)), (5, .slice x.1.2.1 x.1.2.2.2.1.length x.1.2.2.1), (4, .slice none 0 0), (0, .pointer (some ⟨r, 0, none⟩)), (1, .func (.func 59) #[] #[])]
  [row 9 1 x.1.2.1 x.1.2.2.2.1.length x.1.2.2.1 (strsC x.1.2.2.2.1), rdr r s x.1.2.2.2.2.1 x.1.2.2.2.2.2]) (fun x => x.1.1) ⟨(n, none, 0, [], A1, e1), Nat.le_refl _, g2, by rw [← ht]; rfl, by rw [← ht]⟩ ?_ ?_
 ·exact Ent.trans (ent_nil 9 1) (ent_fr (by kernel_rfl))
 rintro ⟨⟨k, a1, c1, l1, A2, e2⟩, hkn, hA2, hL, hp⟩
 dsimp only at hkn hA2 hL hp ⊢
 have hll : l1.length ≤ 1048576 := by
  have := congrArg List.length hL
  rw [List.length_append] at this
  omega
 cases k with
 | zero =>
  rw [show rMany (rTx s) 0 (A2, e2) = ([], A2, e2) from rfl] at hL hp
  cases hp
  rw [List.append_nil] at hL
  subst hL
  refine SQ (SQ (RG ?_))
  refine RR [] .z (.i 15 (.bool false) (.i 6 (.int .i64 0) (.d (.k .a)))) (.k (.i (.blk r 184 [.bool true, .string (mkS s), .int .i64 (↑A9 : Int), .int .i64 e9]) .z)) ?_
  refine RZ (NT (CF (EX (TE (TE (BH (NT (SQ (RG ?_)))))))))
  refine RR [] .z (.i 4 (.slice a1 L.length c1) .z) .a ?_
  refine RZ (NT (RE ?_))
  refine NE [0, 0] .a .z [] (.slice a1 L.length c1) ?_
  exact ⟨a1, c1, rfl, rfl⟩
 | succ k =>
  by_cases he : e2 = 0
  ·subst he
   rw [rMany_succ _ _ _ rfl] at hL hp
   have hg := goes_rTx s (A2, 0) hA2
   refine SQ (SQ (RG ?_))
   refine RR [] (.d (.d (.d .a))) (.i 11 (.bool (decide ((↑(k + (1 : Nat)) : Int) > (0 : Int)))) .a) (.k (.i (.blk r 184 [.bool true, .string (mkS s), .int .i64 (↑A2 : Int), .int .i64 0]) .z)) ?_
   refine SR 11 (decide ((↑(k + (1 : Nat)) : Int) > (0 : Int))) true (by simp) ?_
   refine RR [] (.d .a) (.i 12 (.pointer (some ⟨r, 0, none⟩)) (.k (.d (.k .a)))) .a ?_
   refine RC (dst := some 13) [1] (.k .z) (Err_spec r s A2 0) ?_
   rintro v _ ⟨rfl, rfl⟩
   refine RR [] .z (.i 15 (.bool true) (.d (.d (.d (.k .a))))) (.i (.blk r 184 [.bool true, .string (mkS s), .int .i64 (↑A2 : Int), .int .i64 0]) (.d (.k .a))) ?_
   refine RZ (NT (CT (SK (NT (SQ (BK (RG ?_)))))))
   refine RR [] (.d (.d (.d .a))) (.i 20 (.pointer (some ⟨r, 0, none⟩)) (.i 19 (Value.func (Fn.func 59) #[] #[]) (.i 18 (.slice a1 l1.length c1) (.d (.k .a))))) .a ?_
   refine wpr_callv (dst := some 21) (rest := [row 9 1 a1 l1.length c1 (strsC l1)]) (first := (#[])) (caps := (#[])) (args := [.pointer (some ⟨r, 0, none⟩)]) (f := 59) (by kernel_rfl) (by kernel_rfl) (ctext_spec r A2 s 0 hA2 hl) (give [0] (by kernel_rfl)) ?_
   rintro v _ ⟨rfl, rfl⟩
   obtain ⟨⟨v, A3, e3⟩, hv⟩ : ∃ x, x = rTx s (A2, 0) := ⟨_, rfl⟩
   rw [← hv] at hg hL hp ⊢
   dsimp only at hg hL hp ⊢
   refine RN [] (.d .a) 22 (fun g3 => (.slice (some ⟨g3, 0, none⟩) 1 1)) (.d (.d (.d (.k .a)))) (.i (.blk r 184 [.bool true, .string (mkS s), .int .i64 (↑A3 : Int), .int .i64 e3]) (.d (.k .a))) 9 [.string (mkS v)] fun g3 => ?_
   refine wpr_ent (ent_turn 2 (ro (some ⟨g3, 0, none⟩) ([.string (mkS v)])) rfl (turn_rblk (str1 _)) rfl) ?_
   refine wpr_app (a := a1) (n := l1.length) (cap := c1) (x := (.slice (some ⟨g3, 0, none⟩) 1 1)) (t := 22) (xt := 22) (dst := some 23) (by kernel_rfl) (e := 9) (sz := 1) (bytes := 16) (by kernel_rfl) 1 (xs := (strsC l1)) (by kernel_rfl) (m := 1) (news := ([.string (mkS v)])) (fun w h => src_ro h 2 rfl rfl (fun e => by cases e)) (by unfold maxLen; omega) (by omega) ?_
   intro a3 c3 hn3
   rw [show l1.length + 1 = (l1 ++ [v]).length by simp, show strsC l1 ++ [.string (mkS v)] = strsC (l1 ++ [v]) by simp [strsC]]
   refine RR [] .z (.i 5 (.slice a3 (l1 ++ [v]).length c3) (.d (.d (.d (.k (.d (.k .a))))))) .a ?_
   refine RZ (BN (NT (RG ?_)))
   refine RV true [] .z (.i 6 (.int .i64 ((↑(k + 1) : Int) - 1)) (.k (.d (.k .a)))) .a ([inI64 ((↑(k + (1 : Nat)) : Int) - (1 : Int))]) ⟨by unfold inI64; omega, trivial⟩ ?_
   refine RZ ?_
   rw [show ((k + 1 : Nat) : Int) - 1 = (k : Int) from by omega]
   exact fun a' w' hS' => ⟨⟨(k, a3, c3, l1 ++ [v], A3, e3), by dsimp only; omega, hg.2.1, by rw [hL, List.append_assoc]; rfl, hp⟩, by dsimp only; omega, ent_fr (by kernel_rfl) _ _ (ent_hp [1, 0] rfl _ _ hS')⟩
  ·rw [rMany_nil _ _ _ he] at hL hp
   cases hp
   rw [List.append_nil] at hL
   subst hL
   refine SQ (SQ (RG ?_))
   refine RR [] (.d (.d (.d .a))) (.i 11 (.bool (decide ((↑(k + (1 : Nat)) : Int) > (0 : Int)))) .a) (.k (.i (.blk r 184 [.bool true, .string (mkS s), .int .i64 (↑A9 : Int), .int .i64 e9]) .z)) ?_
   refine SR 11 (decide ((↑(k + (1 : Nat)) : Int) > (0 : Int))) true (by simp) ?_
   refine RR [] (.d .a) (.i 12 (.pointer (some ⟨r, 0, none⟩)) (.k (.d (.k .a)))) .a ?_
   refine RC (dst := some 13) [1] (.k .z) (Err_spec r s A9 e9) ?_
   rintro v _ ⟨rfl, rfl⟩
   refine RR [] .z (.i 15 (.bool (e9 == (0 : Int))) (.d (.d (.d (.k .a))))) (.i (.blk r 184 [.bool true, .string (mkS s), .int .i64 (↑A9 : Int), .int .i64 e9]) (.d (.k .a))) ?_
   refine RZ (NT ?_)
   refine SC 15 (e9 == (0 : Int)) false (by simp only [bne_eq_false_iff_eq, beq_eq_false_iff_ne, ne_eq]; omega) ?_
   refine CF (EX (TE (TE (BH (NT (SQ (RG ?_)))))))
   refine RR [] .z (.i 4 (.slice a1 L.length c1) .z) .a ?_
   refine RZ (NT (RE ?_))
   refine NE [1, 0] (.i (row 9 1 a1 L.length c1 (strsC L)) (.k .z)) .z [] (.slice a1 L.length c1) ?_
   exact ⟨a1, c1, rfl, rfl⟩
theorem readSh_spec (r A : Nat) (s : List UInt8) (e : Int) (hA : A ≤ s.length) (hl : s.length ≤ 1099511627776) :
  Does Tryz.prog 61 [.pointer (some ⟨r, 0, none⟩)] [rdr r s A e] (fun v hp' => ∃ o : ShV, o.p = (rSh s (A, e)).1 ∧ v = .agg #[.string (mkS o.name), .slice o.fa o.fields.length o.fc] ∧ hp' = [rdr r s (rSh s (A, e)).2.1 (rSh s (A, e)).2.2] ++ shRows o) := by
 unfold rSh sq
 dsimp only
 refine fn_enter Tryz.func61 rfl 8 rfl fun w0 h0 => ?_
 refine SQ (RG ?_)
 refine RP [] .z 2 .a (.i (.blk r 184 [.bool true, .string (mkS s), .int .i64 (↑A : Int), .int .i64 e]) .z) 111 [.string ⟨#[]⟩, .slice none 0 0] fun g1 => ?_
 refine RZ (NT (SQ (RG ?_)))
 refine RR [] (.d .a) (.i 3 (.pointer (some ⟨r, 0, none⟩)) .a) .a ?_
 have ht := goes_rTx s (A, e) hA
 refine RC (dst := some 4) [0] (.d (.k .a)) (ctext_spec r A s e hA hl) ?_
 rintro v _ ⟨rfl, rfl⟩
 obtain ⟨⟨t, At, et⟩, hxt⟩ : ∃ y, y = rTx s (A, e) := ⟨_, rfl⟩
 rw [← hxt] at ht ⊢
 dsimp only at ht ⊢
 refine RR [] (.d .a) (.i 5 (.pointer (some ⟨r, 0, none⟩)) (.k (.d (.k .z)))) (.i (.blk r 184 [.bool true, .string (mkS s), .int .i64 (↑At : Int), .int .i64 et]) (.d (.k .a))) ?_
 refine RC (dst := some 6) [0] (.d (.k .a)) (rowT_spec r At s et ht.2.1 hl) ?_
 rintro v _ ⟨a1, c1, rfl, rfl⟩
 rw [show rRows s (rTx s) (At, et) = rTs s (At, et) from rfl]
 obtain ⟨⟨l, A2, e2⟩, hy⟩ : ∃ x, x = rTs s (At, et) := ⟨_, rfl⟩
 rw [← hy]
 dsimp only
 refine RR [2, 2] .z (.d (.d (.d (.k .a)))) (.k (.i (.blk r 184 [.bool true, .string (mkS s), .int .i64 (↑A2 : Int), .int .i64 e2]) (.i (.blk g1 111 [.string (mkS t), .slice a1 l.length c1]) .z))) ?_
 refine RZ (NT (RE ?_))
 refine NE [1, 0] (.i (.blk r 184 [.bool true, .string (mkS s), .int .i64 (↑A2 : Int), .int .i64 e2]) (.k .z)) (.d (.d (.k .a))) [2, 2] (.agg #[.string (mkS t), .slice a1 l.length c1]) ?_
 exact ⟨⟨t, a1, c1, l⟩, rfl, rfl, rfl⟩
theorem readIn_spec (r A : Nat) (s : List UInt8) (e : Int) (hA : A ≤ s.length) (hl : s.length ≤ 1099511627776) :
  Does Tryz.prog 114 [.pointer (some ⟨r, 0, none⟩)] [rdr r s A e] (fun v hp' => v = .agg (insC (rIn s (A, e)).1).toArray ∧ hp' = [rdr r s (rIn s (A, e)).2.1 (rIn s (A, e)).2.2]) := by
 unfold rIn sq
 dsimp only
 refine fn_enter Tryz.func114 rfl 8 rfl fun w0 h0 => ?_
 refine SQ (RG ?_)
 refine RP [] .z 2 .a (.i (.blk r 184 [.bool true, .string (mkS s), .int .i64 (↑A : Int), .int .i64 e]) .z) 62 [.int .i64 0, .int .i64 0] fun g1 => ?_
 refine RZ (NT (SQ (RG ?_)))
 refine RR [] (.d .a) (.i 3 (.pointer (some ⟨r, 0, none⟩)) .a) .a ?_
 have ho := goes_rI s (A, e) hA
 refine RC (dst := some 4) [0] (.d (.k .a)) (Int_spec r A s e hA hl) ?_
 rintro v _ ⟨rfl, rfl⟩
 obtain ⟨⟨o, Ao, eo⟩, hxo⟩ : ∃ y, y = rI s (A, e) := ⟨_, rfl⟩
 have hyo : rd 0 A e (num (s.drop A)) = (o, Ao, eo) := hxo.symm
 rw [← hxo] at ho ⊢
 rw [hyo]
 dsimp only at ho ⊢
 refine RR [] (.d .a) (.i 5 (.pointer (some ⟨r, 0, none⟩)) (.k (.d (.k .z)))) (.i (.blk r 184 [.bool true, .string (mkS s), .int .i64 (↑Ao : Int), .int .i64 eo]) (.d (.k .a))) ?_
 have ha := goes_rI s (Ao, eo) ho.2.1
 refine RC (dst := some 6) [0] (.d (.k .a)) (Int_spec r Ao s eo ho.2.1 hl) ?_
 rintro v _ ⟨rfl, rfl⟩
 obtain ⟨⟨a, Aa, ea⟩, hxa⟩ : ∃ y, y = rI s (Ao, eo) := ⟨_, rfl⟩
 have hya : rd 0 Ao eo (num (s.drop Ao)) = (a, Aa, ea) := hxa.symm
 rw [← hxa] at ha ⊢
 rw [hya]
 dsimp only at ha ⊢
 refine RR [1, 1] .z (.d (.d (.d (.k .a)))) (.i (.blk r 184 [.bool true, .string (mkS s), .int .i64 (↑Aa : Int), .int .i64 ea]) (.i (.blk g1 62 [.int .i64 o, .int .i64 a]) .z)) ?_
 refine RZ (NT (RE ?_))
 refine NE [0] (.k .z) (.d (.k .a)) [1, 1] (.agg #[.int .i64 o, .int .i64 a]) ?_
 exact ⟨rfl, rfl⟩
theorem readVr_spec (r A : Nat) (s : List UInt8) (e : Int) (hA : A ≤ s.length) (hl : s.length ≤ 1099511627776) :
  Does Tryz.prog 116 [.pointer (some ⟨r, 0, none⟩)] [rdr r s A e] (fun v hp' => v = .agg (varC (rVr s (A, e)).1).toArray ∧ hp' = [rdr r s (rVr s (A, e)).2.1 (rVr s (A, e)).2.2]) := by
 unfold rVr
 dsimp only
 refine fn_enter Tryz.func116 rfl 12 rfl fun w0 h0 => ?_
 refine SQ (RG ?_)
 refine RP [] .z 2 .a (.i (.blk r 184 [.bool true, .string (mkS s), .int .i64 (↑A : Int), .int .i64 e]) .z) 116 [.string ⟨#[]⟩, .int .i64 0, .int .i64 0, .int .i64 0] fun g1 => ?_
 refine RZ (NT (SQ (RG ?_)))
 refine RR [] (.d .a) (.i 3 (.pointer (some ⟨r, 0, none⟩)) .a) .a ?_
 have ht := goes_rTx s (A, e) hA
 refine RC (dst := some 4) [0] (.d (.k .a)) (ctext_spec r A s e hA hl) ?_
 rintro v _ ⟨rfl, rfl⟩
 obtain ⟨⟨t, At, et⟩, hxt⟩ : ∃ y, y = rTx s (A, e) := ⟨_, rfl⟩
 rw [← hxt] at ht ⊢
 dsimp only at ht ⊢
 refine RR [] (.d .a) (.i 5 (.pointer (some ⟨r, 0, none⟩)) (.k (.d (.k .a)))) (.i (.blk r 184 [.bool true, .string (mkS s), .int .i64 (↑At : Int), .int .i64 et]) (.d (.k .a))) ?_
 have ho := goes_rI s (At, et) ht.2.1
 refine RC (dst := some 6) [0] (.d (.k .a)) (Int_spec r At s et ht.2.1 hl) ?_
 rintro v _ ⟨rfl, rfl⟩
 obtain ⟨⟨o, Ao, eo⟩, hxo⟩ : ∃ y, y = rI s (At, et) := ⟨_, rfl⟩
 have hyo : rd 0 At et (num (s.drop At)) = (o, Ao, eo) := hxo.symm
 rw [← hxo] at ho ⊢
 rw [hyo]
 dsimp only at ho ⊢
 refine RR [] (.d .a) (.i 7 (.pointer (some ⟨r, 0, none⟩)) (.k (.d (.k .a)))) (.i (.blk r 184 [.bool true, .string (mkS s), .int .i64 (↑Ao : Int), .int .i64 eo]) (.d (.k .a))) ?_
 have hf := goes_rI s (Ao, eo) ho.2.1
 refine RC (dst := some 8) [0] (.d (.k .a)) (Int_spec r Ao s eo ho.2.1 hl) ?_
 rintro v _ ⟨rfl, rfl⟩
 obtain ⟨⟨f, Af, ef⟩, hxf⟩ : ∃ y, y = rI s (Ao, eo) := ⟨_, rfl⟩
 have hyf : rd 0 Ao eo (num (s.drop Ao)) = (f, Af, ef) := hxf.symm
 rw [← hxf] at hf ⊢
 rw [hyf]
 dsimp only at hf ⊢
 refine RR [] (.d .a) (.i 9 (.pointer (some ⟨r, 0, none⟩)) (.k (.d (.k (.k (.k .z)))))) (.i (.blk r 184 [.bool true, .string (mkS s), .int .i64 (↑Af : Int), .int .i64 ef]) (.d (.k .a))) ?_
 have hu := goes_rI s (Af, ef) hf.2.1
 refine RC (dst := some 10) [0] (.d (.k .a)) (Int_spec r Af s ef hf.2.1 hl) ?_
 rintro v _ ⟨rfl, rfl⟩
 obtain ⟨⟨u, Au, eu⟩, hxu⟩ : ∃ y, y = rI s (Af, ef) := ⟨_, rfl⟩
 have hyu : rd 0 Af ef (num (s.drop Af)) = (u, Au, eu) := hxu.symm
 rw [← hxu] at hu ⊢
 rw [hyu]
 dsimp only at hu ⊢
 refine RR [1, 1, 1, 1] .z (.d (.d (.d (.d (.d (.k .a)))))) (.i (.blk r 184 [.bool true, .string (mkS s), .int .i64 (↑Au : Int), .int .i64 eu]) (.i (.blk g1 116 [.string (mkS t), .int .i64 o, .int .i64 f, .int .i64 u]) .z)) ?_
 refine RZ (NT (RE ?_))
 refine NE [0] (.k .z) (.d (.k .a)) [1, 1, 1, 1] (.agg #[.string (mkS t), .int .i64 o, .int .i64 f, .int .i64 u]) ?_
 exact ⟨rfl, rfl⟩
theorem rowI_spec (r A : Nat) (s : List UInt8) (e : Int) (hA : A ≤ s.length) (hl : s.length ≤ 1099511627776) :
  Does Tryz.prog 113 [.pointer (some ⟨r, 0, none⟩), .func (.func 114) #[] #[]] [rdr r s A e]
   (fun v hp' => ∃ a c, v = .slice a (rRows s (rIn s) (A, e)).1.length c ∧ hp' = [row 62 2 a (rRows s (rIn s) (A, e)).1.length c ((rRows s (rIn s) (A, e)).1.flatMap insC), rdr r s (rRows s (rIn s) (A, e)).2.1 (rRows s (rIn s) (A, e)).2.2]) := by
 obtain ⟨g1, g2, -, -⟩ := goes_rC s 1048576 (A, e) hA
 unfold rRows
 refine fn_enter Tryz.func113 rfl 25 rfl fun w0 h0 => ?_
 refine SQ (RG ?_)
 refine RR [] .z (.i 4 (.slice none 0 0) .a) (.i (.blk r 184 [.bool true, .string (mkS s), .int .i64 (↑A : Int), .int .i64 e]) .z) ?_
 refine RZ (NT (SQ (RG ?_)))
 refine RR [] .z (.i 5 (.slice none 0 0) .a) .a ?_
 refine RZ (NT (SQ (SQ (RG ?_))))
 refine RR [] (.d .a) (.i 7 (.pointer (some ⟨r, 0, none⟩)) .a) .a ?_
 refine RCA (dst := some 8) (RdCount_spec r A s e 1048576 hA hl) ?_
 rintro v _ ⟨rfl, rfl⟩
 obtain ⟨⟨k, A1, e1⟩, hx⟩ : ∃ x, x = rC s 1048576 (A, e) := ⟨_, rfl⟩
 have hx2 : rd 0 A e (cnt (s.drop A) 1048576) = (k, A1, e1) := hx.symm
 rw [← hx] at g1 g2 ⊢
 rw [hx2]
 dsimp only at g1 g2 ⊢
 have hk := rC_rng s (A, e)
 rw [← hx] at hk
 dsimp only at hk
 obtain ⟨n, rfl⟩ := Int.eq_ofNat_of_zero_le hk.1
 obtain ⟨⟨L, A9, e9⟩, ht⟩ : ∃ x, x = rMany (rIn s) (n : Int).toNat (A1, e1) := ⟨_, rfl⟩
 rw [← ht]
 rw [Int.toNat_natCast] at ht
 have hln := many_len (goes_rIn s) n (A1, e1) g2
 rw [← ht] at hln
 dsimp only at hln ⊢
 refine RR [] .z (.i 6 (.int .i64 (↑n : Int)) (.d (.d (.k .a)))) (.i (.blk r 184 [.bool true, .string (mkS s), .int .i64 (↑A1 : Int), .int .i64 e1]) .z) ?_
 refine RZ (NT (BK ?_))
 refine wpc_loop (X := {x : Nat × Option Addr × Nat × List InP × Nat × Int // x.1 ≤ n ∧ x.2.2.2.2.1 ≤ s.length ∧ L = x.2.2.2.1 ++ (rMany (rIn s) x.1 x.2.2.2.2).1 ∧ (A9, e9) = (rMany (rIn s) x.1 x.2.2.2.2).2}) (fun x => St.mk [(6, .int .i64 (x.1.1 : Int)), (5, .slice x.1.2.1 x.1.2.2.2.1.length x.1.2.2.1), (4, .slice none 0 0), (0, .pointer (some ⟨r, 0, none⟩)), (1, .func (.func 114) #[] #[])]
  [row 62 2 x.1.2.1 x.1.2.2.2.1.length x.1.2.2.1 (x.1.2.2.2.1.flatMap insC), rdr r s x.1.2.2.2.2.1 x.1.2.2.2.2.2]) (fun x => x.1.1) ⟨(n, none, 0, [], A1, e1), Nat.le_refl _, g2, by rw [← ht]; rfl, by rw [← ht]⟩ ?_ ?_
 ·exact Ent.trans (ent_nil 62 2) (ent_fr (by kernel_rfl))
 rintro ⟨⟨k, a1, c1, l1, A2, e2⟩, hkn, hA2, hL, hp⟩
 dsimp only at hkn hA2 hL hp ⊢
 have hll : l1.length ≤ 1048576 := by
  have := congrArg List.length hL
  rw [List.length_append] at this
  omega
 cases k with
 | zero =>
  rw [show rMany (rIn s) 0 (A2, e2) = ([], A2, e2) from rfl] at hL hp
  cases hp
  rw [List.append_nil] at hL
  subst hL
  refine SQ (SQ (RG ?_))
  refine RR [] .z (.i 15 (.bool false) (.i 6 (.int .i64 0) (.d (.k .a)))) (.k (.i (.blk r 184 [.bool true, .string (mkS s), .int .i64 (↑A9 : Int), .int .i64 e9]) .z)) ?_
  refine RZ (NT (CF (EX (TE (TE (BH (NT (SQ (RG ?_)))))))))
  refine RR [] .z (.i 4 (.slice a1 L.length c1) .z) .a ?_
  refine RZ (NT (RE ?_))
  refine NE [0, 0] .a .z [] (.slice a1 L.length c1) ?_
  exact ⟨a1, c1, rfl, rfl⟩
 | succ k =>
  by_cases he : e2 = 0
  ·subst he
   rw [rMany_succ _ _ _ rfl] at hL hp
   have hg := goes_rIn s (A2, 0) hA2
   refine SQ (SQ (RG ?_))
   refine RR [] (.d (.d (.d .a))) (.i 11 (.bool (decide ((↑(k + (1 : Nat)) : Int) > (0 : Int)))) .a) (.k (.i (.blk r 184 [.bool true, .string (mkS s), .int .i64 (↑A2 : Int), .int .i64 0]) .z)) ?_
   refine SR 11 (decide ((↑(k + (1 : Nat)) : Int) > (0 : Int))) true (by simp) ?_
   refine RR [] (.d .a) (.i 12 (.pointer (some ⟨r, 0, none⟩)) (.k (.d (.k .a)))) .a ?_
   refine RC (dst := some 13) [1] (.k .z) (Err_spec r s A2 0) ?_
   rintro v _ ⟨rfl, rfl⟩
   refine RR [] .z (.i 15 (.bool true) (.d (.d (.d (.k .a))))) (.i (.blk r 184 [.bool true, .string (mkS s), .int .i64 (↑A2 : Int), .int .i64 0]) (.d (.k .a))) ?_
   refine RZ (NT (CT (SK (NT (SQ (BK (RG ?_)))))))
   refine RR [] (.d (.d (.d .a))) (.i 20 (.pointer (some ⟨r, 0, none⟩)) (.i 19 (Value.func (Fn.func 114) #[] #[]) (.i 18 (.slice a1 l1.length c1) (.d (.k .a))))) .a ?_
   refine wpr_callv (dst := some 21) (rest := [row 62 2 a1 l1.length c1 (List.flatMap insC l1)]) (first := (#[])) (caps := (#[])) (args := [.pointer (some ⟨r, 0, none⟩)]) (f := 114) (by kernel_rfl) (by kernel_rfl) (readIn_spec r A2 s 0 hA2 hl) (give [0] (by kernel_rfl)) ?_
   rintro v _ ⟨rfl, rfl⟩
   obtain ⟨⟨v, A3, e3⟩, hv⟩ : ∃ x, x = rIn s (A2, 0) := ⟨_, rfl⟩
   rw [← hv] at hg hL hp ⊢
   dsimp only at hg hL hp ⊢
   rw [show insC v = [.int .i64 v.1, .int .i64 v.2] from rfl]
   refine RN [] (.d .a) 22 (fun g3 => (.slice (some ⟨g3, 0, none⟩) 1 1)) (.d (.d (.d (.k .a)))) (.i (.blk r 184 [.bool true, .string (mkS s), .int .i64 (↑A3 : Int), .int .i64 e3]) (.d (.k .a))) 62 [.int .i64 v.fst, .int .i64 v.snd] fun g3 => ?_
   refine wpr_ent (ent_turn 2 (ro (some ⟨g3, 0, none⟩) (insC v)) rfl (turn_rblk (l := insC v) (ins1 _)) rfl) ?_
   refine wpr_app (a := a1) (n := l1.length) (cap := c1) (x := (.slice (some ⟨g3, 0, none⟩) 1 1)) (t := 56) (xt := 56) (dst := some 23) (by kernel_rfl) (e := 62) (sz := 2) (bytes := 16) (by kernel_rfl) 1 (xs := (List.flatMap insC l1)) (by kernel_rfl) (m := 1) (news := (insC v)) (fun w h => src_ro h 2 rfl rfl (fun e => by cases e)) (by unfold maxLen; omega) (by omega) ?_
   intro a3 c3 hn3
   rw [show l1.length + 1 = (l1 ++ [v]).length by simp, show l1.flatMap insC ++ insC v = (l1 ++ [v]).flatMap insC by simp]
   refine RR [] .z (.i 5 (.slice a3 (l1 ++ [v]).length c3) (.d (.d (.d (.k (.d (.k .a))))))) .a ?_
   refine RZ (BN (NT (RG ?_)))
   refine RV true [] .z (.i 6 (.int .i64 ((↑(k + 1) : Int) - 1)) (.k (.d (.k .a)))) .a ([inI64 ((↑(k + (1 : Nat)) : Int) - (1 : Int))]) ⟨by unfold inI64; omega, trivial⟩ ?_
   refine RZ ?_
   rw [show ((k + 1 : Nat) : Int) - 1 = (k : Int) from by omega]
   exact fun a' w' hS' => ⟨⟨(k, a3, c3, l1 ++ [v], A3, e3), by dsimp only; omega, hg.2.1, by rw [hL, List.append_assoc]; rfl, hp⟩, by dsimp only; omega, ent_fr (by kernel_rfl) _ _ (ent_hp [1, 0] rfl _ _ hS')⟩
  ·rw [rMany_nil _ _ _ he] at hL hp
   cases hp
   rw [List.append_nil] at hL
   subst hL
   refine SQ (SQ (RG ?_))
   refine RR [] (.d (.d (.d .a))) (.i 11 (.bool (decide ((↑(k + (1 : Nat)) : Int) > (0 : Int)))) .a) (.k (.i (.blk r 184 [.bool true, .string (mkS s), .int .i64 (↑A9 : Int), .int .i64 e9]) .z)) ?_
   refine SR 11 (decide ((↑(k + (1 : Nat)) : Int) > (0 : Int))) true (by simp) ?_
   refine RR [] (.d .a) (.i 12 (.pointer (some ⟨r, 0, none⟩)) (.k (.d (.k .a)))) .a ?_
   refine RC (dst := some 13) [1] (.k .z) (Err_spec r s A9 e9) ?_
   rintro v _ ⟨rfl, rfl⟩
   refine RR [] .z (.i 15 (.bool (e9 == (0 : Int))) (.d (.d (.d (.k .a))))) (.i (.blk r 184 [.bool true, .string (mkS s), .int .i64 (↑A9 : Int), .int .i64 e9]) (.d (.k .a))) ?_
   refine RZ (NT ?_)
   refine SC 15 (e9 == (0 : Int)) false (by simp only [bne_eq_false_iff_eq, beq_eq_false_iff_ne, ne_eq]; omega) ?_
   refine CF (EX (TE (TE (BH (NT (SQ (RG ?_)))))))
   refine RR [] .z (.i 4 (.slice a1 L.length c1) .z) .a ?_
   refine RZ (NT (RE ?_))
   refine NE [1, 0] (.i (row 62 2 a1 L.length c1 (List.flatMap insC L)) (.k .z)) .z [] (.slice a1 L.length c1) ?_
   exact ⟨a1, c1, rfl, rfl⟩
theorem rowVr_spec (r A : Nat) (s : List UInt8) (e : Int) (hA : A ≤ s.length) (hl : s.length ≤ 1099511627776) :
  Does Tryz.prog 115 [.pointer (some ⟨r, 0, none⟩), .func (.func 116) #[] #[]] [rdr r s A e]
   (fun v hp' => ∃ a c, v = .slice a (rRows s (rVr s) (A, e)).1.length c ∧ hp' = [row 116 4 a (rRows s (rVr s) (A, e)).1.length c ((rRows s (rVr s) (A, e)).1.flatMap varC), rdr r s (rRows s (rVr s) (A, e)).2.1 (rRows s (rVr s) (A, e)).2.2]) := by
 obtain ⟨g1, g2, -, -⟩ := goes_rC s 1048576 (A, e) hA
 unfold rRows
 refine fn_enter Tryz.func115 rfl 25 rfl fun w0 h0 => ?_
 refine SQ (RG ?_)
 refine RR [] .z (.i 4 (.slice none 0 0) .a) (.i (.blk r 184 [.bool true, .string (mkS s), .int .i64 (↑A : Int), .int .i64 e]) .z) ?_
 refine RZ (NT (SQ (RG ?_)))
 refine RR [] .z (.i 5 (.slice none 0 0) .a) .a ?_
 refine RZ (NT (SQ (SQ (RG ?_))))
 refine RR [] (.d .a) (.i 7 (.pointer (some ⟨r, 0, none⟩)) .a) .a ?_
 refine RCA (dst := some 8) (RdCount_spec r A s e 1048576 hA hl) ?_
 rintro v _ ⟨rfl, rfl⟩
 obtain ⟨⟨k, A1, e1⟩, hx⟩ : ∃ x, x = rC s 1048576 (A, e) := ⟨_, rfl⟩
 have hx2 : rd 0 A e (cnt (s.drop A) 1048576) = (k, A1, e1) := hx.symm
 rw [← hx] at g1 g2 ⊢
 rw [hx2]
 dsimp only at g1 g2 ⊢
 have hk := rC_rng s (A, e)
 rw [← hx] at hk
 dsimp only at hk
 obtain ⟨n, rfl⟩ := Int.eq_ofNat_of_zero_le hk.1
 obtain ⟨⟨L, A9, e9⟩, ht⟩ : ∃ x, x = rMany (rVr s) (n : Int).toNat (A1, e1) := ⟨_, rfl⟩
 rw [← ht]
 rw [Int.toNat_natCast] at ht
 have hln := many_len (goes_rVr s) n (A1, e1) g2
 rw [← ht] at hln
 dsimp only at hln ⊢
 refine RR [] .z (.i 6 (.int .i64 (↑n : Int)) (.d (.d (.k .a)))) (.i (.blk r 184 [.bool true, .string (mkS s), .int .i64 (↑A1 : Int), .int .i64 e1]) .z) ?_
 refine RZ (NT (BK ?_))
 refine wpc_loop (X := {x : Nat × Option Addr × Nat × List VarP × Nat × Int // x.1 ≤ n ∧ x.2.2.2.2.1 ≤ s.length ∧ L = x.2.2.2.1 ++ (rMany (rVr s) x.1 x.2.2.2.2).1 ∧ (A9, e9) = (rMany (rVr s) x.1 x.2.2.2.2).2}) (fun x => St.mk [(6, .int .i64 (x.1.1 : Int)), (5, .slice x.1.2.1 x.1.2.2.2.1.length x.1.2.2.1), (4, .slice none 0 0), (0, .pointer (some ⟨r, 0, none⟩)), (1, .func (.func 116) #[] #[])]
  [row 116 4 x.1.2.1 x.1.2.2.2.1.length x.1.2.2.1 (x.1.2.2.2.1.flatMap varC), rdr r s x.1.2.2.2.2.1 x.1.2.2.2.2.2]) (fun x => x.1.1) ⟨(n, none, 0, [], A1, e1), Nat.le_refl _, g2, by rw [← ht]; rfl, by rw [← ht]⟩ ?_ ?_
 ·exact Ent.trans (ent_nil 116 4) (ent_fr (by kernel_rfl))
 rintro ⟨⟨k, a1, c1, l1, A2, e2⟩, hkn, hA2, hL, hp⟩
 dsimp only at hkn hA2 hL hp ⊢
 have hll : l1.length ≤ 1048576 := by
  have := congrArg List.length hL
  rw [List.length_append] at this
  omega
 cases k with
 | zero =>
  rw [show rMany (rVr s) 0 (A2, e2) = ([], A2, e2) from rfl] at hL hp
  cases hp
  rw [List.append_nil] at hL
  subst hL
  refine SQ (SQ (RG ?_))
  refine RR [] .z (.i 15 (.bool false) (.i 6 (.int .i64 0) (.d (.k .a)))) (.k (.i (.blk r 184 [.bool true, .string (mkS s), .int .i64 (↑A9 : Int), .int .i64 e9]) .z)) ?_
  refine RZ (NT (CF (EX (TE (TE (BH (NT (SQ (RG ?_)))))))))
  refine RR [] .z (.i 4 (.slice a1 L.length c1) .z) .a ?_
  refine RZ (NT (RE ?_))
  refine NE [0, 0] .a .z [] (.slice a1 L.length c1) ?_
  exact ⟨a1, c1, rfl, rfl⟩
 | succ k =>
  by_cases he : e2 = 0
  ·subst he
   rw [rMany_succ _ _ _ rfl] at hL hp
   have hg := goes_rVr s (A2, 0) hA2
   refine SQ (SQ (RG ?_))
   refine RR [] (.d (.d (.d .a))) (.i 11 (.bool (decide ((↑(k + (1 : Nat)) : Int) > (0 : Int)))) .a) (.k (.i (.blk r 184 [.bool true, .string (mkS s), .int .i64 (↑A2 : Int), .int .i64 0]) .z)) ?_
   refine SR 11 (decide ((↑(k + (1 : Nat)) : Int) > (0 : Int))) true (by simp) ?_
   refine RR [] (.d .a) (.i 12 (.pointer (some ⟨r, 0, none⟩)) (.k (.d (.k .a)))) .a ?_
   refine RC (dst := some 13) [1] (.k .z) (Err_spec r s A2 0) ?_
   rintro v _ ⟨rfl, rfl⟩
   refine RR [] .z (.i 15 (.bool true) (.d (.d (.d (.k .a))))) (.i (.blk r 184 [.bool true, .string (mkS s), .int .i64 (↑A2 : Int), .int .i64 0]) (.d (.k .a))) ?_
   refine RZ (NT (CT (SK (NT (SQ (BK (RG ?_)))))))
   refine RR [] (.d (.d (.d .a))) (.i 20 (.pointer (some ⟨r, 0, none⟩)) (.i 19 (Value.func (Fn.func 116) #[] #[]) (.i 18 (.slice a1 l1.length c1) (.d (.k .a))))) .a ?_
   refine wpr_callv (dst := some 21) (rest := [row 116 4 a1 l1.length c1 (List.flatMap varC l1)]) (first := (#[])) (caps := (#[])) (args := [.pointer (some ⟨r, 0, none⟩)]) (f := 116) (by kernel_rfl) (by kernel_rfl) (readVr_spec r A2 s 0 hA2 hl) (give [0] (by kernel_rfl)) ?_
   rintro v _ ⟨rfl, rfl⟩
   obtain ⟨⟨v, A3, e3⟩, hv⟩ : ∃ x, x = rVr s (A2, 0) := ⟨_, rfl⟩
   rw [← hv] at hg hL hp ⊢
   dsimp only at hg hL hp ⊢
   rw [show varC v = [.string (mkS v.name), .int .i64 v.slot, .int .i64 v.fr, .int .i64 v.to] from rfl]
   refine RN [] (.d .a) 22 (fun g3 => (.slice (some ⟨g3, 0, none⟩) 1 1)) (.d (.d (.d (.k .a)))) (.i (.blk r 184 [.bool true, .string (mkS s), .int .i64 (↑A3 : Int), .int .i64 e3]) (.d (.k .a))) 116 [.string (mkS v.name), .int .i64 v.slot, .int .i64 v.fr, .int .i64 v.to] fun g3 => ?_
   refine wpr_ent (ent_turn 2 (ro (some ⟨g3, 0, none⟩) (varC v)) rfl (turn_rblk (l := varC v) (var1 _)) rfl) ?_
   refine wpr_app (a := a1) (n := l1.length) (cap := c1) (x := (.slice (some ⟨g3, 0, none⟩) 1 1)) (t := 57) (xt := 57) (dst := some 23) (by kernel_rfl) (e := 116) (sz := 4) (bytes := 40) (by kernel_rfl) 1 (xs := (List.flatMap varC l1)) (by kernel_rfl) (m := 1) (news := (varC v)) (fun w h => src_ro h 2 rfl rfl (fun e => by cases e)) (by unfold maxLen; omega) (by omega) ?_
   intro a3 c3 hn3
   rw [show l1.length + 1 = (l1 ++ [v]).length by simp, show l1.flatMap varC ++ varC v = (l1 ++ [v]).flatMap varC by simp]
   refine RR [] .z (.i 5 (.slice a3 (l1 ++ [v]).length c3) (.d (.d (.d (.k (.d (.k .a))))))) .a ?_
   refine RZ (BN (NT (RG ?_)))
   refine RV true [] .z (.i 6 (.int .i64 ((↑(k + 1) : Int) - 1)) (.k (.d (.k .a)))) .a ([inI64 ((↑(k + (1 : Nat)) : Int) - (1 : Int))]) ⟨by unfold inI64; omega, trivial⟩ ?_
   refine RZ ?_
   rw [show ((k + 1 : Nat) : Int) - 1 = (k : Int) from by omega]
   exact fun a' w' hS' => ⟨⟨(k, a3, c3, l1 ++ [v], A3, e3), by dsimp only; omega, hg.2.1, by rw [hL, List.append_assoc]; rfl, hp⟩, by dsimp only; omega, ent_fr (by kernel_rfl) _ _ (ent_hp [1, 0] rfl _ _ hS')⟩
  ·rw [rMany_nil _ _ _ he] at hL hp
   cases hp
   rw [List.append_nil] at hL
   subst hL
   refine SQ (SQ (RG ?_))
   refine RR [] (.d (.d (.d .a))) (.i 11 (.bool (decide ((↑(k + (1 : Nat)) : Int) > (0 : Int)))) .a) (.k (.i (.blk r 184 [.bool true, .string (mkS s), .int .i64 (↑A9 : Int), .int .i64 e9]) .z)) ?_
   refine SR 11 (decide ((↑(k + (1 : Nat)) : Int) > (0 : Int))) true (by simp) ?_
   refine RR [] (.d .a) (.i 12 (.pointer (some ⟨r, 0, none⟩)) (.k (.d (.k .a)))) .a ?_
   refine RC (dst := some 13) [1] (.k .z) (Err_spec r s A9 e9) ?_
   rintro v _ ⟨rfl, rfl⟩
   refine RR [] .z (.i 15 (.bool (e9 == (0 : Int))) (.d (.d (.d (.k .a))))) (.i (.blk r 184 [.bool true, .string (mkS s), .int .i64 (↑A9 : Int), .int .i64 e9]) (.d (.k .a))) ?_
   refine RZ (NT ?_)
   refine SC 15 (e9 == (0 : Int)) false (by simp only [bne_eq_false_iff_eq, beq_eq_false_iff_ne, ne_eq]; omega) ?_
   refine CF (EX (TE (TE (BH (NT (SQ (RG ?_)))))))
   refine RR [] .z (.i 4 (.slice a1 L.length c1) .z) .a ?_
   refine RZ (NT (RE ?_))
   refine NE [1, 0] (.i (row 116 4 a1 L.length c1 (List.flatMap varC L)) (.k .z)) .z [] (.slice a1 L.length c1) ?_
   exact ⟨a1, c1, rfl, rfl⟩
theorem rowSh_spec (r A : Nat) (s : List UInt8) (e : Int) (hA : A ≤ s.length) (hl : s.length ≤ 1099511627776) :
  Does Tryz.prog 60 [.pointer (some ⟨r, 0, none⟩), .func (.func 61) #[] #[]] [rdr r s A e]
   (fun v hp' => ∃ a c, ∃ l' : List ShV, l'.map ShV.p = (rRows s (rSh s) (A, e)).1 ∧ v = .slice a l'.length c ∧ hp' = [row 111 2 a l'.length c (l'.flatMap shC), star (l'.flatMap shRows), rdr r s (rRows s (rSh s) (A, e)).2.1 (rRows s (rSh s) (A, e)).2.2]) := by
 obtain ⟨g1, g2, -, -⟩ := goes_rC s 1048576 (A, e) hA
 unfold rRows
 refine fn_enter Tryz.func60 rfl 25 rfl fun w0 h0 => ?_
 refine SQ (RG ?_)
 refine RR [] .z (.i 4 (.slice none 0 0) .a) (.i (.blk r 184 [.bool true, .string (mkS s), .int .i64 (↑A : Int), .int .i64 e]) .z) ?_
 refine RZ (NT (SQ (RG ?_)))
 refine RR [] .z (.i 5 (.slice none 0 0) .a) .a ?_
 refine RZ (NT (SQ (SQ (RG ?_))))
 refine RR [] (.d .a) (.i 7 (.pointer (some ⟨r, 0, none⟩)) .a) .a ?_
 refine RCA (dst := some 8) (RdCount_spec r A s e 1048576 hA hl) ?_
 rintro v _ ⟨rfl, rfl⟩
 obtain ⟨⟨k, A1, e1⟩, hx⟩ : ∃ x, x = rC s 1048576 (A, e) := ⟨_, rfl⟩
 have hx2 : rd 0 A e (cnt (s.drop A) 1048576) = (k, A1, e1) := hx.symm
 rw [← hx] at g1 g2 ⊢
 rw [hx2]
 dsimp only at g1 g2 ⊢
 have hk := rC_rng s (A, e)
 rw [← hx] at hk
 dsimp only at hk
 obtain ⟨n, rfl⟩ := Int.eq_ofNat_of_zero_le hk.1
 obtain ⟨⟨L, A9, e9⟩, ht⟩ : ∃ x, x = rMany (rSh s) (n : Int).toNat (A1, e1) := ⟨_, rfl⟩
 rw [← ht]
 rw [Int.toNat_natCast] at ht
 have hln := many_len (goes_rSh s) n (A1, e1) g2
 rw [← ht] at hln
 dsimp only at hln ⊢
 refine RR [] .z (.i 6 (.int .i64 (↑n : Int)) (.d (.d (.k .a)))) (.i (.blk r 184 [.bool true, .string (mkS s), .int .i64 (↑A1 : Int), .int .i64 e1]) .z) ?_
 refine RZ (NT (BK ?_))
 refine wpc_loop (X := {x : Nat × Option Addr × Nat × List ShV × Nat × Int // x.1 ≤ n ∧ x.2.2.2.2.1 ≤ s.length ∧ L = x.2.2.2.1.map ShV.p ++ (rMany (rSh s) x.1 x.2.2.2.2).1 ∧ (A9, e9) = (rMany (rSh s) x.1 x.2.2.2.2).2}) (fun x => St.mk [(6, .int .i64 (x.1.1 : Int)), (5, .slice x.1.2.1 x.1.2.2.2.1.length x.1.2.2.1), (4, .slice none 0 0), (0, .pointer (some ⟨r, 0, none⟩)), (1, .func (.func 61) #[] #[])]
  [row 111 2 x.1.2.1 x.1.2.2.2.1.length x.1.2.2.1 (x.1.2.2.2.1.flatMap shC), star (x.1.2.2.2.1.flatMap shRows), rdr r s x.1.2.2.2.2.1 x.1.2.2.2.2.2]) (fun x => x.1.1) ⟨(n, none, 0, [], A1, e1), Nat.le_refl _, g2, by rw [← ht]; rfl, by rw [← ht]⟩ ?_ ?_
 ·exact Ent.trans ent_star_nil (Ent.trans (ent_nil 111 2) (ent_fr (by kernel_rfl)))
 rintro ⟨⟨k, a1, c1, l1, A2, e2⟩, hkn, hA2, hL, hp⟩
 dsimp only at hkn hA2 hL hp ⊢
 have hll : l1.length ≤ 1048576 := by
  have := congrArg List.length hL
  rw [List.length_append, List.length_map] at this
  omega
 cases k with
 | zero =>
  rw [show rMany (rSh s) 0 (A2, e2) = ([], A2, e2) from rfl] at hL hp
  cases hp
  rw [List.append_nil] at hL
  subst hL
  refine SQ (SQ (RG ?_))
  refine RR [] .z (.i 15 (.bool false) (.i 6 (.int .i64 0) (.d (.k .a)))) (.k (.k (.i (.blk r 184 [.bool true, .string (mkS s), .int .i64 (↑A9 : Int), .int .i64 e9]) .z))) ?_
  refine RZ (NT (CF (EX (TE (TE (BH (NT (SQ (RG ?_)))))))))
  refine RR [] .z (.i 4 (.slice a1 l1.length c1) .z) .a ?_
  refine RZ (NT (RE ?_))
  refine NE [0, 0, 0] .a .z [] (.slice a1 l1.length c1) ?_
  exact ⟨a1, c1, l1, rfl, rfl, rfl⟩
 | succ k =>
  by_cases he : e2 = 0
  ·subst he
   rw [rMany_succ _ _ _ rfl] at hL hp
   have hg := goes_rSh s (A2, 0) hA2
   refine SQ (SQ (RG ?_))
   refine RR [] (.d (.d (.d .a))) (.i 11 (.bool (decide ((↑(k + (1 : Nat)) : Int) > (0 : Int)))) .a) (.k (.k (.i (.blk r 184 [.bool true, .string (mkS s), .int .i64 (↑A2 : Int), .int .i64 0]) .z))) ?_
   refine SR 11 (decide ((↑(k + (1 : Nat)) : Int) > (0 : Int))) true (by simp) ?_
   refine RR [] (.d .a) (.i 12 (.pointer (some ⟨r, 0, none⟩)) (.k (.d (.k .a)))) .a ?_
   refine RC (dst := some 13) [2] (.k (.k .z)) (Err_spec r s A2 0) ?_
   rintro v _ ⟨rfl, rfl⟩
   refine RR [] .z (.i 15 (.bool true) (.d (.d (.d (.k .a))))) (.i (.blk r 184 [.bool true, .string (mkS s), .int .i64 (↑A2 : Int), .int .i64 0]) (.d (.k .a))) ?_
   refine RZ (NT (CT (SK (NT (SQ (BK (RG ?_)))))))
   refine RR [] (.d (.d (.d .a))) (.i 20 (.pointer (some ⟨r, 0, none⟩)) (.i 19 (Value.func (Fn.func 61) #[] #[]) (.i 18 (.slice a1 l1.length c1) (.d (.k .a))))) .a ?_
   refine wpr_callv (dst := some 21) (rest := [row 111 2 a1 l1.length c1 (List.flatMap shC l1), star (List.flatMap shRows l1)]) (first := (#[])) (caps := (#[])) (args := [.pointer (some ⟨r, 0, none⟩)]) (f := 61) (by kernel_rfl) (by kernel_rfl) (readSh_spec r A2 s 0 hA2 hl) (give [0] (by kernel_rfl)) ?_
   rintro v _ ⟨o, ho, rfl, rfl⟩
   rw [show shRows o = [row 9 1 o.fa o.fields.length o.fc (strsC o.fields)] from rfl]
   obtain ⟨⟨v, A3, e3⟩, hv⟩ : ∃ x, x = rSh s (A2, 0) := ⟨_, rfl⟩
   rw [← hv] at hg hL hp ho ⊢
   dsimp only at hg hL hp ho ⊢
   refine RN [] (.d .a) 22 (fun g3 => (.slice (some ⟨g3, 0, none⟩) 1 1)) (.d (.d (.d (.k .a)))) (.i (.blk r 184 [.bool true, .string (mkS s), .int .i64 (↑A3 : Int), .int .i64 e3]) (.d (.k .a))) 111 [.string (mkS o.name), .slice o.fa o.fields.length o.fc] fun g3 => ?_
   refine wpr_ent (ent_turn 4 (ro (some ⟨g3, 0, none⟩) (shC o)) rfl (turn_rblk (sh1 _)) rfl) ?_
   refine wpr_app (a := a1) (n := l1.length) (cap := c1) (x := (.slice (some ⟨g3, 0, none⟩) 1 1)) (t := 23) (xt := 23) (dst := some 23) (by kernel_rfl) (e := 111) (sz := 2) (bytes := 40) (by kernel_rfl) 2 (xs := (List.flatMap shC l1)) (by kernel_rfl) (m := 1) (news := (shC o)) (fun w h => src_ro h 4 rfl rfl (fun e => by cases e)) (by unfold maxLen; omega) (by omega) ?_
   intro a3 c3 hn3
   rw [show l1.flatMap shC ++ shC o = (l1 ++ [o]).flatMap shC by simp, show l1.length + 1 = (l1 ++ [o]).length by simp]
   refine RR [] .z (.i 5 (.slice a3 (l1 ++ [o]).length c3) (.d (.d (.d (.k (.d (.k .a))))))) .a ?_
   refine RZ (BN (NT (RG ?_)))
   refine RV true [] .z (.i 6 (.int .i64 ((↑(k + 1) : Int) - 1)) (.k (.d (.k .a)))) .a ([inI64 ((↑(k + (1 : Nat)) : Int) - (1 : Int))]) ⟨by unfold inI64; omega, trivial⟩ ?_
   refine RZ ?_
   refine nx_ent (Ent.trans (ent_hp [3, 1, 0, 0] rfl) (ent_star_snoc trivial)) ?_
   rw [show l1.flatMap shRows ++ [row 9 1 o.fa o.fields.length o.fc (strsC o.fields)] = (l1 ++ [o]).flatMap shRows by simp [shRows]]
   rw [show ((k + 1 : Nat) : Int) - 1 = (k : Int) from by omega]
   exact fun a' w' hS' => ⟨⟨(k, a3, c3, l1 ++ [o], A3, e3), by dsimp only; omega, hg.2.1, by rw [hL, List.map_append, List.append_assoc, ← ho]; rfl, hp⟩, by dsimp only; omega, ent_fr (by kernel_rfl) _ _ (ent_hp [2, 0, 0] rfl _ _ hS')⟩
  ·rw [rMany_nil _ _ _ he] at hL hp
   cases hp
   rw [List.append_nil] at hL
   subst hL
   refine SQ (SQ (RG ?_))
   refine RR [] (.d (.d (.d .a))) (.i 11 (.bool (decide ((↑(k + (1 : Nat)) : Int) > (0 : Int)))) .a) (.k (.k (.i (.blk r 184 [.bool true, .string (mkS s), .int .i64 (↑A9 : Int), .int .i64 e9]) .z))) ?_
   refine SR 11 (decide ((↑(k + (1 : Nat)) : Int) > (0 : Int))) true (by simp) ?_
   refine RR [] (.d .a) (.i 12 (.pointer (some ⟨r, 0, none⟩)) (.k (.d (.k .a)))) .a ?_
   refine RC (dst := some 13) [2] (.k (.k .z)) (Err_spec r s A9 e9) ?_
   rintro v _ ⟨rfl, rfl⟩
   refine RR [] .z (.i 15 (.bool (e9 == (0 : Int))) (.d (.d (.d (.k .a))))) (.i (.blk r 184 [.bool true, .string (mkS s), .int .i64 (↑A9 : Int), .int .i64 e9]) (.d (.k .a))) ?_
   refine RZ (NT ?_)
   refine SC 15 (e9 == (0 : Int)) false (by simp only [bne_eq_false_iff_eq, beq_eq_false_iff_ne, ne_eq]; omega) ?_
   refine CF (EX (TE (TE (BH (NT (SQ (RG ?_)))))))
   refine RR [] .z (.i 4 (.slice a1 l1.length c1) .z) .a ?_
   refine RZ (NT (RE ?_))
   refine NE [1, 1, 0] (.i (row 111 2 a1 l1.length c1 (List.flatMap shC l1)) (.i (star (List.flatMap shRows l1)) (.k .z))) .z [] (.slice a1 l1.length c1) ?_
   exact ⟨a1, c1, l1, rfl, rfl, rfl⟩
theorem readU_spec (r A : Nat) (s : List UInt8) (e : Int) (hA : A ≤ s.length) (hl : s.length ≤ 1099511627776) :
  Does Tryz.prog 63 [.pointer (some ⟨r, 0, none⟩)] [rdr r s A e] (fun v hp' => ∃ o : UnV, o.p = (rU s (A, e)).1 ∧ v = .agg #[.string (mkS o.name), .int .i64 o.params, .int .i64 o.slots, .int .i64 o.stack, .bool o.result, .slice o.ia o.ins.length o.ic, .slice o.va o.vars.length o.vc] ∧ hp' = [rdr r s (rU s (A, e)).2.1 (rU s (A, e)).2.2] ++ unRows o) := by
 unfold rU
 dsimp only
 refine fn_enter Tryz.func63 rfl 18 rfl fun w0 h0 => ?_
 refine SQ (RG ?_)
 refine RP [] .z 2 .a (.i (.blk r 184 [.bool true, .string (mkS s), .int .i64 (↑A : Int), .int .i64 e]) .z) 59 [.string ⟨#[]⟩, .int .i64 0, .int .i64 0, .int .i64 0, .bool false, .slice none 0 0, .slice none 0 0] fun g1 => ?_
 refine RZ (NT (SQ (RG ?_)))
 refine RR [] (.d .a) (.i 3 (.pointer (some ⟨r, 0, none⟩)) .a) .a ?_
 have ht := goes_rTx s (A, e) hA
 refine RC (dst := some 4) [0] (.d (.k .a)) (ctext_spec r A s e hA hl) ?_
 rintro v _ ⟨rfl, rfl⟩
 obtain ⟨⟨t, At, et⟩, hxt⟩ : ∃ y, y = rTx s (A, e) := ⟨_, rfl⟩
 rw [← hxt] at ht ⊢
 dsimp only at ht ⊢
 refine RR [] (.d .a) (.i 5 (.pointer (some ⟨r, 0, none⟩)) (.k (.d (.k .a)))) (.i (.blk r 184 [.bool true, .string (mkS s), .int .i64 (↑At : Int), .int .i64 et]) (.d (.k .a))) ?_
 have hp := goes_rI s (At, et) ht.2.1
 refine RC (dst := some 6) [0] (.d (.k .a)) (Int_spec r At s et ht.2.1 hl) ?_
 rintro v _ ⟨rfl, rfl⟩
 obtain ⟨⟨p, Ap, ep⟩, hxp⟩ : ∃ y, y = rI s (At, et) := ⟨_, rfl⟩
 have hyp : rd 0 At et (num (s.drop At)) = (p, Ap, ep) := hxp.symm
 rw [← hxp] at hp ⊢
 rw [hyp]
 dsimp only at hp ⊢
 refine RR [] (.d .a) (.i 7 (.pointer (some ⟨r, 0, none⟩)) (.k (.d (.k .a)))) (.i (.blk r 184 [.bool true, .string (mkS s), .int .i64 (↑Ap : Int), .int .i64 ep]) (.d (.k .a))) ?_
 have hq := goes_rI s (Ap, ep) hp.2.1
 refine RC (dst := some 8) [0] (.d (.k .a)) (Int_spec r Ap s ep hp.2.1 hl) ?_
 rintro v _ ⟨rfl, rfl⟩
 obtain ⟨⟨q, Aq, eq⟩, hxq⟩ : ∃ y, y = rI s (Ap, ep) := ⟨_, rfl⟩
 have hyq : rd 0 Ap ep (num (s.drop Ap)) = (q, Aq, eq) := hxq.symm
 rw [← hxq] at hq ⊢
 rw [hyq]
 dsimp only at hq ⊢
 refine RR [] (.d .a) (.i 9 (.pointer (some ⟨r, 0, none⟩)) (.k (.d (.k .a)))) (.i (.blk r 184 [.bool true, .string (mkS s), .int .i64 (↑Aq : Int), .int .i64 eq]) (.d (.k .a))) ?_
 have hk := goes_rI s (Aq, eq) hq.2.1
 refine RC (dst := some 10) [0] (.d (.k .a)) (Int_spec r Aq s eq hq.2.1 hl) ?_
 rintro v _ ⟨rfl, rfl⟩
 obtain ⟨⟨k, Ak, ek⟩, hxk⟩ : ∃ y, y = rI s (Aq, eq) := ⟨_, rfl⟩
 have hyk : rd 0 Aq eq (num (s.drop Aq)) = (k, Ak, ek) := hxk.symm
 rw [← hxk] at hk ⊢
 rw [hyk]
 dsimp only at hk ⊢
 refine RR [] (.d .a) (.i 11 (.pointer (some ⟨r, 0, none⟩)) (.k (.d (.k .a)))) (.i (.blk r 184 [.bool true, .string (mkS s), .int .i64 (↑Ak : Int), .int .i64 ek]) (.d (.k .a))) ?_
 have hb := goes_rBo s (Ak, ek) hk.2.1
 refine RC (dst := some 12) [0] (.d (.k .a)) (Bool_spec r Ak s ek hk.2.1 hl) ?_
 rintro v _ ⟨rfl, rfl⟩
 obtain ⟨⟨b, Ab, eb⟩, hxb⟩ : ∃ y, y = rBo s (Ak, ek) := ⟨_, rfl⟩
 have hyb : rd false Ak ek (bol (s.drop Ak)) = (b, Ab, eb) := hxb.symm
 rw [← hxb] at hb ⊢
 rw [hyb]
 dsimp only at hb ⊢
 refine RR [] (.d .a) (.i 13 (.pointer (some ⟨r, 0, none⟩)) (.k (.d (.k .a)))) (.i (.blk r 184 [.bool true, .string (mkS s), .int .i64 (↑Ab : Int), .int .i64 eb]) (.d (.k .a))) ?_
 have hi := goes_rows (goes_rIn s) (Ab, eb) hb.2.1
 refine RC (dst := some 14) [0] (.d (.k .a)) (rowI_spec r Ab s eb hb.2.1 hl) ?_
 rintro v _ ⟨qa, ca, rfl, rfl⟩
 obtain ⟨⟨la, Ai, ei⟩, hxi⟩ : ∃ x, x = rRows s (rIn s) (Ab, eb) := ⟨_, rfl⟩
 rw [← hxi] at hi ⊢
 dsimp only at hi ⊢
 refine RR [] (.d .a) (.i 15 (.pointer (some ⟨r, 0, none⟩)) (.k (.d (.k (.k (.k (.k (.k (.k .z))))))))) (.k (.i (.blk r 184 [.bool true, .string (mkS s), .int .i64 (↑Ai : Int), .int .i64 ei]) (.d (.k .a)))) ?_
 refine RC (dst := some 16) [1] (.k (.d (.k .a))) (rowVr_spec r Ai s ei hi.2.1 hl) ?_
 rintro v _ ⟨qb, cb, rfl, rfl⟩
 obtain ⟨⟨lb, Ab, eb⟩, hxb⟩ : ∃ x, x = rRows s (rVr s) (Ai, ei) := ⟨_, rfl⟩
 rw [← hxb]
 dsimp only
 refine RR [3, 3, 3, 3, 3, 3, 3] .z (.d (.d (.d (.d (.d (.d (.d (.d (.k .a))))))))) (.k (.i (.blk r 184 [.bool true, .string (mkS s), .int .i64 (↑Ab : Int), .int .i64 eb]) (.d (.k (.u (.i (.string (mkS t)) (.i (.int .i64 p) (.i (.int .i64 q) (.i (.int .i64 k) (.i (.bool b) (.i (.slice qa la.length ca) (.i (.slice qb lb.length cb) .z))))))) .a))))) ?_
 refine RZ (NT (RE ?_))
 refine NE [1, 1, 0] (.i (.blk r 184 [.bool true, .string (mkS s), .int .i64 (↑Ab : Int), .int .i64 eb]) (.i (row 62 2 qa la.length ca (List.flatMap insC la)) (.k .z))) (.d (.d (.d (.k .a)))) [3, 3, 3, 3, 3, 3, 3] (.agg #[.string (mkS t), .int .i64 p, .int .i64 q, .int .i64 k, .bool b, .slice qa la.length ca, .slice qb lb.length cb]) ?_
 exact ⟨⟨t, p, q, k, b, qa, ca, la, qb, cb, lb⟩, rfl, rfl, rfl⟩
theorem rowU_spec (r A : Nat) (s : List UInt8) (e : Int) (hA : A ≤ s.length) (hl : s.length ≤ 1099511627776) :
  Does Tryz.prog 62 [.pointer (some ⟨r, 0, none⟩), .func (.func 63) #[] #[]] [rdr r s A e]
   (fun v hp' => ∃ a c, ∃ l' : List UnV, l'.map UnV.p = (rRows s (rU s) (A, e)).1 ∧ v = .slice a l'.length c ∧ hp' = [row 59 7 a l'.length c (l'.flatMap unC), star (l'.flatMap unRows), rdr r s (rRows s (rU s) (A, e)).2.1 (rRows s (rU s) (A, e)).2.2]) := by
 obtain ⟨g1, g2, -, -⟩ := goes_rC s 1048576 (A, e) hA
 unfold rRows
 refine fn_enter Tryz.func62 rfl 25 rfl fun w0 h0 => ?_
 refine SQ (RG ?_)
 refine RR [] .z (.i 4 (.slice none 0 0) .a) (.i (.blk r 184 [.bool true, .string (mkS s), .int .i64 (↑A : Int), .int .i64 e]) .z) ?_
 refine RZ (NT (SQ (RG ?_)))
 refine RR [] .z (.i 5 (.slice none 0 0) .a) .a ?_
 refine RZ (NT (SQ (SQ (RG ?_))))
 refine RR [] (.d .a) (.i 7 (.pointer (some ⟨r, 0, none⟩)) .a) .a ?_
 refine RCA (dst := some 8) (RdCount_spec r A s e 1048576 hA hl) ?_
 rintro v _ ⟨rfl, rfl⟩
 obtain ⟨⟨k, A1, e1⟩, hx⟩ : ∃ x, x = rC s 1048576 (A, e) := ⟨_, rfl⟩
 have hx2 : rd 0 A e (cnt (s.drop A) 1048576) = (k, A1, e1) := hx.symm
 rw [← hx] at g1 g2 ⊢
 rw [hx2]
 dsimp only at g1 g2 ⊢
 have hk := rC_rng s (A, e)
 rw [← hx] at hk
 dsimp only at hk
 obtain ⟨n, rfl⟩ := Int.eq_ofNat_of_zero_le hk.1
 obtain ⟨⟨L, A9, e9⟩, ht⟩ : ∃ x, x = rMany (rU s) (n : Int).toNat (A1, e1) := ⟨_, rfl⟩
 rw [← ht]
 rw [Int.toNat_natCast] at ht
 have hln := many_len (goes_rU s) n (A1, e1) g2
 rw [← ht] at hln
 dsimp only at hln ⊢
 refine RR [] .z (.i 6 (.int .i64 (↑n : Int)) (.d (.d (.k .a)))) (.i (.blk r 184 [.bool true, .string (mkS s), .int .i64 (↑A1 : Int), .int .i64 e1]) .z) ?_
 refine RZ (NT (BK ?_))
 refine wpc_loop (X := {x : Nat × Option Addr × Nat × List UnV × Nat × Int // x.1 ≤ n ∧ x.2.2.2.2.1 ≤ s.length ∧ L = x.2.2.2.1.map UnV.p ++ (rMany (rU s) x.1 x.2.2.2.2).1 ∧ (A9, e9) = (rMany (rU s) x.1 x.2.2.2.2).2}) (fun x => St.mk [(6, .int .i64 (x.1.1 : Int)), (5, .slice x.1.2.1 x.1.2.2.2.1.length x.1.2.2.1), (4, .slice none 0 0), (0, .pointer (some ⟨r, 0, none⟩)), (1, .func (.func 63) #[] #[])]
  [row 59 7 x.1.2.1 x.1.2.2.2.1.length x.1.2.2.1 (x.1.2.2.2.1.flatMap unC), star (x.1.2.2.2.1.flatMap unRows), rdr r s x.1.2.2.2.2.1 x.1.2.2.2.2.2]) (fun x => x.1.1) ⟨(n, none, 0, [], A1, e1), Nat.le_refl _, g2, by rw [← ht]; rfl, by rw [← ht]⟩ ?_ ?_
 ·exact Ent.trans ent_star_nil (Ent.trans (ent_nil 59 7) (ent_fr (by kernel_rfl)))
 rintro ⟨⟨k, a1, c1, l1, A2, e2⟩, hkn, hA2, hL, hp⟩
 dsimp only at hkn hA2 hL hp ⊢
 have hll : l1.length ≤ 1048576 := by
  have := congrArg List.length hL
  rw [List.length_append, List.length_map] at this
  omega
 cases k with
 | zero =>
  rw [show rMany (rU s) 0 (A2, e2) = ([], A2, e2) from rfl] at hL hp
  cases hp
  rw [List.append_nil] at hL
  subst hL
  refine SQ (SQ (RG ?_))
  refine RR [] .z (.i 15 (.bool false) (.i 6 (.int .i64 0) (.d (.k .a)))) (.k (.k (.i (.blk r 184 [.bool true, .string (mkS s), .int .i64 (↑A9 : Int), .int .i64 e9]) .z))) ?_
  refine RZ (NT (CF (EX (TE (TE (BH (NT (SQ (RG ?_)))))))))
  refine RR [] .z (.i 4 (.slice a1 l1.length c1) .z) .a ?_
  refine RZ (NT (RE ?_))
  refine NE [0, 0, 0] .a .z [] (.slice a1 l1.length c1) ?_
  exact ⟨a1, c1, l1, rfl, rfl, rfl⟩
 | succ k =>
  by_cases he : e2 = 0
  ·subst he
   rw [rMany_succ _ _ _ rfl] at hL hp
   have hg := goes_rU s (A2, 0) hA2
   refine SQ (SQ (RG ?_))
   refine RR [] (.d (.d (.d .a))) (.i 11 (.bool (decide ((↑(k + (1 : Nat)) : Int) > (0 : Int)))) .a) (.k (.k (.i (.blk r 184 [.bool true, .string (mkS s), .int .i64 (↑A2 : Int), .int .i64 0]) .z))) ?_
   refine SR 11 (decide ((↑(k + (1 : Nat)) : Int) > (0 : Int))) true (by simp) ?_
   refine RR [] (.d .a) (.i 12 (.pointer (some ⟨r, 0, none⟩)) (.k (.d (.k .a)))) .a ?_
   refine RC (dst := some 13) [2] (.k (.k .z)) (Err_spec r s A2 0) ?_
   rintro v _ ⟨rfl, rfl⟩
   refine RR [] .z (.i 15 (.bool true) (.d (.d (.d (.k .a))))) (.i (.blk r 184 [.bool true, .string (mkS s), .int .i64 (↑A2 : Int), .int .i64 0]) (.d (.k .a))) ?_
   refine RZ (NT (CT (SK (NT (SQ (BK (RG ?_)))))))
   refine RR [] (.d (.d (.d .a))) (.i 20 (.pointer (some ⟨r, 0, none⟩)) (.i 19 (Value.func (Fn.func 63) #[] #[]) (.i 18 (.slice a1 l1.length c1) (.d (.k .a))))) .a ?_
   refine wpr_callv (dst := some 21) (rest := [row 59 7 a1 l1.length c1 (List.flatMap unC l1), star (List.flatMap unRows l1)]) (first := (#[])) (caps := (#[])) (args := [.pointer (some ⟨r, 0, none⟩)]) (f := 63) (by kernel_rfl) (by kernel_rfl) (readU_spec r A2 s 0 hA2 hl) (give [0] (by kernel_rfl)) ?_
   rintro v _ ⟨o, ho, rfl, rfl⟩
   rw [show unRows o = [row 62 2 o.ia o.ins.length o.ic (o.ins.flatMap insC), row 116 4 o.va o.vars.length o.vc (o.vars.flatMap varC)] from rfl]
   obtain ⟨⟨v, A3, e3⟩, hv⟩ : ∃ x, x = rU s (A2, 0) := ⟨_, rfl⟩
   rw [← hv] at hg hL hp ho ⊢
   dsimp only at hg hL hp ho ⊢
   refine RN [] (.d .a) 22 (fun g3 => (.slice (some ⟨g3, 0, none⟩) 1 1)) (.d (.d (.d (.k .a)))) (.i (.blk r 184 [.bool true, .string (mkS s), .int .i64 (↑A3 : Int), .int .i64 e3]) (.d (.k .a))) 59 [.string (mkS o.name), .int .i64 o.params, .int .i64 o.slots, .int .i64 o.stack, .bool o.result, .slice o.ia o.ins.length o.ic, .slice o.va o.vars.length o.vc] fun g3 => ?_
   refine wpr_ent (ent_turn 5 (ro (some ⟨g3, 0, none⟩) (unC o)) rfl (turn_rblk (un1 _)) rfl) ?_
   refine wpr_app (a := a1) (n := l1.length) (cap := c1) (x := (.slice (some ⟨g3, 0, none⟩) 1 1)) (t := 24) (xt := 24) (dst := some 23) (by kernel_rfl) (e := 59) (sz := 7) (bytes := 96) (by kernel_rfl) 3 (xs := (List.flatMap unC l1)) (by kernel_rfl) (m := 1) (news := (unC o)) (fun w h => src_ro h 5 rfl rfl (fun e => by cases e)) (by unfold maxLen; omega) (by omega) ?_
   intro a3 c3 hn3
   rw [show l1.flatMap unC ++ unC o = (l1 ++ [o]).flatMap unC by simp, show l1.length + 1 = (l1 ++ [o]).length by simp]
   refine RR [] .z (.i 5 (.slice a3 (l1 ++ [o]).length c3) (.d (.d (.d (.k (.d (.k .a))))))) .a ?_
   refine RZ (BN (NT (RG ?_)))
   refine RV true [] .z (.i 6 (.int .i64 ((↑(k + 1) : Int) - 1)) (.k (.d (.k .a)))) .a ([inI64 ((↑(k + (1 : Nat)) : Int) - (1 : Int))]) ⟨by unfold inI64; omega, trivial⟩ ?_
   refine RZ ?_
   refine nx_ent (Ent.trans (ent_hp [4, 1, 1, 0, 0] rfl) (Ent.trans (ent_star_snoc trivial) (ent_star_snoc trivial))) ?_
   rw [show l1.flatMap unRows ++ [row 62 2 o.ia o.ins.length o.ic (o.ins.flatMap insC)] ++ [row 116 4 o.va o.vars.length o.vc (o.vars.flatMap varC)] = (l1 ++ [o]).flatMap unRows by simp [unRows]]
   rw [show ((k + 1 : Nat) : Int) - 1 = (k : Int) from by omega]
   exact fun a' w' hS' => ⟨⟨(k, a3, c3, l1 ++ [o], A3, e3), by dsimp only; omega, hg.2.1, by rw [hL, List.map_append, List.append_assoc, ← ho]; rfl, hp⟩, by dsimp only; omega, ent_fr (by kernel_rfl) _ _ (ent_hp [2, 0, 0] rfl _ _ hS')⟩
  ·rw [rMany_nil _ _ _ he] at hL hp
   cases hp
   rw [List.append_nil] at hL
   subst hL
   refine SQ (SQ (RG ?_))
   refine RR [] (.d (.d (.d .a))) (.i 11 (.bool (decide ((↑(k + (1 : Nat)) : Int) > (0 : Int)))) .a) (.k (.k (.i (.blk r 184 [.bool true, .string (mkS s), .int .i64 (↑A9 : Int), .int .i64 e9]) .z))) ?_
   refine SR 11 (decide ((↑(k + (1 : Nat)) : Int) > (0 : Int))) true (by simp) ?_
   refine RR [] (.d .a) (.i 12 (.pointer (some ⟨r, 0, none⟩)) (.k (.d (.k .a)))) .a ?_
   refine RC (dst := some 13) [2] (.k (.k .z)) (Err_spec r s A9 e9) ?_
   rintro v _ ⟨rfl, rfl⟩
   refine RR [] .z (.i 15 (.bool (e9 == (0 : Int))) (.d (.d (.d (.k .a))))) (.i (.blk r 184 [.bool true, .string (mkS s), .int .i64 (↑A9 : Int), .int .i64 e9]) (.d (.k .a))) ?_
   refine RZ (NT ?_)
   refine SC 15 (e9 == (0 : Int)) false (by simp only [bne_eq_false_iff_eq, beq_eq_false_iff_ne, ne_eq]; omega) ?_
   refine CF (EX (TE (TE (BH (NT (SQ (RG ?_)))))))
   refine RR [] .z (.i 4 (.slice a1 l1.length c1) .z) .a ?_
   refine RZ (NT (RE ?_))
   refine NE [1, 1, 0] (.i (row 59 7 a1 l1.length c1 (List.flatMap unC l1)) (.i (star (List.flatMap unRows l1)) (.k .z))) .z [] (.slice a1 l1.length c1) ?_
   exact ⟨a1, c1, l1, rfl, rfl, rfl⟩
end Go.Proofs.YtgcfomhlgipllaaGreatDoor
namespace Go.Proofs.YtgcfomhlgipllaaGreatDoor
open Go Go.Sx
theorem view_gSh {l : List ShV} : View (star (l.flatMap shRows)) (gSh l) := view_star_sub fun c' hc' => by
 obtain ⟨o, ho, rfl⟩ := List.mem_map.1 hc'
 exact ⟨_, List.mem_flatMap.2 ⟨o, ho, List.mem_cons_self ..⟩, view_row.holds, view_row.own⟩
theorem view_gUn {l : List UnV} : View (star (l.flatMap unRows)) (gUn l) := view_star_sub fun c' hc' => by
 obtain ⟨o, ho, hc'⟩ := List.mem_flatMap.1 hc'
 simp only [unRo, List.mem_cons, List.not_mem_nil, or_false] at hc'
 rcases hc' with rfl | rfl
 ·exact ⟨_, List.mem_flatMap.2 ⟨o, ho, List.mem_cons_self ..⟩, view_row.holds, view_row.own⟩
 ·exact ⟨_, List.mem_flatMap.2 ⟨o, ho, List.mem_cons_of_mem _ (List.mem_cons_self ..)⟩, view_row.holds, view_row.own⟩
def noCv : CoV := ⟨none, 0, [], none, 0, [], none, 0, [], 0⟩
theorem noCv_ok : noCv.ok := by
 unfold noCv CoV.ok i64r
 exact ⟨Nat.zero_le _, fun x hx => (List.not_mem_nil hx).elim, Nat.zero_le _, fun x hx => (List.not_mem_nil hx).elim, Nat.zero_le _, fun x hx => (List.not_mem_nil hx).elim, by decide, by decide⟩
def coH (c : CoV) : Hp := [row 9 1 c.sa c.strs.length c.sc (strsC c.strs), row 111 2 c.ha c.shapes.length c.hc (c.shapes.flatMap shC), star (c.shapes.flatMap shRows), row 59 7 c.ua c.units.length c.uc (c.units.flatMap unC), star (c.units.flatMap unRows)]
set_option maxHeartbeats 8000000 in
theorem cLoad_spec (a : Option Addr) (c : Nat) (bs : List UInt8) (ha : a = none → bs = []) (hl : bs.length ≤ 34359738368) :
  Does Tryz.prog 26 [.slice a bs.length c] [ro a (u8s bs), gWords] (fun v hp' => ∃ s : CoV, s.p = ldC bs ∧ s.ok ∧ v = .tuple #[.agg (coC s).toArray, .int .i64 (ldE bs)] ∧ hp' = coH s) := by
 refine fn_enter Tryz.func26 rfl 29 rfl fun w0 h0 => ?_
 refine SQ (RG ?_)
 refine RP [] (.d .a) 2 .a .a 26 [.slice none 0 0, .slice none 0 0, .slice none 0 0, .int .i64 0] fun g1 => ?_
 refine RR [] .z (.i 3 (.int .i64 0) .a) .a ?_
 refine RZ (NT (SQ (RG ?_)))
 refine RR [] (.d .a) (.i 7 (.slice a bs.length c) (.k (.k .z))) .a ?_
 refine RCG (dst := some 8) .a (NewReader_spec a c bs ha) (GV (GI []) 0 view_ro) ?_
 rintro v _ ⟨r, rfl, rfl⟩
 refine RR [] .z (.i 4 (.pointer (some ⟨r, 0, none⟩)) (.d (.d (.k .a)))) (.i (.blk r 184 [.bool true, .string (mkS bs), .int .i64 0, .int .i64 0]) (.d (.k .a))) ?_
 refine RZ (NT (SQ (RG ?_)))
 refine RR [] (.d .a) (.i 9 (.pointer (some ⟨r, 0, none⟩)) .a) .a ?_
 have h1 := goes_rows (goes_rTx bs) (0, 0) (Nat.zero_le _)
 refine RC (dst := some 10) [0] (.d (.k .a)) (rowT_spec r 0 bs 0 (Nat.zero_le _) (by omega)) ?_
 rintro v _ ⟨q1, c1, rfl, rfl⟩
 obtain ⟨⟨l1, A1, e1⟩, hx1⟩ : ∃ x, x = rRows bs (rTx bs) (0, 0) := ⟨_, rfl⟩
 rw [← hx1] at h1 ⊢
 dsimp only at h1 ⊢
 refine RR [] (.d .a) (.i 11 (.pointer (some ⟨r, 0, none⟩)) (.k (.d (.k .a)))) (.k (.i (.blk r 184 [.bool true, .string (mkS bs), .int .i64 (↑A1 : Int), .int .i64 e1]) (.d (.k .a)))) ?_
 have h2 := goes_rows (goes_rSh bs) (A1, e1) h1.2.1
 refine RC (dst := some 12) [1] (.k (.d (.k .a))) (rowSh_spec r A1 bs e1 h1.2.1 (by omega)) ?_
 rintro v _ ⟨q2, c2, l2, hl2, rfl, rfl⟩
 obtain ⟨⟨L2, A2, e2⟩, hx2⟩ : ∃ x, x = rRows bs (rSh bs) (A1, e1) := ⟨_, rfl⟩
 rw [← hx2] at h2 hl2 ⊢
 dsimp only at h2 hl2 ⊢
 refine RR [] (.d .a) (.i 13 (.pointer (some ⟨r, 0, none⟩)) (.k (.d (.k .a)))) (.k (.k (.i (.blk r 184 [.bool true, .string (mkS bs), .int .i64 (↑A2 : Int), .int .i64 e2]) (.d (.k .a))))) ?_
 have h3 := goes_rows (goes_rU bs) (A2, e2) h2.2.1
 refine RC (dst := some 14) [2] (.k (.k (.d (.k .a)))) (rowU_spec r A2 bs e2 h2.2.1 (by omega)) ?_
 rintro v _ ⟨q3, c3, l3, hl3, rfl, rfl⟩
 obtain ⟨⟨L3, A3, e3⟩, hx3⟩ : ∃ x, x = rRows bs (rU bs) (A2, e2) := ⟨_, rfl⟩
 rw [← hx3] at h3 hl3 ⊢
 dsimp only at h3 hl3 ⊢
 refine RR [] (.d .a) (.i 15 (.pointer (some ⟨r, 0, none⟩)) (.k (.d (.k .a)))) (.k (.k (.i (.blk r 184 [.bool true, .string (mkS bs), .int .i64 (↑A3 : Int), .int .i64 e3]) (.d (.k .a))))) ?_
 have h4 := goes_rI bs (A3, e3) h3.2.1
 refine RC (dst := some 16) [2] (.k (.k (.d (.k .a)))) (Int_spec r A3 bs e3 h3.2.1 (by omega)) ?_
 rintro v _ ⟨rfl, rfl⟩
 obtain ⟨⟨m, A4, e4⟩, hx4⟩ : ∃ x, x = rI bs (A3, e3) := ⟨_, rfl⟩
 have hy4 : rd 0 A3 e3 (num (bs.drop A3)) = (m, A4, e4) := hx4.symm
 rw [← hx4] at h4
 rw [hy4]
 dsimp only at h4 ⊢
 refine RP [] (.d (.d .a)) 5 (.i 17 (.agg #[.slice q1 l1.length c1, .slice q2 l2.length c2, .slice q3 l3.length c3, .int .i64 m]) (.d (.d (.d (.d (.d (.k .a))))))) (.i (.blk r 184 [.bool true, .string (mkS bs), .int .i64 (↑A4 : Int), .int .i64 e4]) (.d (.k .a))) 26 [.slice none 0 0, .slice none 0 0, .slice none 0 0, .int .i64 0] fun g2 => ?_
 refine RR [9, 9, 9, 9] .z (.k (.d (.k .a))) (.k (.k (.k (.k (.k (.k (.k (.k (.k (.u (.i (.slice q1 l1.length c1) (.i (.slice q2 l2.length c2) (.i (.slice q3 l3.length c3) (.i (.int .i64 m) .z)))) .a)))))))))) ?_
 refine RZ (NT (SQ (SQ (RG ?_))))
 refine RR [] (.d .a) (.i 18 (.pointer (some ⟨r, 0, none⟩)) (.k (.d (.k .a)))) .a ?_
 refine RC (dst := some 19) [0] (.d (.k .a)) (End_spec r bs A4 e4) ?_
 rintro v _ ⟨rfl, rfl⟩
 refine RR [] .z (.i 6 (.int .i64 (endE bs (↑A4 : Int) e4)) (.d (.d (.k .a)))) (.i (.blk r 184 [.bool true, .string (mkS bs), .int .i64 (↑A4 : Int), .int .i64 e4]) (.d (.k .a))) ?_
 refine RZ (NT (SQ (RG ?_)))
 refine RR [] .z (.i 21 (.bool (endE bs (↑A4 : Int) e4 != (0 : Int))) .a) .a ?_
 refine RZ (NT ?_)
 have hS : rCo bs (0, 0) = (⟨l1, L2, L3, m⟩, A4, e4) := by
  unfold rCo rTs
  rw [← hx1]; dsimp only
  rw [← hx2]; dsimp only
  rw [← hx3]; dsimp only
  rw [← hx4]
 have hP : CoV.p ⟨q1, c1, l1, q2, c2, l2, q3, c3, l3, m⟩ = ⟨l1, L2, L3, m⟩ := by unfold CoV.p; dsimp only; rw [hl2, hl3]
 have hok : CoV.ok ⟨q1, c1, l1, q2, c2, l2, q3, c3, l3, m⟩ := co_ok (s := bs) (p := (0, 0)) (by rw [hP, hS])
 obtain ⟨E, hE⟩ : ∃ E, E = endE bs A4 e4 := ⟨_, rfl⟩
 have hLE : ldE bs = if E ≠ 0 then E else if rightC ⟨l1, L2, L3, m⟩ then 0 else 2 := by unfold ldE; rw [hS, hE]
 rw [← hE]
 by_cases hE0 : E ≠ 0
 ·rw [if_pos hE0] at hLE
  rw [hLE, ldC_bad (by rw [hLE]; exact hE0)]
  refine SC 21 (E != (0 : Int)) true (by simp only [bne_iff_ne, beq_iff_eq, ne_eq]; omega) ?_
  refine CT (SQ (RG ?_))
  refine RR [8, 8, 8, 8] .z (.i 3 (.int .i64 E) (.d (.d (.d (.k (.d (.k .a))))))) .a ?_
  refine RZ (NT (RE (TR ?_)))
  refine nx_ent (Ent.trans ent_star_nil (Ent.trans (ent_nil 59 7) (Ent.trans ent_star_nil (Ent.trans (ent_nil 111 2) (ent_nil 9 1))))) ?_
  refine NE [0, 0, 0, 0, 0] (.k (.k (.k (.k (.k .z))))) (.d (.d (.d (.d (.d (.k .a)))))) [13, 13, 13, 13] (.tuple #[.agg #[.slice none 0 0, .slice none 0 0, .slice none 0 0, .int .i64 0], .int .i64 E]) ?_
  exact ⟨noCv, rfl, noCv_ok, rfl, rfl⟩
 ·rw [if_neg hE0] at hLE
  have hE1 := Classical.not_not.1 hE0
  subst hE1
  have hck := right_spec _ hok
  rw [show coC ⟨q1, c1, l1, q2, c2, l2, q3, c3, l3, m⟩ = [.slice q1 l1.length c1, .slice q2 l2.length c2, .slice q3 l3.length c3, .int .i64 m] from rfl, hP] at hck
  unfold coHp at hck
  dsimp only at hck
  refine CF (SK (NT (SQ (SQ (RG ?_)))))
  refine RR [9, 9, 9, 9] (.d .a) (.i 24 (.agg #[.slice q1 l1.length c1, .slice q2 l2.length c2, .slice q3 l3.length c3, .int .i64 m]) (.d (.d (.k .a)))) .a ?_
  refine RCG (dst := some 25) .a (hck) (GV (GV (GV (GV (GV (GV (GI []) 7 view_ro) 2 view_gUn) 1 view_row) 4 view_gSh) 3 view_row) 5 view_row) ?_
  rintro v _ ⟨rfl, rfl⟩
  cases hm : rightC ⟨l1, L2, L3, m⟩ with
  | false =>
   rw [hm] at hLE
   rw [hLE, ldC_bad (by rw [hLE]; decide)]
   refine RR [] .z (.i 26 (.bool true) (.d (.d (.k .a)))) .a ?_
   refine RZ (NT (CT (SQ (RG ?_))))
   refine RR [8, 8, 8, 8] .z (.i 3 (.int .i64 2) (.d (.k (.d (.k .a))))) .a ?_
   refine RZ (NT (RE (TR ?_)))
   refine nx_ent (Ent.trans ent_star_nil (Ent.trans (ent_nil 59 7) (Ent.trans ent_star_nil (Ent.trans (ent_nil 111 2) (ent_nil 9 1))))) ?_
   refine NE [0, 0, 0, 0, 0] (.k (.k (.k (.k (.k .z))))) (.d (.d (.d (.d (.d (.k .a)))))) [13, 13, 13, 13] (.tuple #[.agg #[.slice none 0 0, .slice none 0 0, .slice none 0 0, .int .i64 0], .int .i64 2]) ?_
   exact ⟨noCv, rfl, noCv_ok, rfl, rfl⟩
  | true =>
   rw [hm] at hLE
   have hLS : ldC bs = ⟨l1, L2, L3, m⟩ := by unfold ldC; rw [hLE, hS]; rfl
   rw [hLE, hLS]
   refine RR [] .z (.i 26 (.bool false) (.d (.d (.k .a)))) .a ?_
   refine RZ (NT (CF (SK (NT (SQ (RG ?_))))))
   refine RR [9, 9, 9, 9, 8, 8, 8, 8] .z (.d (.d (.k .a))) (.k (.k (.k (.k (.k (.k (.k (.k (.u (.i (.slice q1 l1.length c1) (.i (.slice q2 l2.length c2) (.i (.slice q3 l3.length c3) (.i (.int .i64 m) .z)))) .a))))))))) ?_
   refine RZ (NT (RE ?_))
   refine NE [5, 3, 3, 1, 1] (.i (row 9 1 q1 l1.length c1 (strsC l1)) (.i (row 111 2 q2 l2.length c2 (List.flatMap shC l2)) (.i (star (List.flatMap shRows l2)) (.d (.k (.k .z)))))) (.k (.d (.d (.d (.d (.d (.k .a))))))) [8, 8, 8, 8] (.tuple #[.agg #[.slice q1 l1.length c1, .slice q2 l2.length c2, .slice q3 l3.length c3, .int .i64 m], .int .i64 0]) ?_
   exact ⟨⟨q1, c1, l1, q2, c2, l2, q3, c3, l3, m⟩, hP, hok, rfl, rfl⟩
end Go.Proofs.YtgcfomhlgipllaaGreatDoor
namespace Go.Proofs.YtgcfomhlgipllaaGreatDoor
open Go Go.Sx
def tkr (g : Nat) (s : List UInt8) (A e : Int) : Ch := .blk g 136 [.string (mkS s), .int .i64 A, .int .i64 e]
theorem tnum_spec (g A : Nat) (s : List UInt8) (e : Int) (hA : A ≤ s.length) (hl : s.length ≤ 1099511627776) :
  Does Tryz.prog 71 [.pointer (some ⟨g, 0, none⟩)] [tkr g s A e] (fun v hp' => v = .int .i64 (rI s (A, e)).1 ∧ hp' = [tkr g s (rI s (A, e)).2.1 (rI s (A, e)).2.2]) := by
 have h := rInt_spec s A e hA hl
 unfold rrd at h
 unfold tkr
 refine fn_enter Tryz.func71 rfl 18 rfl fun w0 h0 => ?_
 refine SQ (RG ?_)
 refine RR [] .z (.i 2 (.int .i64 0) .a) .a ?_
 refine RZ (NT (SQ (RG ?_)))
 refine RR [0, 0, 0] (.d (.d (.d (.d .a)))) (.i 9 (.agg #[.string (mkS s), .int .i64 (↑A : Int), .int .i64 e]) .a) .a ?_
 refine RC (dst := some 10) [] .a (h) ?_
 rintro v _ ⟨rfl, rfl⟩
 refine RP [] (.d (.d (.d (.d .a)))) 3 (.i 12 (.int .i64 (rd 0 A e (num (List.drop A s))).fst) (.i 11 (.agg #[.string (mkS s), .int .i64 (↑(rd 0 A e (num (List.drop A s))).snd.fst : Int), .int .i64 (rd 0 A e (num (List.drop A s))).snd.snd]) (.d (.d (.k .a))))) .a 134 [.string ⟨#[]⟩, .int .i64 0, .int .i64 0] fun g1 => ?_
 refine RR [1, 1, 1] .z (.i 4 (.int .i64 (rd 0 A e (num (List.drop A s))).fst) (.k (.d (.d (.k .a))))) (.k (.u (.i (.string (mkS s)) (.i (.int .i64 (↑(rd 0 A e (num (List.drop A s))).snd.fst : Int)) (.i (.int .i64 (rd 0 A e (num (List.drop A s))).snd.snd) .z))) .a)) ?_
 refine RZ (NT (SQ (RG ?_)))
 refine RR [1, 1, 1, 0, 0, 0] .z (.k (.d (.k .z))) (.u (.k (.i (.int .i64 (↑(rd 0 A e (num (List.drop A s))).snd.fst : Int)) (.i (.int .i64 (rd 0 A e (num (List.drop A s))).snd.snd) .z))) .a) ?_
 refine RZ (NT (SQ (RG ?_)))
 refine RR [] .z (.i 2 (.int .i64 (rd 0 A e (num (List.drop A s))).fst) .z) .a ?_
 refine RZ (NT (RE ?_))
 refine NE [0] (.k .z) (.d (.k .a)) [] (.int .i64 (rd 0 A e (num (List.drop A s))).fst) ?_
 exact ⟨rfl, rfl⟩
theorem tcount_spec (g A : Nat) (s : List UInt8) (e : Int) (hA : A ≤ s.length) (hl : s.length ≤ 1099511627776) :
  Does Tryz.prog 67 [.pointer (some ⟨g, 0, none⟩)] [tkr g s A e] (fun v hp' => v = .int .i64 (rC s 1048576 (A, e)).1 ∧ hp' = [tkr g s (rC s 1048576 (A, e)).2.1 (rC s 1048576 (A, e)).2.2]) := by
 have h := rCount_spec s A e 1048576 hA hl
 unfold rrd at h
 unfold tkr
 refine fn_enter Tryz.func67 rfl 18 rfl fun w0 h0 => ?_
 refine SQ (RG ?_)
 refine RR [] .z (.i 2 (.int .i64 0) .a) .a ?_
 refine RZ (NT (SQ (RG ?_)))
 refine RR [0, 0, 0] (.d (.d (.d (.d .a)))) (.i 9 (.agg #[.string (mkS s), .int .i64 (↑A : Int), .int .i64 e]) .a) .a ?_
 refine RC (dst := some 10) [] .a (h) ?_
 rintro v _ ⟨rfl, rfl⟩
 refine RP [] (.d (.d (.d (.d .a)))) 3 (.i 12 (.int .i64 (rd 0 A e (cnt (List.drop A s) 1048576)).fst) (.i 11 (.agg #[.string (mkS s), .int .i64 (↑(rd 0 A e (cnt (List.drop A s) 1048576)).snd.fst : Int), .int .i64 (rd 0 A e (cnt (List.drop A s) 1048576)).snd.snd]) (.d (.d (.k .a))))) .a 134 [.string ⟨#[]⟩, .int .i64 0, .int .i64 0] fun g1 => ?_
 refine RR [1, 1, 1] .z (.i 4 (.int .i64 (rd 0 A e (cnt (List.drop A s) 1048576)).fst) (.k (.d (.d (.k .a))))) (.k (.u (.i (.string (mkS s)) (.i (.int .i64 (↑(rd 0 A e (cnt (List.drop A s) 1048576)).snd.fst : Int)) (.i (.int .i64 (rd 0 A e (cnt (List.drop A s) 1048576)).snd.snd) .z))) .a)) ?_
 refine RZ (NT (SQ (RG ?_)))
 refine RR [1, 1, 1, 0, 0, 0] .z (.k (.d (.k .z))) (.u (.k (.i (.int .i64 (↑(rd 0 A e (cnt (List.drop A s) 1048576)).snd.fst : Int)) (.i (.int .i64 (rd 0 A e (cnt (List.drop A s) 1048576)).snd.snd) .z))) .a) ?_
 refine RZ (NT (SQ (RG ?_)))
 refine RR [] .z (.i 2 (.int .i64 (rd 0 A e (cnt (List.drop A s) 1048576)).fst) .z) .a ?_
 refine RZ (NT (RE ?_))
 refine NE [0] (.k .z) (.d (.k .a)) [] (.int .i64 (rd 0 A e (cnt (List.drop A s) 1048576)).fst) ?_
 exact ⟨rfl, rfl⟩
theorem ttext_spec (g A : Nat) (s : List UInt8) (e : Int) (hA : A ≤ s.length) (hl : s.length ≤ 1099511627776) :
  Does Tryz.prog 69 [.pointer (some ⟨g, 0, none⟩)] [tkr g s A e] (fun v hp' => v = .string (mkS (rTx s (A, e)).1) ∧ hp' = [tkr g s (rTx s (A, e)).2.1 (rTx s (A, e)).2.2]) := by
 have h := rText_spec s A e 255 hA hl
 unfold rrd at h
 unfold tkr
 refine fn_enter Tryz.func69 rfl 18 rfl fun w0 h0 => ?_
 refine SQ (RG ?_)
 refine RR [] .z (.i 2 (.string ⟨#[]⟩) .a) .a ?_
 refine RZ (NT (SQ (RG ?_)))
 refine RR [0, 0, 0] (.d (.d (.d (.d .a)))) (.i 9 (.agg #[.string (mkS s), .int .i64 (↑A : Int), .int .i64 e]) .a) .a ?_
 refine RC (dst := some 10) [] .a (h) ?_
 rintro v _ ⟨rfl, rfl⟩
 refine RP [] (.d (.d (.d (.d .a)))) 3 (.i 12 (.string (mkS (rd [] A e (txW (List.drop A s) 255)).fst)) (.i 11 (.agg #[.string (mkS s), .int .i64 (↑(rd [] A e (txW (List.drop A s) 255)).snd.fst : Int), .int .i64 (rd [] A e (txW (List.drop A s) 255)).snd.snd]) (.d (.d (.k .a))))) .a 134 [.string ⟨#[]⟩, .int .i64 0, .int .i64 0] fun g1 => ?_
 refine RR [1, 1, 1] .z (.i 4 (.string (mkS (rd [] A e (txW (List.drop A s) 255)).fst)) (.k (.d (.d (.k .a))))) (.k (.u (.i (.string (mkS s)) (.i (.int .i64 (↑(rd [] A e (txW (List.drop A s) 255)).snd.fst : Int)) (.i (.int .i64 (rd [] A e (txW (List.drop A s) 255)).snd.snd) .z))) .a)) ?_
 refine RZ (NT (SQ (RG ?_)))
 refine RR [1, 1, 1, 0, 0, 0] .z (.k (.d (.k .z))) (.u (.k (.i (.int .i64 (↑(rd [] A e (txW (List.drop A s) 255)).snd.fst : Int)) (.i (.int .i64 (rd [] A e (txW (List.drop A s) 255)).snd.snd) .z))) .a) ?_
 refine RZ (NT (SQ (RG ?_)))
 refine RR [] .z (.i 2 (.string (mkS (rd [] A e (txW (List.drop A s) 255)).fst)) .z) .a ?_
 refine RZ (NT (RE ?_))
 refine NE [0] (.k .z) (.d (.k .a)) [] (.string (mkS (rd [] A e (txW (List.drop A s) 255)).fst)) ?_
 exact ⟨rfl, rfl⟩
theorem ttruth_spec (g A : Nat) (s : List UInt8) (e : Int) (hA : A ≤ s.length) (hl : s.length ≤ 1099511627776) :
  Does Tryz.prog 121 [.pointer (some ⟨g, 0, none⟩)] [tkr g s A e] (fun v hp' => v = .bool (rBo s (A, e)).1 ∧ hp' = [tkr g s (rBo s (A, e)).2.1 (rBo s (A, e)).2.2]) := by
 have h := rBool_spec s A e hA hl
 unfold rrd at h
 unfold tkr
 refine fn_enter Tryz.func121 rfl 18 rfl fun w0 h0 => ?_
 refine SQ (RG ?_)
 refine RR [] .z (.i 2 (.bool false) .a) .a ?_
 refine RZ (NT (SQ (RG ?_)))
 refine RR [0, 0, 0] (.d (.d (.d (.d .a)))) (.i 9 (.agg #[.string (mkS s), .int .i64 (↑A : Int), .int .i64 e]) .a) .a ?_
 refine RC (dst := some 10) [] .a (h) ?_
 rintro v _ ⟨rfl, rfl⟩
 refine RP [] (.d (.d (.d (.d .a)))) 3 (.i 12 (.bool (rd false A e (bol (List.drop A s))).fst) (.i 11 (.agg #[.string (mkS s), .int .i64 (↑(rd false A e (bol (List.drop A s))).snd.fst : Int), .int .i64 (rd false A e (bol (List.drop A s))).snd.snd]) (.d (.d (.k .a))))) .a 134 [.string ⟨#[]⟩, .int .i64 0, .int .i64 0] fun g1 => ?_
 refine RR [1, 1, 1] .z (.i 4 (.bool (rd false A e (bol (List.drop A s))).fst) (.k (.d (.d (.k .a))))) (.k (.u (.i (.string (mkS s)) (.i (.int .i64 (↑(rd false A e (bol (List.drop A s))).snd.fst : Int)) (.i (.int .i64 (rd false A e (bol (List.drop A s))).snd.snd) .z))) .a)) ?_
 refine RZ (NT (SQ (RG ?_)))
 refine RR [1, 1, 1, 0, 0, 0] .z (.k (.d (.k .z))) (.u (.k (.i (.int .i64 (↑(rd false A e (bol (List.drop A s))).snd.fst : Int)) (.i (.int .i64 (rd false A e (bol (List.drop A s))).snd.snd) .z))) .a) ?_
 refine RZ (NT (SQ (RG ?_)))
 refine RR [] .z (.i 2 (.bool (rd false A e (bol (List.drop A s))).fst) .z) .a ?_
 refine RZ (NT (RE ?_))
 refine NE [0] (.k .z) (.d (.k .a)) [] (.bool (rd false A e (bol (List.drop A s))).fst) ?_
 exact ⟨rfl, rfl⟩
theorem twell_spec (g : Nat) (A : Int) (s : List UInt8) (e : Int) :
  Does Tryz.prog 68 [.pointer (some ⟨g, 0, none⟩)] [tkr g s A e] (fun v hp' => v = .bool (decide (e = 0)) ∧ hp' = [tkr g s A e]) := by
 unfold tkr
 refine fn_enter Tryz.func68 rfl 9 rfl fun w0 h0 => ?_
 refine SQ (RG ?_)
 refine RR [] .z (.i 2 (.bool false) .a) .a ?_
 refine RZ (NT (SQ (RG ?_)))
 refine RR [0] .z (.i 2 (.bool (e == (0 : Int))) .z) .a ?_
 refine RZ (NT (RE ?_))
 refine NE [0] .a .z [] (.bool (e == 0)) ?_
 refine ⟨?_, rfl⟩
 by_cases h : e = 0 <;> simp [h]
theorem ttexts_spec (r A : Nat) (s : List UInt8) (e : Int) (hA : A ≤ s.length) (hl : s.length ≤ 1099511627776) :
  Does Tryz.prog 66 [.pointer (some ⟨r, 0, none⟩)] [tkr r s A e]
   (fun v hp' => ∃ a c, v = .slice a (rTs s (A, e)).1.length c ∧ hp' = [row 9 1 a (rTs s (A, e)).1.length c (strsC (rTs s (A, e)).1), tkr r s (rTs s (A, e)).2.1 (rTs s (A, e)).2.2]) := by
 refine fn_enter Tryz.func66 rfl 23 rfl fun w0 h0 => ?_
 refine SQ (RG ?_)
 refine RR [] .z (.i 2 (.slice none 0 0) .a) (.i (.blk r 136 [.string (mkS s), .int .i64 (↑A : Int), .int .i64 e]) .z) ?_
 refine RZ (NT (SQ (RG ?_)))
 refine RR [] .z (.i 3 (.slice none 0 0) .a) .a ?_
 refine RZ (NT (SQ (RG ?_)))
 refine RR [] (.d .a) (.i 6 (.pointer (some ⟨r, 0, none⟩)) .a) .a ?_
 have hccX := goes_rC s 1048576 (A, e) hA
 have hcrX := rC_rng s (A, e)
 refine RCA (dst := some 7) (tcount_spec r A s e hA hl) ?_
 rintro v _ ⟨rfl, rfl⟩
 obtain ⟨⟨nzX, BX, fX⟩, hxnX⟩ : ∃ x, x = rC s 1048576 (A, e) := ⟨_, rfl⟩
 rw [← hxnX] at hccX hcrX ⊢
 dsimp only at hccX hcrX ⊢
 obtain ⟨nX, rfl⟩ := Int.eq_ofNat_of_zero_le hcrX.1
 obtain ⟨⟨LX, AX9, eX9⟩, hxcX⟩ : ∃ x, x = rMany (rTx s) nX (BX, fX) := ⟨_, rfl⟩
 have hgX := goes_many (goes_rTx s) nX (BX, fX) hccX.2.1
 have hlnX := many_len (goes_rTx s) nX (BX, fX) hccX.2.1
 rw [← hxcX] at hgX hlnX
 dsimp only at hgX hlnX
 refine RR [] .z (.i 4 (.int .i64 (↑nX : Int)) (.d (.d (.k .a)))) (.i (.blk r 136 [.string (mkS s), .int .i64 (↑BX : Int), .int .i64 fX]) .z) ?_
 refine RZ (NT (SQ (SQ (RG ?_))))
 refine RR [] .z (.i 5 (.int .i64 0) .a) .a ?_
 refine RZ (NT (BK ?_))
 have hS : rTs s (A, e) = (LX, AX9, eX9) := by unfold rTs rRows; rw [← hxnX]; dsimp only; rw [Int.toNat_natCast, ← hxcX]
 rw [hS]
 dsimp only
 refine wpc_loop (X := {x : Nat × Option Addr × Nat × List Tx × Nat × Int // x.1 ≤ nX ∧ x.2.2.2.2.1 ≤ s.length ∧ LX = x.2.2.2.1 ++ (rMany (rTx s) (nX - x.1) x.2.2.2.2).1 ∧ (AX9, eX9) = (rMany (rTx s) (nX - x.1) x.2.2.2.2).2}) (fun x => St.mk [(5, .int .i64 (x.1.1 : Int)), (4, .int .i64 (nX : Int)), (3, .slice x.1.2.1 x.1.2.2.2.1.length x.1.2.2.1), (2, .slice none 0 0), (0, .pointer (some ⟨r, 0, none⟩))]
  [row 9 1 x.1.2.1 x.1.2.2.2.1.length x.1.2.2.1 (strsC x.1.2.2.2.1), tkr r s x.1.2.2.2.2.1 x.1.2.2.2.2.2]) (fun x => nX - x.1.1) ⟨(0, none, 0, [], BX, fX), Nat.zero_le _, hccX.2.1, by rw [Nat.sub_zero, ← hxcX]; rfl, by rw [Nat.sub_zero, ← hxcX]⟩ ?_ ?_
 ·exact Ent.trans (ent_nil 9 1) (ent_fr (by kernel_rfl))
 rintro ⟨⟨iX, aX, cX, lX, AX2, eX2⟩, hinX, hA2X, hLX, hpX⟩
 dsimp only at hinX hA2X hLX hpX ⊢
 have hllX : lX.length ≤ 1048576 := by
  have := congrArg List.length hLX
  rw [List.length_append] at this
  omega
 by_cases hgoX : iX < nX ∧ eX2 = 0
 ·obtain ⟨hltX, rfl⟩ := hgoX
  obtain ⟨k, hk2⟩ : ∃ k, nX - iX = k + 1 := ⟨nX - iX - 1, by omega⟩
  have hk3 : nX - (iX + 1) = k := by omega
  rw [hk2, rMany_succ _ _ _ rfl] at hLX hpX
  refine SQ (SQ (RG ?_))
  refine RR [] (.d (.d (.d (.d .a)))) (.i 11 (.bool (decide ((↑iX : Int) < (↑nX : Int)))) .a) (.k (.i (.blk r 136 [.string (mkS s), .int .i64 (↑AX2 : Int), .int .i64 0]) .z)) ?_
  refine SR 11 (decide ((↑iX : Int) < (↑nX : Int))) true (decide_eq_true (by omega)) ?_
  refine RR [] (.d .a) (.i 12 (.pointer (some ⟨r, 0, none⟩)) (.k (.d (.k .a)))) .a ?_
  refine RC (dst := some 13) [1] (.k .z) (twell_spec r AX2 s 0) ?_
  rintro v _ ⟨rfl, rfl⟩
  refine RR [] .z (.i 14 (.bool true) (.d (.d (.d (.k .a))))) (.i (.blk r 136 [.string (mkS s), .int .i64 (↑AX2 : Int), .int .i64 0]) (.d (.k .a))) ?_
  refine RZ (NT (CT (SK (NT (SQ (BK (RG ?_)))))))
  refine RR [] (.d (.d .a)) (.i 18 (.pointer (some ⟨r, 0, none⟩)) (.i 17 (.slice aX lX.length cX) (.d (.k .a)))) .a ?_
  have hg2 := goes_rTx s (AX2, 0) hA2X
  refine RC (dst := some 19) [0] (.d (.k .a)) (ttext_spec r AX2 s 0 hA2X hl) ?_
  rintro v _ ⟨rfl, rfl⟩
  obtain ⟨⟨v, A3, e3⟩, hv⟩ : ∃ x, x = rTx s (AX2, 0) := ⟨_, rfl⟩
  rw [← hv] at hg2 hLX hpX ⊢
  dsimp only at hg2 hLX hpX ⊢
  refine RN [] (.d .a) 20 (fun g1 => (.slice (some ⟨g1, 0, none⟩) 1 1)) (.d (.d (.k .a))) (.i (.blk r 136 [.string (mkS s), .int .i64 (↑A3 : Int), .int .i64 e3]) (.d (.k .a))) 9 [.string (mkS v)] fun g1 => ?_
  refine wpr_ent (ent_turn 2 (ro (some ⟨g1, 0, none⟩) [.string (mkS v)]) rfl (turn_rblk (str1 v)) rfl) ?_
  refine wpr_app (a := aX) (n := lX.length) (cap := cX) (x := (.slice (some ⟨g1, 0, none⟩) 1 1)) (t := 22) (xt := 22) (dst := some 21) (by kernel_rfl) (e := 9) (sz := 1) (bytes := 16) (by kernel_rfl) 1 (xs := (strsC lX)) (by kernel_rfl) (m := 1) (news := [.string (mkS v)]) (fun w h => src_ro h 2 rfl rfl (fun e => by cases e)) (by unfold maxLen; omega) (by omega) ?_
  intro a3 c3 hn3
  rw [strs_app, show lX.length + 1 = (lX ++ [v]).length by simp]
  refine RR [] .z (.i 3 (.slice a3 (lX ++ [v]).length c3) (.d (.d (.d (.k (.k (.d (.k .a)))))))) .a ?_
  refine RZ (BN (NT (RG ?_)))
  refine RV true [] .z (.i 5 (.int .i64 ((↑iX : Int) + 1)) (.k (.d (.k .a)))) .a ([inI64 ((↑iX : Int) + (1 : Int))]) ⟨by unfold inI64; omega, trivial⟩ ?_
  refine RZ ?_
  exact fun a' w' hS' => ⟨⟨(iX + 1, a3, c3, lX ++ [v], A3, e3), hltX, hg2.2.1, by dsimp only; rw [hk3, hLX, List.append_assoc]; rfl, by dsimp only; rw [hk3]; exact hpX⟩, by dsimp only; omega, ent_fr (by kernel_rfl) _ _ (ent_hp [1, 0] rfl _ _ hS')⟩
 ·have hstopX : rMany (rTx s) (nX - iX) (AX2, eX2) = ([], AX2, eX2) := by
   by_cases he : eX2 = 0
   ·have : nX - iX = 0 := by have : ¬ iX < nX := fun h => hgoX ⟨h, he⟩; omega
    rw [this]; rfl
   ·exact rMany_nil _ _ _ he
  rw [hstopX] at hLX hpX
  cases hpX
  rw [List.append_nil] at hLX
  subst hLX
  refine SQ (SQ (RG ?_))
  refine RR [] (.d (.d (.d (.d .a)))) (.i 11 (.bool (decide ((↑iX : Int) < (↑nX : Int)))) .a) (.k (.i (.blk r 136 [.string (mkS s), .int .i64 (↑AX9 : Int), .int .i64 eX9]) .z)) ?_
  refine wpr_join ⟨[(14, .bool false), (5, (.int .i64 (↑iX : Int))), (4, (.int .i64 (↑nX : Int))), (3, (.slice aX LX.length cX)), (2, (.slice none 0 0)), (0, (.pointer (some ⟨r, 0, none⟩)))], [row 9 1 aX LX.length cX (strsC LX), .blk r 136 [.string (mkS s), .int .i64 (↑AX9 : Int), .int .i64 eX9]]⟩ (fun Q1 hQ1 hk => ?_) ?_
  ·by_cases h : iX < nX
   ·have he : ¬ eX9 = 0 := fun he => hgoX ⟨h, he⟩
    refine SR 11 (decide ((↑iX : Int) < (↑nX : Int))) true (decide_eq_true (by omega)) ?_
    refine RR [] (.d .a) (.i 12 (.pointer (some ⟨r, 0, none⟩)) (.k (.d (.k .a)))) .a ?_
    refine RC (dst := some 13) [1] (.k .z) (twell_spec r AX9 s eX9) ?_
    rintro v _ ⟨rfl, rfl⟩
    rw [decide_eq_false he]
    refine RR [] .z (.i 14 (.bool false) (.d (.d (.d (.k .a))))) (.i (.blk r 136 [.string (mkS s), .int .i64 (↑AX9 : Int), .int .i64 eX9]) (.d (.k .a))) ?_
    refine RZ ?_
    exact nx_ent (ent_hp [1, 0] rfl) (nx_ent (ent_fr (by kernel_rfl)) hk)
   ·refine SR 11 (decide ((↑iX : Int) < (↑nX : Int))) false (decide_eq_false (by omega)) ?_
    refine RR [] .z (.i 14 (.bool false) (.d (.d (.k .a)))) .a ?_
    refine RZ ?_
    exact nx_ent (ent_hp [0, 0] rfl) (nx_ent (ent_fr (by kernel_rfl)) hk)
  ·refine NT (CF (EX (TE (TE (BH (NT (SQ (RG ?_))))))))
   refine RR [] .z (.i 2 (.slice aX LX.length cX) .z) .a ?_
   refine RZ (NT (RE ?_))
   refine NE [0, 0] .a .z [] (.slice aX LX.length cX) ?_
   exact ⟨aX, cX, rfl, rfl⟩
set_option maxHeartbeats 8000000 in
theorem tunit_spec (r A : Nat) (s : List UInt8) (e : Int) (hA : A ≤ s.length) (hl : s.length ≤ 1099511627776) :
  Does Tryz.prog 70 [.pointer (some ⟨r, 0, none⟩)] [tkr r s A e] (fun v hp' => ∃ o : UnV, o.p = (rU s (A, e)).1 ∧ v = .agg #[.string (mkS o.name), .int .i64 o.params, .int .i64 o.slots, .int .i64 o.stack, .bool o.result, .slice o.ia o.ins.length o.ic, .slice o.va o.vars.length o.vc] ∧ hp' = [tkr r s (rU s (A, e)).2.1 (rU s (A, e)).2.2] ++ unRows o) := by
 refine fn_enter Tryz.func70 rfl 76 rfl fun w0 h0 => ?_
 refine SQ (RG ?_)
 refine RP [] .z 2 .a (.i (.blk r 136 [.string (mkS s), .int .i64 (↑A : Int), .int .i64 e]) .z) 59 [.string ⟨#[]⟩, .int .i64 0, .int .i64 0, .int .i64 0, .bool false, .slice none 0 0, .slice none 0 0] fun g1 => ?_
 refine RZ (NT (SQ (RG ?_)))
 refine RR [] (.d .a) (.i 9 (.pointer (some ⟨r, 0, none⟩)) .a) .a ?_
 have ht := goes_rTx s (A, e) hA
 refine RC (dst := some 10) [0] (.d (.k .a)) (ttext_spec r A s e hA hl) ?_
 rintro v _ ⟨rfl, rfl⟩
 obtain ⟨⟨t, At, et⟩, hxt⟩ : ∃ y, y = rTx s (A, e) := ⟨_, rfl⟩
 rw [← hxt] at ht ⊢
 dsimp only at ht ⊢
 refine RP [] (.d (.d .a)) 3 (.i 11 (.agg #[.string (mkS t), .int .i64 0, .int .i64 0, .int .i64 0, .bool false, .slice none 0 0, .slice none 0 0]) (.d (.d (.k .a)))) (.i (.blk r 136 [.string (mkS s), .int .i64 (↑At : Int), .int .i64 et]) (.d (.k .a))) 59 [.string ⟨#[]⟩, .int .i64 0, .int .i64 0, .int .i64 0, .bool false, .slice none 0 0, .slice none 0 0] fun g2 => ?_
 refine RR [2, 2, 2, 2, 2, 2, 2] .z (.k (.d (.k .a))) (.k (.k (.u (.i (.string (mkS t)) (.d (.k .a))) .a))) ?_
 refine RZ (NT (SQ (RG ?_)))
 refine RR [] (.d .a) (.i 12 (.pointer (some ⟨r, 0, none⟩)) .a) .a ?_
 have hp := goes_rI s (At, et) ht.2.1
 refine RC (dst := some 13) [0] (.d (.k .a)) (tnum_spec r At s et ht.2.1 hl) ?_
 rintro v _ ⟨rfl, rfl⟩
 obtain ⟨⟨p, Ap, ep⟩, hxp⟩ : ∃ y, y = rI s (At, et) := ⟨_, rfl⟩
 rw [← hxp] at hp ⊢
 dsimp only at hp ⊢
 refine RR [2] .z (.d (.d (.k .a))) (.i (.blk r 136 [.string (mkS s), .int .i64 (↑Ap : Int), .int .i64 ep]) (.d (.k (.u (.k (.i (.int .i64 p) (.d (.k .a)))) .a)))) ?_
 refine RZ (NT (SQ (RG ?_)))
 refine RR [] (.d .a) (.i 15 (.pointer (some ⟨r, 0, none⟩)) .a) .a ?_
 have hq := goes_rI s (Ap, ep) hp.2.1
 refine RC (dst := some 16) [0] (.d (.k .a)) (tnum_spec r Ap s ep hp.2.1 hl) ?_
 rintro v _ ⟨rfl, rfl⟩
 obtain ⟨⟨q, Aq, eq⟩, hxq⟩ : ∃ y, y = rI s (Ap, ep) := ⟨_, rfl⟩
 rw [← hxq] at hq ⊢
 dsimp only at hq ⊢
 refine RR [2] .z (.d (.d (.k .a))) (.i (.blk r 136 [.string (mkS s), .int .i64 (↑Aq : Int), .int .i64 eq]) (.d (.k (.u (.k (.k (.i (.int .i64 q) (.d (.k .a))))) .a)))) ?_
 refine RZ (NT (SQ (RG ?_)))
 refine RR [] (.d .a) (.i 18 (.pointer (some ⟨r, 0, none⟩)) .a) .a ?_
 have hz := goes_rI s (Aq, eq) hq.2.1
 refine RC (dst := some 19) [0] (.d (.k .a)) (tnum_spec r Aq s eq hq.2.1 hl) ?_
 rintro v _ ⟨rfl, rfl⟩
 obtain ⟨⟨z, Az, ez⟩, hxz⟩ : ∃ y, y = rI s (Aq, eq) := ⟨_, rfl⟩
 rw [← hxz] at hz ⊢
 dsimp only at hz ⊢
 refine RR [2] .z (.d (.d (.k .a))) (.i (.blk r 136 [.string (mkS s), .int .i64 (↑Az : Int), .int .i64 ez]) (.d (.k (.u (.k (.k (.k (.i (.int .i64 z) (.d (.k .a)))))) .a)))) ?_
 refine RZ (NT (SQ (RG ?_)))
 refine RR [] (.d .a) (.i 21 (.pointer (some ⟨r, 0, none⟩)) .a) .a ?_
 have hb := goes_rBo s (Az, ez) hz.2.1
 refine RC (dst := some 22) [0] (.d (.k .a)) (ttruth_spec r Az s ez hz.2.1 hl) ?_
 rintro v _ ⟨rfl, rfl⟩
 obtain ⟨⟨b, Ab, eb⟩, hxb⟩ : ∃ y, y = rBo s (Az, ez) := ⟨_, rfl⟩
 rw [← hxb] at hb ⊢
 dsimp only at hb ⊢
 refine RR [2] .z (.d (.d (.k .a))) (.i (.blk r 136 [.string (mkS s), .int .i64 (↑Ab : Int), .int .i64 eb]) (.d (.k (.u (.k (.k (.k (.k (.i (.bool b) (.d (.k .a))))))) .a)))) ?_
 refine RZ (NT (SQ (RG ?_)))
 refine RR [] (.d .a) (.i 24 (.pointer (some ⟨r, 0, none⟩)) .a) .a ?_
 have hccI := goes_rC s 1048576 (Ab, eb) hb.2.1
 have hcrI := rC_rng s (Ab, eb)
 refine RC (dst := some 25) [0] (.d (.k .a)) (tcount_spec r Ab s eb hb.2.1 hl) ?_
 rintro v _ ⟨rfl, rfl⟩
 obtain ⟨⟨nzI, BI, fI⟩, hxnI⟩ : ∃ x, x = rC s 1048576 (Ab, eb) := ⟨_, rfl⟩
 rw [← hxnI] at hccI hcrI ⊢
 dsimp only at hccI hcrI ⊢
 obtain ⟨nI, rfl⟩ := Int.eq_ofNat_of_zero_le hcrI.1
 obtain ⟨⟨LI, AI9, eI9⟩, hxcI⟩ : ∃ x, x = rMany (rIn s) nI (BI, fI) := ⟨_, rfl⟩
 have hgI := goes_many (goes_rIn s) nI (BI, fI) hccI.2.1
 have hlnI := many_len (goes_rIn s) nI (BI, fI) hccI.2.1
 rw [← hxcI] at hgI hlnI
 dsimp only at hgI hlnI
 refine RR [] .z (.i 4 (.int .i64 (↑nI : Int)) (.d (.d (.k .a)))) (.i (.blk r 136 [.string (mkS s), .int .i64 (↑BI : Int), .int .i64 fI]) (.d (.k .a))) ?_
 refine RZ (NT (SQ (SQ (RG ?_))))
 refine RR [] .z (.i 5 (.int .i64 0) .a) .a ?_
 refine RZ (NT (BK ?_))
 refine wpc_loop (X := {x : Nat × Option Addr × Nat × List InP × Nat × Int // x.1 ≤ nI ∧ x.2.2.2.2.1 ≤ s.length ∧ LI = x.2.2.2.1 ++ (rMany (rIn s) (nI - x.1) x.2.2.2.2).1 ∧ (AI9, eI9) = (rMany (rIn s) (nI - x.1) x.2.2.2.2).2}) (fun x => St.mk [(5, .int .i64 (x.1.1 : Int)), (4, .int .i64 (nI : Int)), (3, .pointer (some ⟨g2, 0, none⟩)), (2, .pointer (some ⟨g1, 0, none⟩)), (0, .pointer (some ⟨r, 0, none⟩))]
  [row 62 2 x.1.2.1 x.1.2.2.2.1.length x.1.2.2.1 (x.1.2.2.2.1.flatMap insC), tkr r s x.1.2.2.2.2.1 x.1.2.2.2.2.2, .blk g1 59 [.string ⟨#[]⟩, .int .i64 0, .int .i64 0, .int .i64 0, .bool false, .slice none 0 0, .slice none 0 0], .blk g2 59 [.string (mkS t), .int .i64 p, .int .i64 q, .int .i64 z, .bool b, .slice x.1.2.1 x.1.2.2.2.1.length x.1.2.2.1, .slice none 0 0]]) (fun x => nI - x.1.1) ⟨(0, none, 0, [], BI, fI), Nat.zero_le _, hccI.2.1, by rw [Nat.sub_zero, ← hxcI]; rfl, by rw [Nat.sub_zero, ← hxcI]⟩ ?_ ?_
 ·exact Ent.trans (ent_nil 62 2) (ent_fr (by kernel_rfl))
 rintro ⟨⟨iI, aI, cI, lI, AI2, eI2⟩, hinI, hA2I, hLI, hpI⟩
 dsimp only at hinI hA2I hLI hpI ⊢
 have hllI : lI.length ≤ 1048576 := by
  have := congrArg List.length hLI
  rw [List.length_append] at this
  omega
 by_cases hgoI : iI < nI ∧ eI2 = 0
 ·obtain ⟨hltI, rfl⟩ := hgoI
  obtain ⟨k, hk2⟩ : ∃ k, nI - iI = k + 1 := ⟨nI - iI - 1, by omega⟩
  have hk3 : nI - (iI + 1) = k := by omega
  rw [hk2, rMany_succ _ _ _ rfl] at hLI hpI
  refine SQ (SQ (RG ?_))
  refine RR [] (.d (.d (.d (.d .a)))) (.i 29 (.bool (decide ((↑iI : Int) < (↑nI : Int)))) .a) (.k (.i (.blk r 136 [.string (mkS s), .int .i64 (↑AI2 : Int), .int .i64 0]) (.d (.k .a)))) ?_
  refine SR 29 (decide ((↑iI : Int) < (↑nI : Int))) true (decide_eq_true (by omega)) ?_
  refine RR [] (.d .a) (.i 30 (.pointer (some ⟨r, 0, none⟩)) (.k (.d (.k .a)))) .a ?_
  refine RC (dst := some 31) [1] (.k (.d (.k .a))) (twell_spec r AI2 s 0) ?_
  rintro v _ ⟨rfl, rfl⟩
  refine RR [] .z (.i 32 (.bool true) (.d (.d (.d (.k .a))))) (.i (.blk r 136 [.string (mkS s), .int .i64 (↑AI2 : Int), .int .i64 0]) (.d (.k .a))) ?_
  refine RZ (NT (CT (SK (NT (SQ (BK (SQ (RG ?_))))))))
  refine RR [] (.d .a) (.i 35 (.pointer (some ⟨r, 0, none⟩)) (.d (.k .a))) .a ?_
  have hu := goes_rI s (AI2, 0) hA2I
  refine RC (dst := some 36) [0] (.d (.k .a)) (tnum_spec r AI2 s 0 hA2I hl) ?_
  rintro v _ ⟨rfl, rfl⟩
  obtain ⟨⟨u, Au, eu⟩, hxu⟩ : ∃ x, x = rI s (AI2, 0) := ⟨_, rfl⟩
  rw [← hxu] at hu ⊢
  dsimp only at hu ⊢
  have hy := goes_rI s (Au, eu) hu.2.1
  obtain ⟨⟨y, Ay, ey⟩, hxy⟩ : ∃ x, x = rI s (Au, eu) := ⟨_, rfl⟩
  rw [← hxy] at hy
  dsimp only at hy
  have hR : rIn s (AI2, 0) = ((u, y), Ay, ey) := by
   unfold rIn sq
   rw [← hxu]; dsimp only
   rw [← hxy]
  rw [hR] at hLI hpI
  dsimp only at hLI hpI
  refine RR [] .z (.i 6 (.int .i64 u) (.d (.d (.k .a)))) (.i (.blk r 136 [.string (mkS s), .int .i64 (↑Au : Int), .int .i64 eu]) (.d (.k .a))) ?_
  refine RZ (NT ?_)
  refine wpc_draw (by kernel_rfl) [] (sub_of [] (by kernel_rfl)) 10 (by kernel_rfl) ?_
  refine wpa_joinx (X := Option Addr × Nat) (fun w => St.mk [(5, .int .i64 (iI : Int)), (4, .int .i64 (nI : Int)), (3, .pointer (some ⟨g2, 0, none⟩)), (2, .pointer (some ⟨g1, 0, none⟩)), (0, .pointer (some ⟨r, 0, none⟩))]
   [row 62 2 w.1 (lI ++ [(u, y)]).length w.2 ((lI ++ [(u, y)]).flatMap insC), tkr r s Ay ey, .blk g1 59 [.string ⟨#[]⟩, .int .i64 0, .int .i64 0, .int .i64 0, .bool false, .slice none 0 0, .slice none 0 0], .blk g2 59 [.string (mkS t), .int .i64 p, .int .i64 q, .int .i64 z, .bool b, .slice w.1 (lI ++ [(u, y)]).length w.2, .slice none 0 0]]) (fun Q1 hQ1 hk => ?_) ?_
  ·refine TK 7 [(0, []), (2, []), (3, [])] (.i 40 (.pointer (some ⟨r, 0, none⟩)) (.i 39 (.int .i64 u) (.i 37 (.pointer (some ⟨g2, 5, none⟩)) (.d (.k .a))))) (#[true, false, true, true, false, false, false, false, false, false]) ?_
   refine wpa_two (i := 1) (j := 4) (n := 6) (by kernel_rfl) ?_ ?_
   ·refine wpi_one (n := 6) true 1 [3] [(38, .slice aI lI.length cI), (40, .pointer (some ⟨r, 0, none⟩)), (39, .int .i64 u), (5, .int .i64 (↑iI : Int)), (4, .int .i64 (↑nI : Int)), (3, .pointer (some ⟨g2, 0, none⟩)), (2, .pointer (some ⟨g1, 0, none⟩)), (0, .pointer (some ⟨r, 0, none⟩))] [.blk r 136 [.string (mkS s), .int .i64 (↑Au : Int), .int .i64 eu], row 62 2 aI lI.length cI (List.flatMap insC lI), .blk g1 59 [.string ⟨#[]⟩, .int .i64 0, .int .i64 0, .int .i64 0, .bool false, .slice none 0 0, .slice none 0 0], .blk g2 59 [.string (mkS t), .int .i64 p, .int .i64 q, .int .i64 z, .bool b, .slice aI lI.length cI, .slice none 0 0]] [] (by kernel_rfl) (by kernel_rfl) trivial (sub_of [] (by kernel_rfl)) ?_
    refine AC (dst := some 41) 5 4 (.d (.k .a)) (tnum_spec r Au s eu hu.2.1 hl) (GI [0]) [] ?_
    rintro v _ ⟨rfl, rfl⟩
    rw [← hxy]
    dsimp only
    refine TK 4 [(5, [])] (.i 42 (.agg #[.int .i64 u, .int .i64 y]) (.d (.k (.d (.d (.k .a)))))) (#[true, true, true, true, true, true, false, false, false, false]) ?_
    refine wpa_new (n := 3) true 6 [] (fun g3 => [(43, .slice (some ⟨g3, 0, none⟩) 1 1), (38, .slice aI lI.length cI), (5, .int .i64 (↑iI : Int)), (4, .int .i64 (↑nI : Int)), (3, .pointer (some ⟨g2, 0, none⟩)), (2, .pointer (some ⟨g1, 0, none⟩)), (0, .pointer (some ⟨r, 0, none⟩))]) (fun g3 => [.blk r 136 [.string (mkS s), .int .i64 (↑Ay : Int), .int .i64 ey], row 62 2 aI lI.length cI (List.flatMap insC lI), .blk g1 59 [.string ⟨#[]⟩, .int .i64 0, .int .i64 0, .int .i64 0, .bool false, .slice none 0 0, .slice none 0 0], .blk g2 59 [.string (mkS t), .int .i64 p, .int .i64 q, .int .i64 z, .bool b, .slice aI lI.length cI, .slice none 0 0], .blk g3 62 [.int .i64 u, .int .i64 y]]) (fun g3 => []) (by kernel_rfl) (fun g3 => by kernel_rfl) (fun g3 => by kernel_rfl) (fun g3 => trivial) (fun g3 => sub_of [] (by kernel_rfl)) fun g3 => ?_
    refine wpa_ent (ent_turn 4 (ro (some ⟨g3, 0, none⟩) (insC (u, y))) rfl (turn_rblk (l := insC (u, y)) (ins1 _)) rfl) ?_
    refine wpa_app (i := 7) (nf := 2) (by kernel_rfl) (a := aI) (n := lI.length) (cap := cI) (x := (.slice (some ⟨g3, 0, none⟩) 1 1)) (t := 56) (xt := 56) (dst := some 44) (by kernel_rfl) (e := 62) (sz := 2) (bytes := 16) (by kernel_rfl) 1 (xs := (List.flatMap insC lI)) (by kernel_rfl) (m := 1) (news := (insC (u, y))) (fun w h => src_ro h 4 rfl rfl (fun e => by cases e)) (by unfold maxLen; omega) (by omega) [] (by kernel_rfl) ?_
    intro a3 c3 hn3
    rw [show lI.flatMap insC ++ insC (u, y) = (lI ++ [(u, y)]).flatMap insC by simp, show lI.length + 1 = (lI ++ [(u, y)]).length by simp]
    refine TK 1 [(8, [])] (.i 45 (.pointer (some ⟨g2, 5, none⟩)) (.k (.d (.d (.k .a))))) (#[true, true, true, true, true, true, true, true, true, false]) ?_
    refine AO 0 9 [3] (.d (.d (.k .a))) (.k (.k (.k (.u (.k (.k (.k (.k (.k (.i (.slice a3 (lI ++ [(u, y)]).length c3) (.d (.k .a)))))))) .a)))) [] ?_
    refine wpa_done 0 (by kernel_rfl) ?_
    exact nx_ent (ent_hp [1, 0, 0, 0] rfl) (nx_ent (ent_fr (by kernel_rfl)) (hk ⟨a3, c3⟩))
   ·refine wpi_call (i := 4) (dst := some 41) (rest := [row 62 2 aI lI.length cI (List.flatMap insC lI), .blk g1 59 [.string ⟨#[]⟩, .int .i64 0, .int .i64 0, .int .i64 0, .bool false, .slice none 0 0, .slice none 0 0], .blk g2 59 [.string (mkS t), .int .i64 p, .int .i64 q, .int .i64 z, .bool b, .slice aI lI.length cI, .slice none 0 0]]) (by kernel_rfl) (tnum_spec r Au s eu hu.2.1 hl) (give [0] (by kernel_rfl)) (sub_of [] (by kernel_rfl)) ?_
    rintro v _ ⟨rfl, rfl⟩
    rw [← hxy]
    dsimp only
    refine TK 5 [(5, [])] (.i 42 (.agg #[.int .i64 u, .int .i64 y]) (.d (.d (.d (.k .a))))) (#[true, false, true, true, true, true, false, false, false, false]) ?_
    refine wpa_two (i := 1) (j := 6) (n := 4) (by kernel_rfl) ?_ ?_
    ·refine wpi_one (n := 4) true 1 [3] [(38, .slice aI lI.length cI), (42, .agg #[.int .i64 u, .int .i64 y]), (5, .int .i64 (↑iI : Int)), (4, .int .i64 (↑nI : Int)), (3, .pointer (some ⟨g2, 0, none⟩)), (2, .pointer (some ⟨g1, 0, none⟩)), (0, .pointer (some ⟨r, 0, none⟩))] [.blk r 136 [.string (mkS s), .int .i64 (↑Ay : Int), .int .i64 ey], row 62 2 aI lI.length cI (List.flatMap insC lI), .blk g1 59 [.string ⟨#[]⟩, .int .i64 0, .int .i64 0, .int .i64 0, .bool false, .slice none 0 0, .slice none 0 0], .blk g2 59 [.string (mkS t), .int .i64 p, .int .i64 q, .int .i64 z, .bool b, .slice aI lI.length cI, .slice none 0 0]] [] (by kernel_rfl) (by kernel_rfl) trivial (sub_of [] (by kernel_rfl)) ?_
     refine wpa_new (n := 3) true 6 [] (fun g3 => [(43, .slice (some ⟨g3, 0, none⟩) 1 1), (38, .slice aI lI.length cI), (5, .int .i64 (↑iI : Int)), (4, .int .i64 (↑nI : Int)), (3, .pointer (some ⟨g2, 0, none⟩)), (2, .pointer (some ⟨g1, 0, none⟩)), (0, .pointer (some ⟨r, 0, none⟩))]) (fun g3 => [.blk r 136 [.string (mkS s), .int .i64 (↑Ay : Int), .int .i64 ey], row 62 2 aI lI.length cI (List.flatMap insC lI), .blk g1 59 [.string ⟨#[]⟩, .int .i64 0, .int .i64 0, .int .i64 0, .bool false, .slice none 0 0, .slice none 0 0], .blk g2 59 [.string (mkS t), .int .i64 p, .int .i64 q, .int .i64 z, .bool b, .slice aI lI.length cI, .slice none 0 0], .blk g3 62 [.int .i64 u, .int .i64 y]]) (fun g3 => []) (by kernel_rfl) (fun g3 => by kernel_rfl) (fun g3 => by kernel_rfl) (fun g3 => trivial) (fun g3 => sub_of [] (by kernel_rfl)) fun g3 => ?_
     refine wpa_ent (ent_turn 4 (ro (some ⟨g3, 0, none⟩) (insC (u, y))) rfl (turn_rblk (l := insC (u, y)) (ins1 _)) rfl) ?_
     refine wpa_app (i := 7) (nf := 2) (by kernel_rfl) (a := aI) (n := lI.length) (cap := cI) (x := (.slice (some ⟨g3, 0, none⟩) 1 1)) (t := 56) (xt := 56) (dst := some 44) (by kernel_rfl) (e := 62) (sz := 2) (bytes := 16) (by kernel_rfl) 1 (xs := (List.flatMap insC lI)) (by kernel_rfl) (m := 1) (news := (insC (u, y))) (fun w h => src_ro h 4 rfl rfl (fun e => by cases e)) (by unfold maxLen; omega) (by omega) [] (by kernel_rfl) ?_
     intro a3 c3 hn3
     rw [show lI.flatMap insC ++ insC (u, y) = (lI ++ [(u, y)]).flatMap insC by simp, show lI.length + 1 = (lI ++ [(u, y)]).length by simp]
     refine TK 1 [(8, [])] (.i 45 (.pointer (some ⟨g2, 5, none⟩)) (.k (.d (.d (.k .a))))) (#[true, true, true, true, true, true, true, true, true, false]) ?_
     refine AO 0 9 [3] (.d (.d (.k .a))) (.k (.k (.k (.u (.k (.k (.k (.k (.k (.i (.slice a3 (lI ++ [(u, y)]).length c3) (.d (.k .a)))))))) .a)))) [] ?_
     refine wpa_done 0 (by kernel_rfl) ?_
     exact nx_ent (ent_hp [1, 0, 0, 0] rfl) (nx_ent (ent_fr (by kernel_rfl)) (hk ⟨a3, c3⟩))
    ·refine wpi_new (n := 4) true 6 [] (fun g3 => [(43, .slice (some ⟨g3, 0, none⟩) 1 1), (37, .pointer (some ⟨g2, 5, none⟩)), (5, .int .i64 (↑iI : Int)), (4, .int .i64 (↑nI : Int)), (3, .pointer (some ⟨g2, 0, none⟩)), (2, .pointer (some ⟨g1, 0, none⟩)), (0, .pointer (some ⟨r, 0, none⟩))]) (fun g3 => [.blk r 136 [.string (mkS s), .int .i64 (↑Ay : Int), .int .i64 ey], row 62 2 aI lI.length cI (List.flatMap insC lI), .blk g1 59 [.string ⟨#[]⟩, .int .i64 0, .int .i64 0, .int .i64 0, .bool false, .slice none 0 0, .slice none 0 0], .blk g2 59 [.string (mkS t), .int .i64 p, .int .i64 q, .int .i64 z, .bool b, .slice aI lI.length cI, .slice none 0 0], .blk g3 62 [.int .i64 u, .int .i64 y]]) (fun g3 => []) (fun g3 => by kernel_rfl) (fun g3 => by kernel_rfl) (fun g3 => trivial) (fun g3 => sub_of [] (by kernel_rfl)) fun g3 => ?_
     refine AO 3 1 [3] (.i 38 (.slice aI lI.length cI) (.k (.d (.k .a)))) .a [] ?_
     refine wpa_ent (ent_turn 4 (ro (some ⟨g3, 0, none⟩) (insC (u, y))) rfl (turn_rblk (l := insC (u, y)) (ins1 _)) rfl) ?_
     refine wpa_app (i := 7) (nf := 2) (by kernel_rfl) (a := aI) (n := lI.length) (cap := cI) (x := (.slice (some ⟨g3, 0, none⟩) 1 1)) (t := 56) (xt := 56) (dst := some 44) (by kernel_rfl) (e := 62) (sz := 2) (bytes := 16) (by kernel_rfl) 1 (xs := (List.flatMap insC lI)) (by kernel_rfl) (m := 1) (news := (insC (u, y))) (fun w h => src_ro h 4 rfl rfl (fun e => by cases e)) (by unfold maxLen; omega) (by omega) [] (by kernel_rfl) ?_
     intro a3 c3 hn3
     rw [show lI.flatMap insC ++ insC (u, y) = (lI ++ [(u, y)]).flatMap insC by simp, show lI.length + 1 = (lI ++ [(u, y)]).length by simp]
     refine TK 1 [(8, [])] (.i 45 (.pointer (some ⟨g2, 5, none⟩)) (.k (.d (.d (.k .a))))) (#[true, true, true, true, true, true, true, true, true, false]) ?_
     refine AO 0 9 [3] (.d (.d (.k .a))) (.k (.k (.k (.u (.k (.k (.k (.k (.k (.i (.slice a3 (lI ++ [(u, y)]).length c3) (.d (.k .a)))))))) .a)))) [] ?_
     refine wpa_done 0 (by kernel_rfl) ?_
     exact nx_ent (ent_hp [1, 0, 0, 0] rfl) (nx_ent (ent_fr (by kernel_rfl)) (hk ⟨a3, c3⟩))
  ·rintro ⟨a3, c3⟩
   dsimp only
   refine BN (NT (RG ?_))
   refine RV true [] .z (.i 5 (.int .i64 ((↑iI : Int) + 1)) (.d (.k .a))) (.k (.i (.blk r 136 [.string (mkS s), .int .i64 (↑Ay : Int), .int .i64 ey]) (.d (.k .a)))) ([inI64 ((↑iI : Int) + (1 : Int))]) ⟨by unfold inI64; omega, trivial⟩ ?_
   refine RZ ?_
   exact fun a' w' hS' => ⟨⟨(iI + 1, a3, c3, lI ++ [(u, y)], Ay, ey), hltI, hy.2.1, by dsimp only; rw [hk3, hLI, List.append_assoc]; rfl, by dsimp only; rw [hk3]; exact hpI⟩, by dsimp only; omega, ent_fr (by kernel_rfl) _ _ (ent_hp [0, 0, 0, 0] rfl _ _ hS')⟩
 ·have hstopI : rMany (rIn s) (nI - iI) (AI2, eI2) = ([], AI2, eI2) := by
   by_cases he : eI2 = 0
   ·have : nI - iI = 0 := by have : ¬ iI < nI := fun h => hgoI ⟨h, he⟩; omega
    rw [this]; rfl
   ·exact rMany_nil _ _ _ he
  rw [hstopI] at hLI hpI
  cases hpI
  rw [List.append_nil] at hLI
  subst hLI
  refine SQ (SQ (RG ?_))
  refine RR [] (.d (.d (.d (.d .a)))) (.i 29 (.bool (decide ((↑iI : Int) < (↑nI : Int)))) .a) (.k (.i (.blk r 136 [.string (mkS s), .int .i64 (↑AI9 : Int), .int .i64 eI9]) (.d (.k .a)))) ?_
  refine wpr_join ⟨[(32, .bool false), (5, (.int .i64 (↑iI : Int))), (4, (.int .i64 (↑nI : Int))), (3, (.pointer (some ⟨g2, 0, none⟩))), (2, (.pointer (some ⟨g1, 0, none⟩))), (0, (.pointer (some ⟨r, 0, none⟩)))], [row 62 2 aI LI.length cI (List.flatMap insC LI), .blk r 136 [.string (mkS s), .int .i64 (↑AI9 : Int), .int .i64 eI9], .blk g1 59 [.string ⟨#[]⟩, .int .i64 0, .int .i64 0, .int .i64 0, .bool false, .slice none 0 0, .slice none 0 0], .blk g2 59 [.string (mkS t), .int .i64 p, .int .i64 q, .int .i64 z, .bool b, .slice aI LI.length cI, .slice none 0 0]]⟩ (fun Q1 hQ1 hk => ?_) ?_
  ·by_cases h : iI < nI
   ·have he : ¬ eI9 = 0 := fun he => hgoI ⟨h, he⟩
    refine SR 29 (decide ((↑iI : Int) < (↑nI : Int))) true (decide_eq_true (by omega)) ?_
    refine RR [] (.d .a) (.i 30 (.pointer (some ⟨r, 0, none⟩)) (.k (.d (.k .a)))) .a ?_
    refine RC (dst := some 31) [1] (.k (.d (.k .a))) (twell_spec r AI9 s eI9) ?_
    rintro v _ ⟨rfl, rfl⟩
    rw [decide_eq_false he]
    refine RR [] .z (.i 32 (.bool false) (.d (.d (.d (.k .a))))) (.i (.blk r 136 [.string (mkS s), .int .i64 (↑AI9 : Int), .int .i64 eI9]) (.d (.k .a))) ?_
    refine RZ ?_
    exact nx_ent (ent_hp [1, 0, 0, 0] rfl) (nx_ent (ent_fr (by kernel_rfl)) hk)
   ·refine SR 29 (decide ((↑iI : Int) < (↑nI : Int))) false (decide_eq_false (by omega)) ?_
    refine RR [] .z (.i 32 (.bool false) (.d (.d (.k .a)))) .a ?_
    refine RZ ?_
    exact nx_ent (ent_hp [0, 0, 0, 0] rfl) (nx_ent (ent_fr (by kernel_rfl)) hk)
  refine NT (CF (EX (TE (TE (BH (NT (SQ (RG ?_))))))))
  refine RR [] (.d .a) (.i 46 (.pointer (some ⟨r, 0, none⟩)) (.d (.d (.k .a)))) .a ?_
  have hccV := goes_rC s 1048576 (AI9, eI9) hgI.2.1
  have hcrV := rC_rng s (AI9, eI9)
  refine RC (dst := some 47) [1] (.k (.d (.k .a))) (tcount_spec r AI9 s eI9 hgI.2.1 hl) ?_
  rintro v _ ⟨rfl, rfl⟩
  obtain ⟨⟨nzV, BV, fV⟩, hxnV⟩ : ∃ x, x = rC s 1048576 (AI9, eI9) := ⟨_, rfl⟩
  rw [← hxnV] at hccV hcrV ⊢
  dsimp only at hccV hcrV ⊢
  obtain ⟨nV, rfl⟩ := Int.eq_ofNat_of_zero_le hcrV.1
  obtain ⟨⟨LV, AV9, eV9⟩, hxcV⟩ : ∃ x, x = rMany (rVr s) nV (BV, fV) := ⟨_, rfl⟩
  have hgV := goes_many (goes_rVr s) nV (BV, fV) hccV.2.1
  have hlnV := many_len (goes_rVr s) nV (BV, fV) hccV.2.1
  rw [← hxcV] at hgV hlnV
  dsimp only at hgV hlnV
  refine RR [] .z (.i 4 (.int .i64 (↑nV : Int)) (.d (.d (.d (.k .a))))) (.i (.blk r 136 [.string (mkS s), .int .i64 (↑BV : Int), .int .i64 fV]) (.d (.k .a))) ?_
  refine RZ (NT (SQ (SQ (RG ?_))))
  refine RR [] .z (.i 7 (.int .i64 0) .a) .a ?_
  refine RZ (NT (BK ?_))
  refine wpc_loop (X := {x : Nat × Option Addr × Nat × List VarP × Nat × Int // x.1 ≤ nV ∧ x.2.2.2.2.1 ≤ s.length ∧ LV = x.2.2.2.1 ++ (rMany (rVr s) (nV - x.1) x.2.2.2.2).1 ∧ (AV9, eV9) = (rMany (rVr s) (nV - x.1) x.2.2.2.2).2}) (fun x => St.mk [(7, .int .i64 (x.1.1 : Int)), (4, .int .i64 (nV : Int)), (3, .pointer (some ⟨g2, 0, none⟩)), (2, .pointer (some ⟨g1, 0, none⟩)), (0, .pointer (some ⟨r, 0, none⟩))]
   [row 116 4 x.1.2.1 x.1.2.2.2.1.length x.1.2.2.1 (x.1.2.2.2.1.flatMap varC), tkr r s x.1.2.2.2.2.1 x.1.2.2.2.2.2, row 62 2 aI LI.length cI (LI.flatMap insC), .blk g1 59 [.string ⟨#[]⟩, .int .i64 0, .int .i64 0, .int .i64 0, .bool false, .slice none 0 0, .slice none 0 0], .blk g2 59 [.string (mkS t), .int .i64 p, .int .i64 q, .int .i64 z, .bool b, .slice aI LI.length cI, .slice x.1.2.1 x.1.2.2.2.1.length x.1.2.2.1]]) (fun x => nV - x.1.1) ⟨(0, none, 0, [], BV, fV), Nat.zero_le _, hccV.2.1, by rw [Nat.sub_zero, ← hxcV]; rfl, by rw [Nat.sub_zero, ← hxcV]⟩ ?_ ?_
  ·exact Ent.trans (ent_nil 116 4) (ent_fr (by kernel_rfl))
  rintro ⟨⟨iV, aV, cV, lV, AV2, eV2⟩, hinV, hA2V, hLV, hpV⟩
  dsimp only at hinV hA2V hLV hpV ⊢
  have hllV : lV.length ≤ 1048576 := by
   have := congrArg List.length hLV
   rw [List.length_append] at this
   omega
  by_cases hgoV : iV < nV ∧ eV2 = 0
  ·obtain ⟨hltV, rfl⟩ := hgoV
   obtain ⟨k, hk2⟩ : ∃ k, nV - iV = k + 1 := ⟨nV - iV - 1, by omega⟩
   have hk3 : nV - (iV + 1) = k := by omega
   rw [hk2, rMany_succ _ _ _ rfl] at hLV hpV
   refine SQ (SQ (RG ?_))
   refine RR [] (.d (.d (.d (.d .a)))) (.i 51 (.bool (decide ((↑iV : Int) < (↑nV : Int)))) .a) (.k (.i (.blk r 136 [.string (mkS s), .int .i64 (↑AV2 : Int), .int .i64 0]) (.d (.k .a)))) ?_
   refine SR 51 (decide ((↑iV : Int) < (↑nV : Int))) true (decide_eq_true (by omega)) ?_
   refine RR [] (.d .a) (.i 52 (.pointer (some ⟨r, 0, none⟩)) (.k (.d (.k .a)))) .a ?_
   refine RC (dst := some 53) [1] (.k (.d (.k .a))) (twell_spec r AV2 s 0) ?_
   rintro v _ ⟨rfl, rfl⟩
   refine RR [] .z (.i 54 (.bool true) (.d (.d (.d (.k .a))))) (.i (.blk r 136 [.string (mkS s), .int .i64 (↑AV2 : Int), .int .i64 0]) (.d (.k .a))) ?_
   refine RZ (NT (CT (SK (NT (SQ (BK (SQ (RG ?_))))))))
   refine RR [] (.d .a) (.i 57 (.pointer (some ⟨r, 0, none⟩)) (.d (.k .a))) .a ?_
   have hn := goes_rTx s (AV2, 0) hA2V
   refine RC (dst := some 58) [0] (.d (.k .a)) (ttext_spec r AV2 s 0 hA2V hl) ?_
   rintro v _ ⟨rfl, rfl⟩
   obtain ⟨⟨n, An, en⟩, hxn⟩ : ∃ y, y = rTx s (AV2, 0) := ⟨_, rfl⟩
   rw [← hxn] at hn ⊢
   dsimp only at hn ⊢
   refine RP [] (.d (.d .a)) 8 (.i 59 (.agg #[.string (mkS n), .int .i64 0, .int .i64 0, .int .i64 0]) (.d (.d (.k .a)))) (.i (.blk r 136 [.string (mkS s), .int .i64 (↑An : Int), .int .i64 en]) (.d (.k .a))) 116 [.string ⟨#[]⟩, .int .i64 0, .int .i64 0, .int .i64 0] fun g3 => ?_
   refine RR [5, 5, 5, 5] .z (.k (.d (.k .a))) (.k (.k (.k (.k (.k (.u (.i (.string (mkS n)) (.d (.k .a))) .a)))))) ?_
   refine RZ (NT (SQ (RG ?_)))
   refine RR [] (.d .a) (.i 60 (.pointer (some ⟨r, 0, none⟩)) .a) .a ?_
   have ho := goes_rI s (An, en) hn.2.1
   refine RC (dst := some 61) [0] (.d (.k .a)) (tnum_spec r An s en hn.2.1 hl) ?_
   rintro v _ ⟨rfl, rfl⟩
   obtain ⟨⟨o, Ao, eo⟩, hxo⟩ : ∃ y, y = rI s (An, en) := ⟨_, rfl⟩
   rw [← hxo] at ho ⊢
   dsimp only at ho ⊢
   refine RR [5] .z (.d (.d (.k .a))) (.i (.blk r 136 [.string (mkS s), .int .i64 (↑Ao : Int), .int .i64 eo]) (.d (.k (.k (.k (.k (.u (.k (.i (.int .i64 o) (.d (.k .a)))) .a))))))) ?_
   refine RZ (NT (SQ (RG ?_)))
   refine RR [] (.d .a) (.i 63 (.pointer (some ⟨r, 0, none⟩)) .a) .a ?_
   have hf := goes_rI s (Ao, eo) ho.2.1
   refine RC (dst := some 64) [0] (.d (.k .a)) (tnum_spec r Ao s eo ho.2.1 hl) ?_
   rintro v _ ⟨rfl, rfl⟩
   obtain ⟨⟨f, Af, ef⟩, hxf⟩ : ∃ y, y = rI s (Ao, eo) := ⟨_, rfl⟩
   rw [← hxf] at hf ⊢
   dsimp only at hf ⊢
   refine RR [5] .z (.d (.d (.k .a))) (.i (.blk r 136 [.string (mkS s), .int .i64 (↑Af : Int), .int .i64 ef]) (.d (.k (.k (.k (.k (.u (.k (.k (.i (.int .i64 f) (.d (.k .a))))) .a))))))) ?_
   refine RZ (NT (SQ (RG ?_)))
   refine RR [] (.d .a) (.i 66 (.pointer (some ⟨r, 0, none⟩)) .a) .a ?_
   have hu := goes_rI s (Af, ef) hf.2.1
   refine RC (dst := some 67) [0] (.d (.k .a)) (tnum_spec r Af s ef hf.2.1 hl) ?_
   rintro v _ ⟨rfl, rfl⟩
   obtain ⟨⟨u, Au, eu⟩, hxu⟩ : ∃ y, y = rI s (Af, ef) := ⟨_, rfl⟩
   rw [← hxu] at hu ⊢
   dsimp only at hu ⊢
   refine RR [5] .z (.d (.d (.k .a))) (.i (.blk r 136 [.string (mkS s), .int .i64 (↑Au : Int), .int .i64 eu]) (.d (.k (.k (.k (.k (.u (.k (.k (.k (.i (.int .i64 u) .z)))) .a))))))) ?_
   refine RZ (NT (RG ?_))
   refine RN [4, 5, 5, 5, 5] (.d (.d (.d (.d .a)))) 72 (fun g4 => (.slice (some ⟨g4, 0, none⟩) 1 1)) (.i 70 (.slice aV lV.length cV) (.d (.k .a))) .a 116 [.string (mkS n), .int .i64 o, .int .i64 f, .int .i64 u] fun g4 => ?_
   have hR : rVr s (AV2, 0) = (⟨n, o, f, u⟩, Au, eu) := by
    unfold rVr
    rw [← hxn]; dsimp only
    rw [← hxo]; dsimp only
    rw [← hxf]; dsimp only
    rw [← hxu]
   rw [hR] at hLV hpV
   dsimp only at hLV hpV
   refine wpr_ent (ent_turn 6 (ro (some ⟨g4, 0, none⟩) (varC ⟨n, o, f, u⟩)) rfl (turn_rblk (l := varC ⟨n, o, f, u⟩) (var1 _)) rfl) ?_
   refine wpr_app (a := aV) (n := lV.length) (cap := cV) (x := (.slice (some ⟨g4, 0, none⟩) 1 1)) (t := 57) (xt := 57) (dst := some 73) (by kernel_rfl) (e := 116) (sz := 4) (bytes := 40) (by kernel_rfl) 1 (xs := (List.flatMap varC lV)) (by kernel_rfl) (m := 1) (news := (varC ⟨n, o, f, u⟩)) (fun w h => src_ro h 6 rfl rfl (fun e => by cases e)) (by unfold maxLen; omega) (by omega) ?_
   intro a3 c3 hn3
   rw [show lV.flatMap varC ++ varC (VarP.mk n o f u) = (lV ++ [VarP.mk n o f u]).flatMap varC by simp, show lV.length + 1 = (lV ++ [VarP.mk n o f u]).length by simp]
   refine RR [4] .z (.d (.d (.d (.k .a)))) (.k (.k (.k (.k (.u (.k (.k (.k (.k (.k (.k (.i (.slice a3 (lV ++ [VarP.mk n o f u]).length c3) .z))))))) .a))))) ?_
   refine RZ (BN (NT (RG ?_)))
   refine RV true [] .z (.i 7 (.int .i64 ((↑iV : Int) + 1)) (.d (.k .a))) .a ([inI64 ((↑iV : Int) + (1 : Int))]) ⟨by unfold inI64; omega, trivial⟩ ?_
   refine RZ ?_
   exact fun a' w' hS' => ⟨⟨(iV + 1, a3, c3, lV ++ [⟨n, o, f, u⟩], Au, eu), hltV, hu.2.1, by dsimp only; rw [hk3, hLV, List.append_assoc]; rfl, by dsimp only; rw [hk3]; exact hpV⟩, by dsimp only; omega, ent_fr (by kernel_rfl) _ _ (ent_hp [1, 0, 0, 0, 0] rfl _ _ hS')⟩
  ·have hstopV : rMany (rVr s) (nV - iV) (AV2, eV2) = ([], AV2, eV2) := by
    by_cases he : eV2 = 0
    ·have : nV - iV = 0 := by have : ¬ iV < nV := fun h => hgoV ⟨h, he⟩; omega
     rw [this]; rfl
    ·exact rMany_nil _ _ _ he
   rw [hstopV] at hLV hpV
   cases hpV
   rw [List.append_nil] at hLV
   subst hLV
   refine SQ (SQ (RG ?_))
   refine RR [] (.d (.d (.d (.d .a)))) (.i 51 (.bool (decide ((↑iV : Int) < (↑nV : Int)))) .a) (.k (.i (.blk r 136 [.string (mkS s), .int .i64 (↑AV9 : Int), .int .i64 eV9]) (.d (.k .a)))) ?_
   refine wpr_join ⟨[(54, .bool false), (7, (.int .i64 (↑iV : Int))), (4, (.int .i64 (↑nV : Int))), (3, (.pointer (some ⟨g2, 0, none⟩))), (2, (.pointer (some ⟨g1, 0, none⟩))), (0, (.pointer (some ⟨r, 0, none⟩)))], [row 116 4 aV LV.length cV (List.flatMap varC LV), .blk r 136 [.string (mkS s), .int .i64 (↑AV9 : Int), .int .i64 eV9], row 62 2 aI LI.length cI (List.flatMap insC LI), .blk g1 59 [.string ⟨#[]⟩, .int .i64 0, .int .i64 0, .int .i64 0, .bool false, .slice none 0 0, .slice none 0 0], .blk g2 59 [.string (mkS t), .int .i64 p, .int .i64 q, .int .i64 z, .bool b, .slice aI LI.length cI, .slice aV LV.length cV]]⟩ (fun Q1 hQ1 hk => ?_) ?_
   ·by_cases h : iV < nV
    ·have he : ¬ eV9 = 0 := fun he => hgoV ⟨h, he⟩
     refine SR 51 (decide ((↑iV : Int) < (↑nV : Int))) true (decide_eq_true (by omega)) ?_
     refine RR [] (.d .a) (.i 52 (.pointer (some ⟨r, 0, none⟩)) (.k (.d (.k .a)))) .a ?_
     refine RC (dst := some 53) [1] (.k (.d (.k .a))) (twell_spec r AV9 s eV9) ?_
     rintro v _ ⟨rfl, rfl⟩
     rw [decide_eq_false he]
     refine RR [] .z (.i 54 (.bool false) (.d (.d (.d (.k .a))))) (.i (.blk r 136 [.string (mkS s), .int .i64 (↑AV9 : Int), .int .i64 eV9]) (.d (.k .a))) ?_
     refine RZ ?_
     exact nx_ent (ent_hp [1, 0, 0, 0, 0] rfl) (nx_ent (ent_fr (by kernel_rfl)) hk)
    ·refine SR 51 (decide ((↑iV : Int) < (↑nV : Int))) false (decide_eq_false (by omega)) ?_
     refine RR [] .z (.i 54 (.bool false) (.d (.d (.k .a)))) .a ?_
     refine RZ ?_
     exact nx_ent (ent_hp [0, 0, 0, 0, 0] rfl) (nx_ent (ent_fr (by kernel_rfl)) hk)
   ·refine NT (CF (EX (TE (TE (BH (NT (SQ (RG ?_))))))))
    refine RR [4, 4, 4, 4, 4, 4, 4, 3, 3, 3, 3, 3, 3, 3] .z (.d (.d (.d (.d (.k .z))))) (.k (.k (.k (.u (.i (.string (mkS t)) (.i (.int .i64 p) (.i (.int .i64 q) (.i (.int .i64 z) (.i (.bool b) (.i (.slice aI LI.length cI) (.i (.slice aV LV.length cV) .z))))))) .a)))) ?_
    refine RZ (NT (RE ?_))
    have hS : rU s (A, e) = (⟨t, p, q, z, b, LI, LV⟩, AV9, eV9) := by
     unfold rU
     rw [← hxt]; dsimp only
     rw [← hxp]; dsimp only
     rw [← hxq]; dsimp only
     rw [← hxz]; dsimp only
     rw [← hxb]; dsimp only
     unfold rRows
     rw [← hxnI]; dsimp only
     rw [Int.toNat_natCast, ← hxcI]; dsimp only
     rw [← hxnV]; dsimp only
     rw [Int.toNat_natCast, ← hxcV]
    rw [hS]
    refine NE [1, 1, 0] (.i (.blk r 136 [.string (mkS s), .int .i64 (↑AV9 : Int), .int .i64 eV9]) (.i (row 62 2 aI LI.length cI (List.flatMap insC LI)) (.k .z))) (.d (.d (.d (.k .a)))) [3, 3, 3, 3, 3, 3, 3] (.agg #[.string (mkS t), .int .i64 p, .int .i64 q, .int .i64 z, .bool b, .slice aI LI.length cI, .slice aV LV.length cV]) ?_
    exact ⟨⟨t, p, q, z, b, aI, cI, LI, aV, cV, LV⟩, rfl, rfl, rfl⟩
end Go.Proofs.YtgcfomhlgipllaaGreatDoor
namespace Go.Proofs.YtgcfomhlgipllaaGreatDoor
open Go Go.Sx
set_option maxHeartbeats 16000000 in
theorem rLoad_spec (bs : List UInt8) (hl : bs.length ≤ 34359738368) :
  Does Tryz.prog 27 [.string (mkS bs)] [] (fun v hp' => ∃ s : CoV, s.p = ldC bs ∧ s.ok ∧ v = .tuple #[.agg (coC s).toArray, .int .i64 (ldE bs)] ∧ hp' = coH s) := by
 refine fn_enter Tryz.func27 rfl 75 rfl fun w0 h0 => ?_
 refine SQ (RG ?_)
 refine RP [] (.d .a) 2 .a .a 26 [.slice none 0 0, .slice none 0 0, .slice none 0 0, .int .i64 0] fun g1 => ?_
 refine RR [] .z (.i 3 (.int .i64 0) .a) .a ?_
 refine RZ (NT (SQ (RG ?_)))
 refine RP [] (.d (.d (.d (.d .a)))) 14 (.k (.k .z)) .a 136 [.string (mkS bs), .int .i64 0, .int .i64 0] fun g2 => ?_
 refine RR [] .z (.i 4 (.pointer (some ⟨g2, 0, none⟩)) (.d (.k .a))) .a ?_
 refine RZ (NT (SQ (RG ?_)))
 refine RR [] (.d .a) (.i 15 (.pointer (some ⟨g2, 0, none⟩)) .a) .a ?_
 have h1 := goes_rows (goes_rTx bs) (0, 0) (Nat.zero_le _)
 have hT := ttexts_spec g2 0 bs 0 (Nat.zero_le _) (by omega)
 unfold tkr at hT
 refine RC (dst := some 16) [1] (.k .z) (hT) ?_
 rintro v _ ⟨q1, c1, rfl, rfl⟩
 rw [show rTs bs (0, 0) = rRows bs (rTx bs) (0, 0) from rfl]
 obtain ⟨⟨T1, A1, e1⟩, hx1⟩ : ∃ x, x = rRows bs (rTx bs) (0, 0) := ⟨_, rfl⟩
 rw [← hx1] at h1 ⊢
 dsimp only at h1 ⊢
 refine RP [] (.d (.d .a)) 5 (.i 17 (.agg #[.slice q1 T1.length c1, .slice none 0 0, .slice none 0 0, .int .i64 0]) (.d (.d (.k .a)))) .a 26 [.slice none 0 0, .slice none 0 0, .slice none 0 0, .int .i64 0] fun g3 => ?_
 refine RR [3, 3, 3, 3] .z (.k (.d (.k .a))) (.k (.k (.k (.u (.i (.slice q1 T1.length c1) (.d (.k .a))) .a)))) ?_
 refine RZ (NT (SQ (RG ?_)))
 refine RR [] (.d .a) (.i 18 (.pointer (some ⟨g2, 0, none⟩)) .a) .a ?_
 have hccS := goes_rC bs 1048576 (A1, e1) h1.2.1
 have hcrS := rC_rng bs (A1, e1)
 refine RC (dst := some 19) [1] (.k (.d (.k .a))) (tcount_spec g2 A1 bs e1 h1.2.1 (by omega)) ?_
 rintro v _ ⟨rfl, rfl⟩
 obtain ⟨⟨nzS, BS, fS⟩, hxnS⟩ : ∃ x, x = rC bs 1048576 (A1, e1) := ⟨_, rfl⟩
 rw [← hxnS] at hccS hcrS ⊢
 dsimp only at hccS hcrS ⊢
 obtain ⟨nS, rfl⟩ := Int.eq_ofNat_of_zero_le hcrS.1
 obtain ⟨⟨LS, AS9, eS9⟩, hxcS⟩ : ∃ x, x = rMany (rSh bs) nS (BS, fS) := ⟨_, rfl⟩
 have hgS := goes_many (goes_rSh bs) nS (BS, fS) hccS.2.1
 have hlnS := many_len (goes_rSh bs) nS (BS, fS) hccS.2.1
 rw [← hxcS] at hgS hlnS
 dsimp only at hgS hlnS
 refine RR [] .z (.i 6 (.int .i64 (↑nS : Int)) (.d (.d (.k .a)))) (.i (.blk g2 136 [.string (mkS bs), .int .i64 (↑BS : Int), .int .i64 fS]) (.d (.k .a))) ?_
 refine RZ (NT (SQ (SQ (RG ?_))))
 refine RR [] .z (.i 7 (.int .i64 0) .a) .a ?_
 refine RZ (NT (BK ?_))
 refine wpc_loop (X := {x : Nat × Option Addr × Nat × List ShV × Nat × Int // x.1 ≤ nS ∧ x.2.2.2.2.1 ≤ bs.length ∧ LS = x.2.2.2.1.map ShV.p ++ (rMany (rSh bs) (nS - x.1) x.2.2.2.2).1 ∧ (AS9, eS9) = (rMany (rSh bs) (nS - x.1) x.2.2.2.2).2}) (fun x => St.mk [(7, .int .i64 (x.1.1 : Int)), (6, .int .i64 (nS : Int)), (5, .pointer (some ⟨g3, 0, none⟩)), (4, .pointer (some ⟨g2, 0, none⟩)), (3, .int .i64 0), (2, .pointer (some ⟨g1, 0, none⟩))]
  [row 111 2 x.1.2.1 x.1.2.2.2.1.length x.1.2.2.1 (x.1.2.2.2.1.flatMap shC), star (x.1.2.2.2.1.flatMap shRows), row 9 1 q1 T1.length c1 (strsC T1), tkr g2 bs x.1.2.2.2.2.1 x.1.2.2.2.2.2, .blk g1 26 [.slice none 0 0, .slice none 0 0, .slice none 0 0, .int .i64 0], .blk g3 26 [.slice q1 T1.length c1, .slice x.1.2.1 x.1.2.2.2.1.length x.1.2.2.1, .slice none 0 0, .int .i64 0]]) (fun x => nS - x.1.1) ⟨(0, none, 0, [], BS, fS), Nat.zero_le _, hccS.2.1, by rw [Nat.sub_zero, ← hxcS]; rfl, by rw [Nat.sub_zero, ← hxcS]⟩ ?_ ?_
 ·exact Ent.trans ent_star_nil (Ent.trans (ent_nil 111 2) (Ent.trans (ent_hp [0, 0, 1, 0, 0, 0] rfl) (ent_fr (by kernel_rfl))))
 rintro ⟨⟨iS, aS, cS, lS, AS2, eS2⟩, hinS, hA2S, hLS, hpS⟩
 dsimp only at hinS hA2S hLS hpS ⊢
 have hllS : lS.length ≤ 1048576 := by
  have := congrArg List.length hLS
  rw [List.length_append, List.length_map] at this
  omega
 by_cases hgoS : iS < nS ∧ eS2 = 0
 ·obtain ⟨hltS, rfl⟩ := hgoS
  obtain ⟨k, hk2⟩ : ∃ k, nS - iS = k + 1 := ⟨nS - iS - 1, by omega⟩
  have hk3 : nS - (iS + 1) = k := by omega
  rw [hk2, rMany_succ _ _ _ rfl] at hLS hpS
  refine SQ (SQ (RG ?_))
  refine RR [] (.d (.d (.d (.d .a)))) (.i 23 (.bool (decide ((↑iS : Int) < (↑nS : Int)))) .a) (.k (.k (.k (.i (.blk g2 136 [.string (mkS bs), .int .i64 (↑AS2 : Int), .int .i64 0]) (.d (.k .a)))))) ?_
  refine SR 23 (decide ((↑iS : Int) < (↑nS : Int))) true (decide_eq_true (by omega)) ?_
  refine RR [] (.d .a) (.i 24 (.pointer (some ⟨g2, 0, none⟩)) (.k (.d (.k .a)))) .a ?_
  refine RC (dst := some 25) [3] (.k (.k (.k (.d (.k .a))))) (twell_spec g2 AS2 bs 0) ?_
  rintro v _ ⟨rfl, rfl⟩
  refine RR [] .z (.i 26 (.bool true) (.d (.d (.d (.k .a))))) (.i (.blk g2 136 [.string (mkS bs), .int .i64 (↑AS2 : Int), .int .i64 0]) (.d (.k .a))) ?_
  refine RZ (NT (CT (SK (NT (SQ (BK (SQ (RG ?_))))))))
  refine RR [] (.d .a) (.i 29 (.pointer (some ⟨g2, 0, none⟩)) (.d (.k .a))) .a ?_
  have hu := goes_rTx bs (AS2, 0) hA2S
  refine RC (dst := some 30) [0] (.d (.k .a)) (ttext_spec g2 AS2 bs 0 hA2S (by omega)) ?_
  rintro v _ ⟨rfl, rfl⟩
  obtain ⟨⟨u, Au, eu⟩, hxu⟩ : ∃ x, x = rTx bs (AS2, 0) := ⟨_, rfl⟩
  rw [← hxu] at hu ⊢
  dsimp only at hu ⊢
  have ha := goes_rows (goes_rTx bs) (Au, eu) hu.2.1
  have hR : rSh bs (AS2, 0) = ((u, (rTs bs (Au, eu)).1), (rTs bs (Au, eu)).2) := by
   unfold rSh sq
   rw [← hxu]
  obtain ⟨⟨la, Aa, ea⟩, hxa⟩ : ∃ x, x = rTs bs (Au, eu) := ⟨_, rfl⟩
  rw [show rRows bs (rTx bs) (Au, eu) = rTs bs (Au, eu) from rfl, ← hxa] at ha
  rw [← hxa] at hR
  dsimp only at ha hR
  rw [hR] at hLS hpS
  dsimp only at hLS hpS
  refine RR [] .z (.i 8 (.string (mkS u)) (.d (.d (.k .a)))) (.i (.blk g2 136 [.string (mkS bs), .int .i64 (↑Au : Int), .int .i64 eu]) (.d (.k .a))) ?_
  refine RZ (NT ?_)
  refine wpc_draw (by kernel_rfl) [] (sub_of [] (by kernel_rfl)) 10 (by kernel_rfl) ?_
  refine wpa_joinx (X := Option Addr × Nat × Option Addr × Nat) (fun y => St.mk [(7, .int .i64 (iS : Int)), (6, .int .i64 (nS : Int)), (5, .pointer (some ⟨g3, 0, none⟩)), (4, .pointer (some ⟨g2, 0, none⟩)), (3, .int .i64 0), (2, .pointer (some ⟨g1, 0, none⟩))]
   [row 111 2 y.1 (lS ++ [ShV.mk u y.2.2.1 y.2.2.2 la]).length y.2.1 ((lS ++ [ShV.mk u y.2.2.1 y.2.2.2 la]).flatMap shC), star (lS.flatMap shRows), row 9 1 y.2.2.1 la.length y.2.2.2 (strsC la), row 9 1 q1 T1.length c1 (strsC T1), tkr g2 bs Aa ea, .blk g1 26 [.slice none 0 0, .slice none 0 0, .slice none 0 0, .int .i64 0], .blk g3 26 [.slice q1 T1.length c1, .slice y.1 (lS ++ [ShV.mk u y.2.2.1 y.2.2.2 la]).length y.2.1, .slice none 0 0, .int .i64 0]]) (fun Q1 hQ1 hk => ?_) ?_
  ·refine TK 7 [(0, []), (2, []), (3, [])] (.i 34 (.pointer (some ⟨g2, 0, none⟩)) (.i 33 (.string (mkS u)) (.i 31 (.pointer (some ⟨g3, 1, none⟩)) (.d (.k .a))))) (#[true, false, true, true, false, false, false, false, false, false]) ?_
   refine wpa_two (i := 1) (j := 4) (n := 6) (by kernel_rfl) ?_ ?_
   ·refine wpi_one (n := 6) true 1 [5] [(32, .slice aS lS.length cS), (34, .pointer (some ⟨g2, 0, none⟩)), (33, .string (mkS u)), (7, .int .i64 (↑iS : Int)), (6, .int .i64 (↑nS : Int)), (5, .pointer (some ⟨g3, 0, none⟩)), (4, .pointer (some ⟨g2, 0, none⟩)), (3, .int .i64 0), (2, .pointer (some ⟨g1, 0, none⟩))] [.blk g2 136 [.string (mkS bs), .int .i64 (↑Au : Int), .int .i64 eu], row 111 2 aS lS.length cS (List.flatMap shC lS), star (List.flatMap shRows lS), row 9 1 q1 T1.length c1 (strsC T1), .blk g1 26 [.slice none 0 0, .slice none 0 0, .slice none 0 0, .int .i64 0], .blk g3 26 [.slice q1 T1.length c1, .slice aS lS.length cS, .slice none 0 0, .int .i64 0]] [] (by kernel_rfl) (by kernel_rfl) trivial (sub_of [] (by kernel_rfl)) ?_
    refine AC (dst := some 35) 5 4 (.d (.k .a)) (ttexts_spec g2 Au bs eu hu.2.1 (by omega)) (GI [0]) [] ?_
    rintro v _ ⟨qa, ca, rfl, rfl⟩
    rw [← hxa]
    dsimp only
    refine TK 4 [(5, [])] (.i 36 (.agg #[.string (mkS u), .slice qa la.length ca]) (.d (.k (.d (.d (.k .a)))))) (#[true, true, true, true, true, true, false, false, false, false]) ?_
    refine wpa_new (n := 3) true 6 [] (fun g4 => [(37, .slice (some ⟨g4, 0, none⟩) 1 1), (32, .slice aS lS.length cS), (7, .int .i64 (↑iS : Int)), (6, .int .i64 (↑nS : Int)), (5, .pointer (some ⟨g3, 0, none⟩)), (4, .pointer (some ⟨g2, 0, none⟩)), (3, .int .i64 0), (2, .pointer (some ⟨g1, 0, none⟩))]) (fun g4 => [row 9 1 qa la.length ca (strsC la), .blk g2 136 [.string (mkS bs), .int .i64 (↑Aa : Int), .int .i64 ea], row 111 2 aS lS.length cS (List.flatMap shC lS), star (List.flatMap shRows lS), row 9 1 q1 T1.length c1 (strsC T1), .blk g1 26 [.slice none 0 0, .slice none 0 0, .slice none 0 0, .int .i64 0], .blk g3 26 [.slice q1 T1.length c1, .slice aS lS.length cS, .slice none 0 0, .int .i64 0], .blk g4 111 [.string (mkS u), .slice qa la.length ca]]) (fun g4 => []) (by kernel_rfl) (fun g4 => by kernel_rfl) (fun g4 => by kernel_rfl) (fun g4 => trivial) (fun g4 => sub_of [] (by kernel_rfl)) fun g4 => ?_
    refine wpa_ent (ent_turn 7 (ro (some ⟨g4, 0, none⟩) (shC (ShV.mk u qa ca la))) rfl (turn_rblk (l := shC (ShV.mk u qa ca la)) (sh1 _)) rfl) ?_
    refine wpa_app (i := 7) (nf := 2) (by kernel_rfl) (a := aS) (n := lS.length) (cap := cS) (x := (.slice (some ⟨g4, 0, none⟩) 1 1)) (t := 23) (xt := 23) (dst := some 38) (by kernel_rfl) (e := 111) (sz := 2) (bytes := 40) (by kernel_rfl) 2 (xs := (List.flatMap shC lS)) (by kernel_rfl) (m := 1) (news := (shC (ShV.mk u qa ca la))) (fun w h => src_ro h 7 rfl rfl (fun e => by cases e)) (by unfold maxLen; omega) (by omega) [] (by kernel_rfl) ?_
    intro a3 c3 hn3
    rw [show lS.flatMap shC ++ shC (ShV.mk u qa ca la) = (lS ++ [ShV.mk u qa ca la]).flatMap shC by simp, show lS.length + 1 = (lS ++ [ShV.mk u qa ca la]).length by simp]
    refine TK 1 [(8, [])] (.i 39 (.pointer (some ⟨g3, 1, none⟩)) (.k (.d (.d (.k .a))))) (#[true, true, true, true, true, true, true, true, true, false]) ?_
    refine AO 0 9 [6] (.d (.d (.k .a))) (.k (.k (.k (.k (.k (.k (.u (.k (.i (.slice a3 (lS ++ [ShV.mk u qa ca la]).length c3) (.d (.k .a)))) .a))))))) [] ?_
    refine wpa_done 0 (by kernel_rfl) ?_
    exact nx_ent (ent_hp [2, 2, 0, 1, 0, 0, 0] rfl) (nx_ent (ent_fr (by kernel_rfl)) (hk ⟨a3, c3, qa, ca⟩))
   ·refine wpi_call (i := 4) (dst := some 35) (rest := [row 111 2 aS lS.length cS (List.flatMap shC lS), star (List.flatMap shRows lS), row 9 1 q1 T1.length c1 (strsC T1), .blk g1 26 [.slice none 0 0, .slice none 0 0, .slice none 0 0, .int .i64 0], .blk g3 26 [.slice q1 T1.length c1, .slice aS lS.length cS, .slice none 0 0, .int .i64 0]]) (by kernel_rfl) (ttexts_spec g2 Au bs eu hu.2.1 (by omega)) (give [0] (by kernel_rfl)) (sub_of [] (by kernel_rfl)) ?_
    rintro v _ ⟨qa, ca, rfl, rfl⟩
    rw [← hxa]
    dsimp only
    refine TK 5 [(5, [])] (.i 36 (.agg #[.string (mkS u), .slice qa la.length ca]) (.d (.d (.d (.k .a))))) (#[true, false, true, true, true, true, false, false, false, false]) ?_
    refine wpa_two (i := 1) (j := 6) (n := 4) (by kernel_rfl) ?_ ?_
    ·refine wpi_one (n := 4) true 1 [6] [(32, .slice aS lS.length cS), (36, .agg #[.string (mkS u), .slice qa la.length ca]), (7, .int .i64 (↑iS : Int)), (6, .int .i64 (↑nS : Int)), (5, .pointer (some ⟨g3, 0, none⟩)), (4, .pointer (some ⟨g2, 0, none⟩)), (3, .int .i64 0), (2, .pointer (some ⟨g1, 0, none⟩))] [row 9 1 qa la.length ca (strsC la), .blk g2 136 [.string (mkS bs), .int .i64 (↑Aa : Int), .int .i64 ea], row 111 2 aS lS.length cS (List.flatMap shC lS), star (List.flatMap shRows lS), row 9 1 q1 T1.length c1 (strsC T1), .blk g1 26 [.slice none 0 0, .slice none 0 0, .slice none 0 0, .int .i64 0], .blk g3 26 [.slice q1 T1.length c1, .slice aS lS.length cS, .slice none 0 0, .int .i64 0]] [] (by kernel_rfl) (by kernel_rfl) trivial (sub_of [] (by kernel_rfl)) ?_
     refine wpa_new (n := 3) true 6 [] (fun g4 => [(37, .slice (some ⟨g4, 0, none⟩) 1 1), (32, .slice aS lS.length cS), (7, .int .i64 (↑iS : Int)), (6, .int .i64 (↑nS : Int)), (5, .pointer (some ⟨g3, 0, none⟩)), (4, .pointer (some ⟨g2, 0, none⟩)), (3, .int .i64 0), (2, .pointer (some ⟨g1, 0, none⟩))]) (fun g4 => [row 9 1 qa la.length ca (strsC la), .blk g2 136 [.string (mkS bs), .int .i64 (↑Aa : Int), .int .i64 ea], row 111 2 aS lS.length cS (List.flatMap shC lS), star (List.flatMap shRows lS), row 9 1 q1 T1.length c1 (strsC T1), .blk g1 26 [.slice none 0 0, .slice none 0 0, .slice none 0 0, .int .i64 0], .blk g3 26 [.slice q1 T1.length c1, .slice aS lS.length cS, .slice none 0 0, .int .i64 0], .blk g4 111 [.string (mkS u), .slice qa la.length ca]]) (fun g4 => []) (by kernel_rfl) (fun g4 => by kernel_rfl) (fun g4 => by kernel_rfl) (fun g4 => trivial) (fun g4 => sub_of [] (by kernel_rfl)) fun g4 => ?_
     refine wpa_ent (ent_turn 7 (ro (some ⟨g4, 0, none⟩) (shC (ShV.mk u qa ca la))) rfl (turn_rblk (l := shC (ShV.mk u qa ca la)) (sh1 _)) rfl) ?_
     refine wpa_app (i := 7) (nf := 2) (by kernel_rfl) (a := aS) (n := lS.length) (cap := cS) (x := (.slice (some ⟨g4, 0, none⟩) 1 1)) (t := 23) (xt := 23) (dst := some 38) (by kernel_rfl) (e := 111) (sz := 2) (bytes := 40) (by kernel_rfl) 2 (xs := (List.flatMap shC lS)) (by kernel_rfl) (m := 1) (news := (shC (ShV.mk u qa ca la))) (fun w h => src_ro h 7 rfl rfl (fun e => by cases e)) (by unfold maxLen; omega) (by omega) [] (by kernel_rfl) ?_
     intro a3 c3 hn3
     rw [show lS.flatMap shC ++ shC (ShV.mk u qa ca la) = (lS ++ [ShV.mk u qa ca la]).flatMap shC by simp, show lS.length + 1 = (lS ++ [ShV.mk u qa ca la]).length by simp]
     refine TK 1 [(8, [])] (.i 39 (.pointer (some ⟨g3, 1, none⟩)) (.k (.d (.d (.k .a))))) (#[true, true, true, true, true, true, true, true, true, false]) ?_
     refine AO 0 9 [6] (.d (.d (.k .a))) (.k (.k (.k (.k (.k (.k (.u (.k (.i (.slice a3 (lS ++ [ShV.mk u qa ca la]).length c3) (.d (.k .a)))) .a))))))) [] ?_
     refine wpa_done 0 (by kernel_rfl) ?_
     exact nx_ent (ent_hp [2, 2, 0, 1, 0, 0, 0] rfl) (nx_ent (ent_fr (by kernel_rfl)) (hk ⟨a3, c3, qa, ca⟩))
    ·refine wpi_new (n := 4) true 6 [] (fun g4 => [(37, .slice (some ⟨g4, 0, none⟩) 1 1), (31, .pointer (some ⟨g3, 1, none⟩)), (7, .int .i64 (↑iS : Int)), (6, .int .i64 (↑nS : Int)), (5, .pointer (some ⟨g3, 0, none⟩)), (4, .pointer (some ⟨g2, 0, none⟩)), (3, .int .i64 0), (2, .pointer (some ⟨g1, 0, none⟩))]) (fun g4 => [row 9 1 qa la.length ca (strsC la), .blk g2 136 [.string (mkS bs), .int .i64 (↑Aa : Int), .int .i64 ea], row 111 2 aS lS.length cS (List.flatMap shC lS), star (List.flatMap shRows lS), row 9 1 q1 T1.length c1 (strsC T1), .blk g1 26 [.slice none 0 0, .slice none 0 0, .slice none 0 0, .int .i64 0], .blk g3 26 [.slice q1 T1.length c1, .slice aS lS.length cS, .slice none 0 0, .int .i64 0], .blk g4 111 [.string (mkS u), .slice qa la.length ca]]) (fun g4 => []) (fun g4 => by kernel_rfl) (fun g4 => by kernel_rfl) (fun g4 => trivial) (fun g4 => sub_of [] (by kernel_rfl)) fun g4 => ?_
     refine AO 3 1 [6] (.i 32 (.slice aS lS.length cS) (.k (.d (.k .a)))) .a [] ?_
     refine wpa_ent (ent_turn 7 (ro (some ⟨g4, 0, none⟩) (shC (ShV.mk u qa ca la))) rfl (turn_rblk (l := shC (ShV.mk u qa ca la)) (sh1 _)) rfl) ?_
     refine wpa_app (i := 7) (nf := 2) (by kernel_rfl) (a := aS) (n := lS.length) (cap := cS) (x := (.slice (some ⟨g4, 0, none⟩) 1 1)) (t := 23) (xt := 23) (dst := some 38) (by kernel_rfl) (e := 111) (sz := 2) (bytes := 40) (by kernel_rfl) 2 (xs := (List.flatMap shC lS)) (by kernel_rfl) (m := 1) (news := (shC (ShV.mk u qa ca la))) (fun w h => src_ro h 7 rfl rfl (fun e => by cases e)) (by unfold maxLen; omega) (by omega) [] (by kernel_rfl) ?_
     intro a3 c3 hn3
     rw [show lS.flatMap shC ++ shC (ShV.mk u qa ca la) = (lS ++ [ShV.mk u qa ca la]).flatMap shC by simp, show lS.length + 1 = (lS ++ [ShV.mk u qa ca la]).length by simp]
     refine TK 1 [(8, [])] (.i 39 (.pointer (some ⟨g3, 1, none⟩)) (.k (.d (.d (.k .a))))) (#[true, true, true, true, true, true, true, true, true, false]) ?_
     refine AO 0 9 [6] (.d (.d (.k .a))) (.k (.k (.k (.k (.k (.k (.u (.k (.i (.slice a3 (lS ++ [ShV.mk u qa ca la]).length c3) (.d (.k .a)))) .a))))))) [] ?_
     refine wpa_done 0 (by kernel_rfl) ?_
     exact nx_ent (ent_hp [2, 2, 0, 1, 0, 0, 0] rfl) (nx_ent (ent_fr (by kernel_rfl)) (hk ⟨a3, c3, qa, ca⟩))
  ·rintro ⟨a3, c3, qa, ca⟩
   dsimp only
   refine BN (NT (RG ?_))
   refine RV true [] .z (.i 7 (.int .i64 ((↑iS : Int) + 1)) (.d (.k .a))) (.k (.k (.k (.k (.i (.blk g2 136 [.string (mkS bs), .int .i64 (↑Aa : Int), .int .i64 ea]) (.d (.k .a))))))) ([inI64 ((↑iS : Int) + (1 : Int))]) ⟨by unfold inI64; omega, trivial⟩ ?_
   refine RZ ?_
   refine nx_ent (Ent.trans (ent_hp [1, 1, 0, 0, 0, 0, 0] rfl) (ent_star_snoc trivial)) ?_
   rw [show lS.flatMap shRows ++ [row 9 1 qa la.length ca (strsC la)] = (lS ++ [ShV.mk u qa ca la]).flatMap shRows by simp [shRows]]
   exact fun a' w' hS' => ⟨⟨(iS + 1, a3, c3, lS ++ [ShV.mk u qa ca la], Aa, ea), hltS, ha.2.1, by dsimp only; rw [hk3, hLS, List.map_append, List.append_assoc]; rfl, by dsimp only; rw [hk3]; exact hpS⟩, by dsimp only; omega, ent_fr (by kernel_rfl) _ _ (ent_hp [1, 0, 0, 0, 0, 0] rfl _ _ hS')⟩
 ·have hstopS : rMany (rSh bs) (nS - iS) (AS2, eS2) = ([], AS2, eS2) := by
   by_cases he : eS2 = 0
   ·have : nS - iS = 0 := by have : ¬ iS < nS := fun h => hgoS ⟨h, he⟩; omega
    rw [this]; rfl
   ·exact rMany_nil _ _ _ he
  rw [hstopS] at hLS hpS
  cases hpS
  rw [List.append_nil] at hLS
  subst hLS
  refine SQ (SQ (RG ?_))
  refine RR [] (.d (.d (.d (.d .a)))) (.i 23 (.bool (decide ((↑iS : Int) < (↑nS : Int)))) .a) (.k (.k (.k (.i (.blk g2 136 [.string (mkS bs), .int .i64 (↑AS9 : Int), .int .i64 eS9]) (.d (.k .a)))))) ?_
  refine wpr_join ⟨[(26, .bool false), (7, (.int .i64 (↑iS : Int))), (5, (.pointer (some ⟨g3, 0, none⟩))), (4, (.pointer (some ⟨g2, 0, none⟩))), (3, (.int .i64 0)), (2, (.pointer (some ⟨g1, 0, none⟩)))], [row 111 2 aS lS.length cS (List.flatMap shC lS), star (List.flatMap shRows lS), row 9 1 q1 T1.length c1 (strsC T1), .blk g2 136 [.string (mkS bs), .int .i64 (↑AS9 : Int), .int .i64 eS9], .blk g1 26 [.slice none 0 0, .slice none 0 0, .slice none 0 0, .int .i64 0], .blk g3 26 [.slice q1 T1.length c1, .slice aS lS.length cS, .slice none 0 0, .int .i64 0]]⟩ (fun Q1 hQ1 hk => ?_) ?_
  ·by_cases h : iS < nS
   ·have he : ¬ eS9 = 0 := fun he => hgoS ⟨h, he⟩
    refine SR 23 (decide ((↑iS : Int) < (↑nS : Int))) true (decide_eq_true (by omega)) ?_
    refine RR [] (.d .a) (.i 24 (.pointer (some ⟨g2, 0, none⟩)) (.k (.d (.k (.d (.k .a)))))) .a ?_
    refine RC (dst := some 25) [3] (.k (.k (.k (.d (.k .a))))) (twell_spec g2 AS9 bs eS9) ?_
    rintro v _ ⟨rfl, rfl⟩
    rw [decide_eq_false he]
    refine RR [] .z (.i 26 (.bool false) (.d (.d (.d (.k .a))))) (.i (.blk g2 136 [.string (mkS bs), .int .i64 (↑AS9 : Int), .int .i64 eS9]) (.d (.k .a))) ?_
    refine RZ ?_
    exact nx_ent (ent_hp [1, 1, 1, 0, 0, 0] rfl) (nx_ent (ent_fr (by kernel_rfl)) hk)
   ·refine SR 23 (decide ((↑iS : Int) < (↑nS : Int))) false (decide_eq_false (by omega)) ?_
    refine RR [] .z (.i 26 (.bool false) (.d (.d (.k (.d (.k .a)))))) .a ?_
    refine RZ ?_
    exact nx_ent (ent_hp [0, 0, 0, 0, 0, 0] rfl) (nx_ent (ent_fr (by kernel_rfl)) hk)
  refine NT (CF (EX (TE (TE (BH (NT (SQ (RG ?_))))))))
  refine RR [] (.d .a) (.i 40 (.pointer (some ⟨g2, 0, none⟩)) (.d (.d (.k .a)))) .a ?_
  have hccU := goes_rC bs 1048576 (AS9, eS9) hgS.2.1
  have hcrU := rC_rng bs (AS9, eS9)
  refine RC (dst := some 41) [3] (.k (.k (.k (.d (.k .a))))) (tcount_spec g2 AS9 bs eS9 hgS.2.1 (by omega)) ?_
  rintro v _ ⟨rfl, rfl⟩
  obtain ⟨⟨nzU, BU, fU⟩, hxnU⟩ : ∃ x, x = rC bs 1048576 (AS9, eS9) := ⟨_, rfl⟩
  rw [← hxnU] at hccU hcrU ⊢
  dsimp only at hccU hcrU ⊢
  obtain ⟨nU, rfl⟩ := Int.eq_ofNat_of_zero_le hcrU.1
  obtain ⟨⟨LU, AU9, eU9⟩, hxcU⟩ : ∃ x, x = rMany (rU bs) nU (BU, fU) := ⟨_, rfl⟩
  have hgU := goes_many (goes_rU bs) nU (BU, fU) hccU.2.1
  have hlnU := many_len (goes_rU bs) nU (BU, fU) hccU.2.1
  rw [← hxcU] at hgU hlnU
  dsimp only at hgU hlnU
  refine RR [] .z (.i 6 (.int .i64 (↑nU : Int)) (.d (.d (.k .a)))) (.i (.blk g2 136 [.string (mkS bs), .int .i64 (↑BU : Int), .int .i64 fU]) (.d (.k .a))) ?_
  refine RZ (NT (SQ (SQ (RG ?_))))
  refine RR [] .z (.i 9 (.int .i64 0) .a) .a ?_
  refine RZ (NT (BK ?_))
  refine wpc_loop (X := {x : Nat × Option Addr × Nat × List UnV × Nat × Int // x.1 ≤ nU ∧ x.2.2.2.2.1 ≤ bs.length ∧ LU = x.2.2.2.1.map UnV.p ++ (rMany (rU bs) (nU - x.1) x.2.2.2.2).1 ∧ (AU9, eU9) = (rMany (rU bs) (nU - x.1) x.2.2.2.2).2}) (fun x => St.mk [(9, .int .i64 (x.1.1 : Int)), (6, .int .i64 (nU : Int)), (5, .pointer (some ⟨g3, 0, none⟩)), (4, .pointer (some ⟨g2, 0, none⟩)), (3, .int .i64 0), (2, .pointer (some ⟨g1, 0, none⟩))]
   [row 59 7 x.1.2.1 x.1.2.2.2.1.length x.1.2.2.1 (x.1.2.2.2.1.flatMap unC), star (x.1.2.2.2.1.flatMap unRows), tkr g2 bs x.1.2.2.2.2.1 x.1.2.2.2.2.2, row 111 2 aS lS.length cS (lS.flatMap shC), star (lS.flatMap shRows), row 9 1 q1 T1.length c1 (strsC T1), .blk g1 26 [.slice none 0 0, .slice none 0 0, .slice none 0 0, .int .i64 0], .blk g3 26 [.slice q1 T1.length c1, .slice aS lS.length cS, .slice x.1.2.1 x.1.2.2.2.1.length x.1.2.2.1, .int .i64 0]]) (fun x => nU - x.1.1) ⟨(0, none, 0, [], BU, fU), Nat.zero_le _, hccU.2.1, by rw [Nat.sub_zero, ← hxcU]; rfl, by rw [Nat.sub_zero, ← hxcU]⟩ ?_ ?_
  ·exact Ent.trans ent_star_nil (Ent.trans (ent_nil 59 7) (Ent.trans (ent_hp [0, 0, 0, 0, 0, 0, 0, 0] rfl) (ent_fr (by kernel_rfl))))
  rintro ⟨⟨iU, aU, cU, lU, AU2, eU2⟩, hinU, hA2U, hLU, hpU⟩
  dsimp only at hinU hA2U hLU hpU ⊢
  have hllU : lU.length ≤ 1048576 := by
   have := congrArg List.length hLU
   rw [List.length_append, List.length_map] at this
   omega
  by_cases hgoU : iU < nU ∧ eU2 = 0
  ·obtain ⟨hltU, rfl⟩ := hgoU
   obtain ⟨k, hk2⟩ : ∃ k, nU - iU = k + 1 := ⟨nU - iU - 1, by omega⟩
   have hk3 : nU - (iU + 1) = k := by omega
   rw [hk2, rMany_succ _ _ _ rfl] at hLU hpU
   refine SQ (SQ (RG ?_))
   refine RR [] (.d (.d (.d (.d .a)))) (.i 45 (.bool (decide ((↑iU : Int) < (↑nU : Int)))) .a) (.k (.k (.i (.blk g2 136 [.string (mkS bs), .int .i64 (↑AU2 : Int), .int .i64 0]) (.d (.k .a))))) ?_
   refine SR 45 (decide ((↑iU : Int) < (↑nU : Int))) true (decide_eq_true (by omega)) ?_
   refine RR [] (.d .a) (.i 46 (.pointer (some ⟨g2, 0, none⟩)) (.k (.d (.k .a)))) .a ?_
   refine RC (dst := some 47) [2] (.k (.k (.d (.k .a)))) (twell_spec g2 AU2 bs 0) ?_
   rintro v _ ⟨rfl, rfl⟩
   refine RR [] .z (.i 48 (.bool true) (.d (.d (.d (.k .a))))) (.i (.blk g2 136 [.string (mkS bs), .int .i64 (↑AU2 : Int), .int .i64 0]) (.d (.k .a))) ?_
   refine RZ (NT (CT (SK (NT (SQ (BK ?_))))))
   have ha := goes_rU bs (AU2, 0) hA2U
   obtain ⟨⟨ou, Aa, ea⟩, hxa⟩ : ∃ x, x = rU bs (AU2, 0) := ⟨_, rfl⟩
   have hun := tunit_spec g2 AU2 bs 0 hA2U (by omega)
   rw [← hxa] at ha hLU hpU hun
   dsimp only at ha hLU hpU hun
   refine wpc_draw (by kernel_rfl) [] (sub_of [] (by kernel_rfl)) 8 (by kernel_rfl) ?_
   refine wpa_joinx (X := {x : Option Addr × Nat × UnV // x.2.2.p = ou}) (fun y => St.mk [(9, .int .i64 (iU : Int)), (6, .int .i64 (nU : Int)), (5, .pointer (some ⟨g3, 0, none⟩)), (4, .pointer (some ⟨g2, 0, none⟩)), (3, .int .i64 0), (2, .pointer (some ⟨g1, 0, none⟩))]
    [row 59 7 y.1.1 (lU ++ [y.1.2.2]).length y.1.2.1 ((lU ++ [y.1.2.2]).flatMap unC), star (lU.flatMap unRows), row 62 2 y.1.2.2.ia y.1.2.2.ins.length y.1.2.2.ic (y.1.2.2.ins.flatMap insC), row 116 4 y.1.2.2.va y.1.2.2.vars.length y.1.2.2.vc (y.1.2.2.vars.flatMap varC), tkr g2 bs Aa ea, row 111 2 aS lS.length cS (lS.flatMap shC), star (lS.flatMap shRows), row 9 1 q1 T1.length c1 (strsC T1), .blk g1 26 [.slice none 0 0, .slice none 0 0, .slice none 0 0, .int .i64 0], .blk g3 26 [.slice q1 T1.length c1, .slice aS lS.length cS, .slice y.1.1 (lU ++ [y.1.2.2]).length y.1.2.1, .int .i64 0]]) (fun Q1 hQ1 hk => ?_) ?_
   ·refine TK 6 [(0, []), (2, [])] (.i 53 (.pointer (some ⟨g2, 0, none⟩)) (.i 51 (.pointer (some ⟨g3, 2, none⟩)) (.d (.k .a)))) (#[true, false, true, false, false, false, false, false]) ?_
    refine wpa_two (i := 1) (j := 3) (n := 5) (by kernel_rfl) ?_ ?_
    ·refine wpi_one (n := 5) true 1 [7] [(52, .slice aU lU.length cU), (53, .pointer (some ⟨g2, 0, none⟩)), (9, .int .i64 (↑iU : Int)), (6, .int .i64 (↑nU : Int)), (5, .pointer (some ⟨g3, 0, none⟩)), (4, .pointer (some ⟨g2, 0, none⟩)), (3, .int .i64 0), (2, .pointer (some ⟨g1, 0, none⟩))] [.blk g2 136 [.string (mkS bs), .int .i64 (↑AU2 : Int), .int .i64 0], row 59 7 aU lU.length cU (List.flatMap unC lU), star (List.flatMap unRows lU), row 111 2 aS lS.length cS (List.flatMap shC lS), star (List.flatMap shRows lS), row 9 1 q1 T1.length c1 (strsC T1), .blk g1 26 [.slice none 0 0, .slice none 0 0, .slice none 0 0, .int .i64 0], .blk g3 26 [.slice q1 T1.length c1, .slice aS lS.length cS, .slice aU lU.length cU, .int .i64 0]] [] (by kernel_rfl) (by kernel_rfl) trivial (sub_of [] (by kernel_rfl)) ?_
     refine AC (dst := some 54) 4 3 (.d (.k .a)) (hun) (GI [0]) [] ?_
     rintro v _ ⟨o, ho, rfl, rfl⟩
     rw [show unRows o = [row 62 2 o.ia o.ins.length o.ic (o.ins.flatMap insC), row 116 4 o.va o.vars.length o.vc (o.vars.flatMap varC)] from rfl]
     refine wpa_new (n := 3) true 4 [] (fun g4 => [(55, .slice (some ⟨g4, 0, none⟩) 1 1), (52, .slice aU lU.length cU), (9, .int .i64 (↑iU : Int)), (6, .int .i64 (↑nU : Int)), (5, .pointer (some ⟨g3, 0, none⟩)), (4, .pointer (some ⟨g2, 0, none⟩)), (3, .int .i64 0), (2, .pointer (some ⟨g1, 0, none⟩))]) (fun g4 => [.blk g2 136 [.string (mkS bs), .int .i64 (↑Aa : Int), .int .i64 ea], row 62 2 o.ia o.ins.length o.ic (List.flatMap insC o.ins), row 116 4 o.va o.vars.length o.vc (List.flatMap varC o.vars), row 59 7 aU lU.length cU (List.flatMap unC lU), star (List.flatMap unRows lU), row 111 2 aS lS.length cS (List.flatMap shC lS), star (List.flatMap shRows lS), row 9 1 q1 T1.length c1 (strsC T1), .blk g1 26 [.slice none 0 0, .slice none 0 0, .slice none 0 0, .int .i64 0], .blk g3 26 [.slice q1 T1.length c1, .slice aS lS.length cS, .slice aU lU.length cU, .int .i64 0], .blk g4 59 [.string (mkS o.name), .int .i64 o.params, .int .i64 o.slots, .int .i64 o.stack, .bool o.result, .slice o.ia o.ins.length o.ic, .slice o.va o.vars.length o.vc]]) (fun g4 => []) (by kernel_rfl) (fun g4 => by kernel_rfl) (fun g4 => by kernel_rfl) (fun g4 => trivial) (fun g4 => sub_of [] (by kernel_rfl)) fun g4 => ?_
     refine wpa_ent (ent_turn 10 (ro (some ⟨g4, 0, none⟩) (unC o)) rfl (turn_rblk (un1 _)) rfl) ?_
     refine wpa_app (i := 5) (nf := 2) (by kernel_rfl) (a := aU) (n := lU.length) (cap := cU) (x := (.slice (some ⟨g4, 0, none⟩) 1 1)) (t := 24) (xt := 24) (dst := some 56) (by kernel_rfl) (e := 59) (sz := 7) (bytes := 96) (by kernel_rfl) 3 (xs := (List.flatMap unC lU)) (by kernel_rfl) (m := 1) (news := (unC o)) (fun w h => src_ro h 10 rfl rfl (fun e => by cases e)) (by unfold maxLen; omega) (by omega) [] (by kernel_rfl) ?_
     intro a3 c3 hn3
     rw [show lU.flatMap unC ++ unC o = (lU ++ [o]).flatMap unC by simp, show lU.length + 1 = (lU ++ [o]).length by simp]
     refine TK 1 [(6, [])] (.i 57 (.pointer (some ⟨g3, 2, none⟩)) (.k (.d (.d (.k .a))))) (#[true, true, true, true, true, true, true, false]) ?_
     refine AO 0 7 [9] (.d (.d (.k .a))) (.k (.k (.k (.k (.k (.k (.k (.k (.k (.u (.k (.k (.i (.slice a3 (lU ++ [o]).length c3) (.d (.k .a))))) .a)))))))))) [] ?_
     refine wpa_done 0 (by kernel_rfl) ?_
     exact nx_ent (ent_hp [3, 3, 1, 1, 0, 0, 0, 0, 0, 0] rfl) (nx_ent (ent_fr (by kernel_rfl)) (hk ⟨(a3, c3, o), ho⟩))
    ·refine wpi_call (i := 3) (dst := some 54) (rest := [row 59 7 aU lU.length cU (List.flatMap unC lU), star (List.flatMap unRows lU), row 111 2 aS lS.length cS (List.flatMap shC lS), star (List.flatMap shRows lS), row 9 1 q1 T1.length c1 (strsC T1), .blk g1 26 [.slice none 0 0, .slice none 0 0, .slice none 0 0, .int .i64 0], .blk g3 26 [.slice q1 T1.length c1, .slice aS lS.length cS, .slice aU lU.length cU, .int .i64 0]]) (by kernel_rfl) (hun) (give [0] (by kernel_rfl)) (sub_of [] (by kernel_rfl)) ?_
     rintro v _ ⟨o, ho, rfl, rfl⟩
     rw [show unRows o = [row 62 2 o.ia o.ins.length o.ic (o.ins.flatMap insC), row 116 4 o.va o.vars.length o.vc (o.vars.flatMap varC)] from rfl]
     refine wpa_two (i := 1) (j := 4) (n := 4) (by kernel_rfl) ?_ ?_
     ·refine wpi_one (n := 4) true 1 [9] [(52, .slice aU lU.length cU), (54, .agg #[.string (mkS o.name), .int .i64 o.params, .int .i64 o.slots, .int .i64 o.stack, .bool o.result, .slice o.ia o.ins.length o.ic, .slice o.va o.vars.length o.vc]), (9, .int .i64 (↑iU : Int)), (6, .int .i64 (↑nU : Int)), (5, .pointer (some ⟨g3, 0, none⟩)), (4, .pointer (some ⟨g2, 0, none⟩)), (3, .int .i64 0), (2, .pointer (some ⟨g1, 0, none⟩))] [.blk g2 136 [.string (mkS bs), .int .i64 (↑Aa : Int), .int .i64 ea], row 62 2 o.ia o.ins.length o.ic (List.flatMap insC o.ins), row 116 4 o.va o.vars.length o.vc (List.flatMap varC o.vars), row 59 7 aU lU.length cU (List.flatMap unC lU), star (List.flatMap unRows lU), row 111 2 aS lS.length cS (List.flatMap shC lS), star (List.flatMap shRows lS), row 9 1 q1 T1.length c1 (strsC T1), .blk g1 26 [.slice none 0 0, .slice none 0 0, .slice none 0 0, .int .i64 0], .blk g3 26 [.slice q1 T1.length c1, .slice aS lS.length cS, .slice aU lU.length cU, .int .i64 0]] [] (by kernel_rfl) (by kernel_rfl) trivial (sub_of [] (by kernel_rfl)) ?_
      refine wpa_new (n := 3) true 4 [] (fun g4 => [(55, .slice (some ⟨g4, 0, none⟩) 1 1), (52, .slice aU lU.length cU), (9, .int .i64 (↑iU : Int)), (6, .int .i64 (↑nU : Int)), (5, .pointer (some ⟨g3, 0, none⟩)), (4, .pointer (some ⟨g2, 0, none⟩)), (3, .int .i64 0), (2, .pointer (some ⟨g1, 0, none⟩))]) (fun g4 => [.blk g2 136 [.string (mkS bs), .int .i64 (↑Aa : Int), .int .i64 ea], row 62 2 o.ia o.ins.length o.ic (List.flatMap insC o.ins), row 116 4 o.va o.vars.length o.vc (List.flatMap varC o.vars), row 59 7 aU lU.length cU (List.flatMap unC lU), star (List.flatMap unRows lU), row 111 2 aS lS.length cS (List.flatMap shC lS), star (List.flatMap shRows lS), row 9 1 q1 T1.length c1 (strsC T1), .blk g1 26 [.slice none 0 0, .slice none 0 0, .slice none 0 0, .int .i64 0], .blk g3 26 [.slice q1 T1.length c1, .slice aS lS.length cS, .slice aU lU.length cU, .int .i64 0], .blk g4 59 [.string (mkS o.name), .int .i64 o.params, .int .i64 o.slots, .int .i64 o.stack, .bool o.result, .slice o.ia o.ins.length o.ic, .slice o.va o.vars.length o.vc]]) (fun g4 => []) (by kernel_rfl) (fun g4 => by kernel_rfl) (fun g4 => by kernel_rfl) (fun g4 => trivial) (fun g4 => sub_of [] (by kernel_rfl)) fun g4 => ?_
      refine wpa_ent (ent_turn 10 (ro (some ⟨g4, 0, none⟩) (unC o)) rfl (turn_rblk (un1 _)) rfl) ?_
      refine wpa_app (i := 5) (nf := 2) (by kernel_rfl) (a := aU) (n := lU.length) (cap := cU) (x := (.slice (some ⟨g4, 0, none⟩) 1 1)) (t := 24) (xt := 24) (dst := some 56) (by kernel_rfl) (e := 59) (sz := 7) (bytes := 96) (by kernel_rfl) 3 (xs := (List.flatMap unC lU)) (by kernel_rfl) (m := 1) (news := (unC o)) (fun w h => src_ro h 10 rfl rfl (fun e => by cases e)) (by unfold maxLen; omega) (by omega) [] (by kernel_rfl) ?_
      intro a3 c3 hn3
      rw [show lU.flatMap unC ++ unC o = (lU ++ [o]).flatMap unC by simp, show lU.length + 1 = (lU ++ [o]).length by simp]
      refine TK 1 [(6, [])] (.i 57 (.pointer (some ⟨g3, 2, none⟩)) (.k (.d (.d (.k .a))))) (#[true, true, true, true, true, true, true, false]) ?_
      refine AO 0 7 [9] (.d (.d (.k .a))) (.k (.k (.k (.k (.k (.k (.k (.k (.k (.u (.k (.k (.i (.slice a3 (lU ++ [o]).length c3) (.d (.k .a))))) .a)))))))))) [] ?_
      refine wpa_done 0 (by kernel_rfl) ?_
      exact nx_ent (ent_hp [3, 3, 1, 1, 0, 0, 0, 0, 0, 0] rfl) (nx_ent (ent_fr (by kernel_rfl)) (hk ⟨(a3, c3, o), ho⟩))
     ·refine wpi_new (n := 4) true 4 [] (fun g4 => [(55, .slice (some ⟨g4, 0, none⟩) 1 1), (51, .pointer (some ⟨g3, 2, none⟩)), (9, .int .i64 (↑iU : Int)), (6, .int .i64 (↑nU : Int)), (5, .pointer (some ⟨g3, 0, none⟩)), (4, .pointer (some ⟨g2, 0, none⟩)), (3, .int .i64 0), (2, .pointer (some ⟨g1, 0, none⟩))]) (fun g4 => [.blk g2 136 [.string (mkS bs), .int .i64 (↑Aa : Int), .int .i64 ea], row 62 2 o.ia o.ins.length o.ic (List.flatMap insC o.ins), row 116 4 o.va o.vars.length o.vc (List.flatMap varC o.vars), row 59 7 aU lU.length cU (List.flatMap unC lU), star (List.flatMap unRows lU), row 111 2 aS lS.length cS (List.flatMap shC lS), star (List.flatMap shRows lS), row 9 1 q1 T1.length c1 (strsC T1), .blk g1 26 [.slice none 0 0, .slice none 0 0, .slice none 0 0, .int .i64 0], .blk g3 26 [.slice q1 T1.length c1, .slice aS lS.length cS, .slice aU lU.length cU, .int .i64 0], .blk g4 59 [.string (mkS o.name), .int .i64 o.params, .int .i64 o.slots, .int .i64 o.stack, .bool o.result, .slice o.ia o.ins.length o.ic, .slice o.va o.vars.length o.vc]]) (fun g4 => []) (fun g4 => by kernel_rfl) (fun g4 => by kernel_rfl) (fun g4 => trivial) (fun g4 => sub_of [] (by kernel_rfl)) fun g4 => ?_
      refine AO 3 1 [9] (.i 52 (.slice aU lU.length cU) (.k (.d (.k .a)))) .a [] ?_
      refine wpa_ent (ent_turn 10 (ro (some ⟨g4, 0, none⟩) (unC o)) rfl (turn_rblk (un1 _)) rfl) ?_
      refine wpa_app (i := 5) (nf := 2) (by kernel_rfl) (a := aU) (n := lU.length) (cap := cU) (x := (.slice (some ⟨g4, 0, none⟩) 1 1)) (t := 24) (xt := 24) (dst := some 56) (by kernel_rfl) (e := 59) (sz := 7) (bytes := 96) (by kernel_rfl) 3 (xs := (List.flatMap unC lU)) (by kernel_rfl) (m := 1) (news := (unC o)) (fun w h => src_ro h 10 rfl rfl (fun e => by cases e)) (by unfold maxLen; omega) (by omega) [] (by kernel_rfl) ?_
      intro a3 c3 hn3
      rw [show lU.flatMap unC ++ unC o = (lU ++ [o]).flatMap unC by simp, show lU.length + 1 = (lU ++ [o]).length by simp]
      refine TK 1 [(6, [])] (.i 57 (.pointer (some ⟨g3, 2, none⟩)) (.k (.d (.d (.k .a))))) (#[true, true, true, true, true, true, true, false]) ?_
      refine AO 0 7 [9] (.d (.d (.k .a))) (.k (.k (.k (.k (.k (.k (.k (.k (.k (.u (.k (.k (.i (.slice a3 (lU ++ [o]).length c3) (.d (.k .a))))) .a)))))))))) [] ?_
      refine wpa_done 0 (by kernel_rfl) ?_
      exact nx_ent (ent_hp [3, 3, 1, 1, 0, 0, 0, 0, 0, 0] rfl) (nx_ent (ent_fr (by kernel_rfl)) (hk ⟨(a3, c3, o), ho⟩))
   ·rintro ⟨⟨a3, c3, o⟩, ho⟩
    dsimp only at ho ⊢
    refine BN (NT (RG ?_))
    refine RV true [] .z (.i 9 (.int .i64 ((↑iU : Int) + 1)) (.d (.k .a))) (.k (.k (.k (.k (.i (.blk g2 136 [.string (mkS bs), .int .i64 (↑Aa : Int), .int .i64 ea]) (.d (.k .a))))))) ([inI64 ((↑iU : Int) + (1 : Int))]) ⟨by unfold inI64; omega, trivial⟩ ?_
    refine RZ ?_
    refine nx_ent (Ent.trans (ent_hp [1, 1, 1, 0, 0, 0, 0, 0, 0, 0] rfl) (Ent.trans (ent_star_snoc trivial) (ent_star_snoc trivial))) ?_
    rw [show lU.flatMap unRows ++ [row 62 2 o.ia o.ins.length o.ic (o.ins.flatMap insC)] ++ [row 116 4 o.va o.vars.length o.vc (o.vars.flatMap varC)] = (lU ++ [o]).flatMap unRows by simp [unRows]]
    exact fun a' w' hS' => ⟨⟨(iU + 1, a3, c3, lU ++ [o], Aa, ea), hltU, ha.2.1, by dsimp only; rw [hk3, hLU, List.map_append, List.append_assoc, ← ho]; rfl, by dsimp only; rw [hk3]; exact hpU⟩, by dsimp only; omega, ent_fr (by kernel_rfl) _ _ (ent_hp [1, 0, 0, 0, 0, 0, 0, 0] rfl _ _ hS')⟩
  ·have hstopU : rMany (rU bs) (nU - iU) (AU2, eU2) = ([], AU2, eU2) := by
    by_cases he : eU2 = 0
    ·have : nU - iU = 0 := by have : ¬ iU < nU := fun h => hgoU ⟨h, he⟩; omega
     rw [this]; rfl
    ·exact rMany_nil _ _ _ he
   rw [hstopU] at hLU hpU
   cases hpU
   rw [List.append_nil] at hLU
   subst hLU
   refine SQ (SQ (RG ?_))
   refine RR [] (.d (.d (.d (.d .a)))) (.i 45 (.bool (decide ((↑iU : Int) < (↑nU : Int)))) .a) (.k (.k (.i (.blk g2 136 [.string (mkS bs), .int .i64 (↑AU9 : Int), .int .i64 eU9]) (.d (.k .a))))) ?_
   refine wpr_join ⟨[(48, .bool false), (9, (.int .i64 (↑iU : Int))), (5, (.pointer (some ⟨g3, 0, none⟩))), (4, (.pointer (some ⟨g2, 0, none⟩))), (3, (.int .i64 0)), (2, (.pointer (some ⟨g1, 0, none⟩)))], [row 59 7 aU lU.length cU (List.flatMap unC lU), star (List.flatMap unRows lU), .blk g2 136 [.string (mkS bs), .int .i64 (↑AU9 : Int), .int .i64 eU9], row 111 2 aS lS.length cS (List.flatMap shC lS), star (List.flatMap shRows lS), row 9 1 q1 T1.length c1 (strsC T1), .blk g1 26 [.slice none 0 0, .slice none 0 0, .slice none 0 0, .int .i64 0], .blk g3 26 [.slice q1 T1.length c1, .slice aS lS.length cS, .slice aU lU.length cU, .int .i64 0]]⟩ (fun Q1 hQ1 hk => ?_) ?_
   ·by_cases h : iU < nU
    ·have he : ¬ eU9 = 0 := fun he => hgoU ⟨h, he⟩
     refine SR 45 (decide ((↑iU : Int) < (↑nU : Int))) true (decide_eq_true (by omega)) ?_
     refine RR [] (.d .a) (.i 46 (.pointer (some ⟨g2, 0, none⟩)) (.k (.d (.k (.d (.k .a)))))) .a ?_
     refine RC (dst := some 47) [2] (.k (.k (.d (.k .a)))) (twell_spec g2 AU9 bs eU9) ?_
     rintro v _ ⟨rfl, rfl⟩
     rw [decide_eq_false he]
     refine RR [] .z (.i 48 (.bool false) (.d (.d (.d (.k .a))))) (.i (.blk g2 136 [.string (mkS bs), .int .i64 (↑AU9 : Int), .int .i64 eU9]) (.d (.k .a))) ?_
     refine RZ ?_
     exact nx_ent (ent_hp [1, 1, 0, 0, 0, 0, 0, 0] rfl) (nx_ent (ent_fr (by kernel_rfl)) hk)
    ·refine SR 45 (decide ((↑iU : Int) < (↑nU : Int))) false (decide_eq_false (by omega)) ?_
     refine RR [] .z (.i 48 (.bool false) (.d (.d (.k (.d (.k .a)))))) .a ?_
     refine RZ ?_
     exact nx_ent (ent_hp [0, 0, 0, 0, 0, 0, 0, 0] rfl) (nx_ent (ent_fr (by kernel_rfl)) hk)
   refine NT (CF (EX (TE (TE (BH (NT (SQ (RG ?_))))))))
   refine RR [] (.d .a) (.i 58 (.pointer (some ⟨g2, 0, none⟩)) (.d (.d (.k .a)))) .a ?_
   have h4 := goes_rI bs (AU9, eU9) hgU.2.1
   refine RC (dst := some 59) [2] (.k (.k (.d (.k .a)))) (tnum_spec g2 AU9 bs eU9 hgU.2.1 (by omega)) ?_
   rintro v _ ⟨rfl, rfl⟩
   obtain ⟨⟨m, A4, e4⟩, hx4⟩ : ∃ x, x = rI bs (AU9, eU9) := ⟨_, rfl⟩
   rw [← hx4] at h4 ⊢
   dsimp only at h4 ⊢
   refine RR [7] .z (.d (.d (.k .a))) (.i (.blk g2 136 [.string (mkS bs), .int .i64 (↑A4 : Int), .int .i64 e4]) (.d (.k (.k (.k (.k (.k (.k (.u (.k (.k (.k (.i (.int .i64 m) .z)))) .a))))))))) ?_
   refine RZ (NT (SQ (SQ (RG ?_))))
   refine RR [0, 0, 0] (.d (.d (.d (.d .a)))) (.i 64 (.agg #[.string (mkS bs), .int .i64 (↑A4 : Int), .int .i64 e4]) (.k (.d (.k .a)))) .a ?_
   refine RC (dst := some 65) [] .a (rEnd_spec bs A4 e4) ?_
   rintro v _ ⟨rfl, rfl⟩
   refine RR [] .z (.i 10 (.int .i64 (endE bs (↑A4 : Int) e4)) (.d (.d (.k .a)))) .a ?_
   refine RZ (NT (SQ (RG ?_)))
   refine RR [] .z (.i 67 (.bool (endE bs (↑A4 : Int) e4 != (0 : Int))) .a) .a ?_
   refine RZ (NT ?_)
   have hS : rCo bs (0, 0) = (⟨T1, lS.map ShV.p, lU.map UnV.p, m⟩, A4, e4) := by
    unfold rCo rTs
    rw [← hx1]; dsimp only
    rw [show rRows bs (rSh bs) (A1, e1) = (lS.map ShV.p, AS9, eS9) from by unfold rRows; rw [← hxnS]; dsimp only; rw [Int.toNat_natCast, ← hxcS]]
    dsimp only
    rw [show rRows bs (rU bs) (AS9, eS9) = (lU.map UnV.p, AU9, eU9) from by unfold rRows; rw [← hxnU]; dsimp only; rw [Int.toNat_natCast, ← hxcU]]
    dsimp only
    rw [← hx4]
   have hP : CoV.p ⟨q1, c1, T1, aS, cS, lS, aU, cU, lU, m⟩ = ⟨T1, lS.map ShV.p, lU.map UnV.p, m⟩ := rfl
   have hok : CoV.ok ⟨q1, c1, T1, aS, cS, lS, aU, cU, lU, m⟩ := co_ok (s := bs) (p := (0, 0)) (by rw [hP, hS])
   obtain ⟨E, hE⟩ : ∃ E, E = endE bs A4 e4 := ⟨_, rfl⟩
   have hLE : ldE bs = if E ≠ 0 then E else if rightC ⟨T1, lS.map ShV.p, lU.map UnV.p, m⟩ then 0 else 2 := by unfold ldE; rw [hS, hE]
   rw [← hE]
   by_cases hE0 : E ≠ 0
   ·rw [if_pos hE0] at hLE
    rw [hLE, ldC_bad (by rw [hLE]; exact hE0)]
    refine SC 67 (E != (0 : Int)) true (by simp only [bne_iff_ne, beq_iff_eq, ne_eq]; omega) ?_
    refine CT (SQ (RG ?_))
    refine RR [6, 6, 6, 6] .z (.i 3 (.int .i64 E) (.d (.d (.d (.k (.d (.k .a))))))) .a ?_
    refine RZ (NT (RE (TR ?_)))
    refine nx_ent (Ent.trans ent_star_nil (Ent.trans (ent_nil 59 7) (Ent.trans ent_star_nil (Ent.trans (ent_nil 111 2) (ent_nil 9 1))))) ?_
    refine NE [0, 0, 0, 0, 0] (.k (.k (.k (.k (.k .z))))) (.d (.d (.d (.d (.d (.k .a)))))) [11, 11, 11, 11] (.tuple #[.agg #[.slice none 0 0, .slice none 0 0, .slice none 0 0, .int .i64 0], .int .i64 E]) ?_
    exact ⟨noCv, rfl, noCv_ok, rfl, rfl⟩
   ·rw [if_neg hE0] at hLE
    have hE1 := Classical.not_not.1 hE0
    subst hE1
    have hck := rright_spec _ hok
    rw [show coC ⟨q1, c1, T1, aS, cS, lS, aU, cU, lU, m⟩ = [.slice q1 T1.length c1, .slice aS lS.length cS, .slice aU lU.length cU, .int .i64 m] from rfl, hP] at hck
    unfold coHp at hck
    dsimp only at hck
    refine CF (SK (NT (SQ (SQ (RG ?_)))))
    refine RR [7, 7, 7, 7] (.d .a) (.i 70 (.agg #[.slice q1 T1.length c1, .slice aS lS.length cS, .slice aU lU.length cU, .int .i64 m]) (.d (.d (.k .a)))) .a ?_
    refine RCG (dst := some 71) .a (hck) (GV (GV (GV (GV (GV (GI []) 2 view_gUn) 1 view_row) 4 view_gSh) 3 view_row) 5 view_row) ?_
    rintro v _ ⟨rfl, rfl⟩
    cases hm : rightC ⟨T1, lS.map ShV.p, lU.map UnV.p, m⟩ with
    | false =>
     rw [hm] at hLE
     rw [hLE, ldC_bad (by rw [hLE]; decide)]
     refine RR [] .z (.i 72 (.bool true) (.d (.d (.k .a)))) .a ?_
     refine RZ (NT (CT (SQ (RG ?_))))
     refine RR [6, 6, 6, 6] .z (.i 3 (.int .i64 2) (.d (.k (.d (.k .a))))) .a ?_
     refine RZ (NT (RE (TR ?_)))
     refine nx_ent (Ent.trans ent_star_nil (Ent.trans (ent_nil 59 7) (Ent.trans ent_star_nil (Ent.trans (ent_nil 111 2) (ent_nil 9 1))))) ?_
     refine NE [0, 0, 0, 0, 0] (.k (.k (.k (.k (.k .z))))) (.d (.d (.d (.d (.d (.k .a)))))) [11, 11, 11, 11] (.tuple #[.agg #[.slice none 0 0, .slice none 0 0, .slice none 0 0, .int .i64 0], .int .i64 2]) ?_
     exact ⟨noCv, rfl, noCv_ok, rfl, rfl⟩
    | true =>
     rw [hm] at hLE
     have hLS : ldC bs = ⟨T1, lS.map ShV.p, lU.map UnV.p, m⟩ := by unfold ldC; rw [hLE, hS]; rfl
     rw [hLE, hLS]
     refine RR [] .z (.i 72 (.bool false) (.d (.d (.k .a)))) .a ?_
     refine RZ (NT (CF (SK (NT (SQ (RG ?_))))))
     refine RR [7, 7, 7, 7, 6, 6, 6, 6] .z (.d (.d (.k .a))) (.k (.k (.k (.k (.k (.k (.u (.i (.slice q1 T1.length c1) (.i (.slice aS lS.length cS) (.i (.slice aU lU.length cU) (.i (.int .i64 m) .z)))) .a))))))) ?_
     refine RZ (NT (RE ?_))
     refine NE [5, 3, 3, 1, 1] (.i (row 9 1 q1 T1.length c1 (strsC T1)) (.i (row 111 2 aS lS.length cS (List.flatMap shC lS)) (.i (star (List.flatMap shRows lS)) (.d (.k (.k .z)))))) (.k (.d (.d (.d (.d (.d (.k .a))))))) [6, 6, 6, 6] (.tuple #[.agg #[.slice q1 T1.length c1, .slice aS lS.length cS, .slice aU lU.length cU, .int .i64 m], .int .i64 0]) ?_
     exact ⟨⟨q1, c1, T1, aS, cS, lS, aU, cU, lU, m⟩, rfl, hok, rfl, rfl⟩
end Go.Proofs.YtgcfomhlgipllaaGreatDoor
namespace Go.Proofs.YtgcfomhlgipllaaGreatDoor
open Go Go.Sx
/-! ### the example -/
def exU (gi : Nat) (I : List InP) : UnV := ⟨[109, 97, 105, 110], 0, 0, 1, false, some ⟨gi, 0, none⟩, 4, I, none, 0, []⟩
def exCo (gi gu : Nat) (I : List InP) : CoV := ⟨none, 0, [], none, 0, [], some ⟨gu, 0, none⟩, 1, [exU gi I], 0⟩
def exI : List InP := [(0, 1), (1, 2), (34, 1), (23, 0)]
def baI : List InP := [(0, 1), (1, 2), (6, 1), (23, 0)]
def exUP (I : List InP) : UnitP := ⟨[109, 97, 105, 110], 0, 0, 1, false, I, []⟩
def exP (I : List InP) : CodeP := ⟨[], [], [exUP I], 0⟩
theorem z64 : i64r 0 := ⟨by decide, by decide⟩
theorem o64 : i64r 1 := ⟨by decide, by decide⟩
theorem exCo_p (gi gu : Nat) (I : List InP) : (exCo gi gu I).p = exP I := rfl
theorem exCo_ok (gi gu : Nat) (I : List InP) (hl : I.length = 4) (h : ∀ x ∈ I, InP.ok x) : (exCo gi gu I).ok := by
 refine ⟨Nat.zero_le _, fun x hx => (List.not_mem_nil hx).elim, Nat.zero_le _, fun x hx => (List.not_mem_nil hx).elim, (by show 1 ≤ 1048576; omega), fun x hx => ?_, z64⟩
 rw [List.mem_singleton.1 hx]
 exact ⟨(by show 4 ≤ 1048576; omega), z64, z64, o64, (by show I.length ≤ 1048576; omega), Nat.zero_le _, h, fun v hv => (List.not_mem_nil hv).elim⟩
theorem exI_ok : ∀ x ∈ exI, InP.ok x := by
 intro x hx
 simp only [exI, List.mem_cons, List.not_mem_nil, or_false] at hx
 rcases hx with rfl | rfl | rfl | rfl <;> exact ⟨⟨by decide, by decide⟩, ⟨by decide, by decide⟩⟩
theorem baI_ok : ∀ x ∈ baI, InP.ok x := by
 intro x hx
 simp only [baI, List.mem_cons, List.not_mem_nil, or_false] at hx
 rcases hx with rfl | rfl | rfl | rfl <;> exact ⟨⟨by decide, by decide⟩, ⟨by decide, by decide⟩⟩
theorem ba_form : formB (exP baI) = false := by decide +kernel
theorem ba_right : rightC (exP baI) = false := by unfold rightC; rw [ba_form]; rfl
theorem ex_form : formB (exP exI) = true := by decide +kernel
def exG : Gr := gr (exP exI) (exUP exI)
theorem ex_rinv : RInv exG [0, 0, 1, 0] := by
 have r0 : Reach exG 0 0 := .zero
 have r1 : Reach exG 1 0 := Reach.step (j := 1) r0 (by decide +kernel)
 have r2 : Reach exG 2 1 := Reach.step (j := 2) r1 (by decide +kernel)
 have r3 : Reach exG 3 0 := Reach.step (j := 3) r2 (by decide +kernel)
 refine ⟨rfl, fun k hk h0 => ?_, fun k hk h0 => ?_, rfl⟩
 ·have hk : k < 4 := hk
  obtain rfl | rfl | rfl | rfl : k = 0 ∨ k = 1 ∨ k = 2 ∨ k = 3 := by omega
  ·exact r0
  ·exact r1
  ·exact r2
  ·exact r3
 ·have hk : k < 4 := hk
  obtain rfl | rfl | rfl | rfl : k = 0 ∨ k = 1 ∨ k = 2 ∨ k = 3 := by omega
  ·exact absurd (show (0 : Int) ≤ 0 by decide) h0
  ·exact absurd (show (0 : Int) ≤ 0 by decide) h0
  ·exact absurd (show (0 : Int) ≤ 1 by decide) h0
  ·exact absurd (show (0 : Int) ≤ 0 by decide) h0
theorem ex_shut : ∀ k, k < [0, 0, 1, 0].length → Shut exG ([0, 0, 1, 0] : List Int) k := fun k hk v hv h0 => by
 have hk : k < 4 := hk
 obtain rfl | rfl | rfl | rfl : k = 0 ∨ k = 1 ∨ k = 2 ∨ k = 3 := by omega
 all_goals (cases hv; exact ⟨by decide +kernel, by decide +kernel⟩)
theorem ex_fine : fineB exG = true := fineB_t (rinv_fine ex_rinv ex_shut)
theorem ex_hts : htsL exG = [0, 0, 1, 0] := (rinv_hts ex_rinv ex_shut).symm
theorem ex_right : rightC (exP exI) = true := by
 unfold rightC
 rw [ex_form, Bool.true_and]
 show (fineB exG && true) = true
 rw [ex_fine]; rfl
def exL : List Tx := [[102, 110, 32, 109, 97, 105, 110], [48, 32, 109, 97, 114, 107, 32, 49], [49, 32, 105, 110, 116, 32, 50], [50, 32, 112, 114, 105, 110, 116, 32, 49], [51, 32, 114, 101, 116, 117, 114, 110, 32, 48]]
theorem ex_list : listC (exP exI) = exL := by
 have d : ∀ n, n < 10 → Lib.decDigits n = [UInt8.ofNat (48 + n)] := fun n h => by rw [Lib.decDigits, dif_pos h]
 simp [listC, listU, lineI, exP, exUP, exI, exL, bareB, opName, opNames, Lib.itoa, d, List.range_succ]
end Go.Proofs.YtgcfomhlgipllaaGreatDoor
namespace Go.Proofs.YtgcfomhlgipllaaGreatDoor
open Go Go.Sx
theorem rtexts_spec (la : Option Addr) (lc : Nat) (l : List Tx) (hl : l.length ≤ 1048576) (ht : ∀ t ∈ l, okText t) (hB : (encTs l).length ≤ 549755813888) :
  Does Tryz.prog 104 [.slice la l.length lc] [ro la (strsC l)] (fun r hp' => r = .string (mkS (encTs l)) ∧ hp' = []) := by
 have hEl := encR_l encT l
 have hB : (encR encT l).length ≤ 549755813888 := hB
 refine fn_enter Tryz.func104 rfl 22 rfl fun w0 h0 => ?_
 refine SQ (RG ?_)
 refine RR [] .z (.i 2 (.string ⟨#[]⟩) .a) .a ?_
 refine RZ (NT (SQ (RG ?_)))
 refine RR [] (.d (.d .a)) (.i 6 (.int .i64 (↑l.length : Int)) .a) .a ?_
 refine RC (dst := some 7) [] .a (RInt_spec l.length (by omega) (by omega)) ?_
 rintro r _ ⟨rfl, rfl⟩
 obtain ⟨b0, hb0⟩ : ∃ b0, b0 = encI l.length := ⟨_, rfl⟩
 rw [← hb0] at hEl ⊢
 refine RR [] .z (.i 3 (.string (mkS b0)) (.d (.d (.k .a)))) .a ?_
 refine RZ (NT (SQ (SQ (RG ?_))))
 refine RR [] .z (.i 4 (.int .i64 0) .a) .a ?_
 refine RZ (NT (BK ?_))
 refine wpc_loop (X := {i : Nat // i ≤ l.length}) (fun x => St.mk [(4, .int .i64 (x.1 : Int)), (3, .string (mkS (b0 ++ (l.take x.1).flatMap encT))), (2, .string ⟨#[]⟩), (0, .slice la l.length lc)] [ro la (strsC l)]) (fun x => l.length - x.1) ⟨0, Nat.zero_le _⟩ ?_ ?_
 ·show Ent _ _ (St.mk [_, (3, .string (mkS (b0 ++ []))), _, _] _)
  rw [List.append_nil]
  exact ent_fr (by kernel_rfl)
 rintro ⟨i, hi⟩
 dsimp only at hi ⊢
 by_cases hlt : i < l.length
 ·have hme := flat_take_le encT hlt
  have hti := ht _ (List.getElem_mem hlt)
  unfold okText at hti
  obtain ⟨b2, hb2⟩ : ∃ b2, b2 = b0 ++ (l.take i).flatMap encT := ⟨_, rfl⟩
  have hbl : b2.length = b0.length + ((l.take i).flatMap encT).length := by rw [hb2, List.length_append]
  rw [← hb2]
  refine wpc_fact (fun w h => ro_addr h 0 rfl (by rw [strsC_len]; omega)) ?_
  rintro ⟨g0, o0, rfl⟩
  refine SQ (SQ (RG ?_))
  refine RR [] .z (.i 11 (.bool (decide ((↑i : Int) < (↑l.length : Int)))) .a) .a ?_
  refine RZ (NT ?_)
  refine SC 11 (decide ((↑i : Int) < (↑l.length : Int))) true (decide_eq_true (by omega)) ?_
  refine CT (SK (NT (SQ (BK (RG ?_)))))
  refine RV true [] (.d (.d (.d (.d .a)))) (.i 17 (.pointer (some ⟨g0, o0 + i * 1, none⟩)) (.i 14 (.string (mkS b2)) (.d (.d (.k .a))))) .a [(0 : Int) ≤ (↑i : Int) ∧ (↑i : Int) < (↑l.length : Int)] ⟨by omega, trivial⟩ ?_
  refine wpr_eq (ld (t := 9) (a := ⟨g0, o0 + i * 1, none⟩) (dst := some 18) (by kernel_rfl) false 1 (by kernel_rfl) (by simp) [.string (mkS l[i])] rfl (fun w h => ld_ro h 0 rfl (i * 1) (strs_at hlt))) ?_
  refine RC (dst := some 19) [] .a (RText_spec l[i] (by omega)) ?_
  rintro r _ ⟨rfl, rfl⟩
  refine RV true [] .z (.i 3 (.string (mkS (b2 ++ encT l[i]))) (.d (.d (.d (.d (.k (.d (.k .a)))))))) .a ([b2.length + (encT l[i]).length ≤ (9223372036854775807 : Nat)]) ⟨by omega, trivial⟩ ?_
  refine RZ (BN (NT (RG ?_)))
  refine RV true [] .z (.i 4 (.int .i64 ((↑i : Int) + 1)) (.k (.d (.k .a)))) .a ([inI64 ((↑i : Int) + (1 : Int))]) ⟨by unfold inI64; omega, trivial⟩ ?_
  refine RZ ?_
  rw [show b2 ++ encT l[i] = b0 ++ (l.take (i + 1)).flatMap encT from by rw [hb2, flat_take_succ encT hlt, List.append_assoc]]
  exact fun a' w' hS' => ⟨⟨i + 1, hlt⟩, by dsimp only; omega, ent_fr (by kernel_rfl) _ _ (ent_hp [0] rfl _ _ hS')⟩
 ·obtain rfl : i = l.length := by omega
  refine SQ (SQ (RG ?_))
  refine RR [] .z (.i 11 (.bool (decide ((↑l.length : Int) < (↑l.length : Int)))) .a) .a ?_
  refine RZ (NT ?_)
  refine SC 11 (decide ((↑l.length : Int) < (↑l.length : Int))) false (by simp) ?_
  refine CF (EX (TE (TE (BH (NT (SQ (RG ?_)))))))
  refine RR [] .z (.i 2 (.string (mkS (b0 ++ List.flatMap encT (List.take l.length l)))) .z) .a ?_
  refine RZ (NT (RE ?_))
  refine NE [] .z .a [] (.string (mkS (b0 ++ List.flatMap encT (List.take l.length l)))) ?_
  exact ⟨by rw [List.take_length, hb0]; rfl, rfl⟩
set_option maxHeartbeats 16000000 in
theorem rput_spec (c : CoV) (hc : c.ok) (hB : (encCo c.p).length ≤ 549755813888) : Does Tryz.prog 50 [.agg (coC c).toArray] (coHp c) (fun r hp' => r = .string (mkS (encCo c.p)) ∧ hp' = []) := by
 obtain ⟨hs1, hs2, hh1, hh2, hu1, hu2, hm0, hm1⟩ := id hc
 have hCo : coC c = [.slice c.sa c.strs.length c.sc, .slice c.ha c.shapes.length c.hc, .slice c.ua c.units.length c.uc, .int .i64 c.main] := rfl
 rw [hCo]
 unfold coHp
 have hE0 : (encCo c.p).length = (encTs c.strs).length + (encR encSh (c.shapes.map ShV.p)).length + (encR encU (c.units.map UnV.p)).length + (encI c.main).length := by
  unfold encCo CoV.p; simp only [List.length_append]
 have hE1 := encR_l encSh (c.shapes.map ShV.p)
 have hE2 := encR_l encU (c.units.map UnV.p)
 rw [List.length_map] at hE1 hE2
 refine fn_enter Tryz.func50 rfl 150 rfl fun w0 h0 => ?_
 refine SQ (RG ?_)
 refine RP [] (.d .a) 1 .z .a 26 [.slice c.sa c.strs.length c.sc, .slice c.ha c.shapes.length c.hc, .slice c.ua c.units.length c.uc, .int .i64 c.main] fun g1 => ?_
 refine RR [] .z (.i 2 (.string ⟨#[]⟩) .a) .a ?_
 refine RZ (NT (SQ ?_))
 refine wpc_draw (by kernel_rfl) [ro c.sa (strsC c.strs), ro c.ha (List.flatMap shC c.shapes), .blk g1 26 [.slice c.sa c.strs.length c.sc, .slice c.ha c.shapes.length c.hc, .slice c.ua c.units.length c.uc, .int .i64 c.main]] (sub_of [0, 1, 5] (by kernel_rfl)) 9 (by kernel_rfl) ?_
 refine TK 4 [(0, []), (1, [2]), (3, []), (4, [2]), (5, [])] (.i 15 (.int .i64 (↑c.shapes.length : Int)) (.i 11 (.slice c.sa c.strs.length c.sc) .a)) (#[true, true, false, true, true, true, false, false, false]) ?_
 refine AC (dst := some 12) 3 2 .a (rtexts_spec c.sa c.sc c.strs hs1 hs2 (by omega)) (GV (GI []) 0 view_ro) [0, 1, 5] ?_
 rintro r _ ⟨rfl, rfl⟩
 refine AC (dst := some 16) 2 6 .a (RInt_spec c.shapes.length (by omega) (by omega)) (GI []) [0, 1, 5] ?_
 rintro r _ ⟨rfl, rfl⟩
 refine wpa_take true [(7, []), (8, [])] ([(3, .string (mkS (encTs c.strs ++ encI (↑c.shapes.length : Int)))), (2, .string ⟨#[]⟩), (1, .pointer (some ⟨g1, 0, none⟩))]) (#[true, true, true, true, true, true, true, true, true]) ([(encTs c.strs).length + (encI (↑c.shapes.length : Int)).length ≤ (9223372036854775807 : Nat)]) (n := 0) (by kernel_rfl) (by kernel_rfl) (by kernel_rfl) ⟨by omega, trivial⟩ ?_
 refine wpa_done 0 (by kernel_rfl) ?_
 refine NT (SQ (SQ (RG ?_)))
 refine RR [] .z (.i 4 (.int .i64 0) .a) .a ?_
 refine RZ (NT (BK ?_))
 obtain ⟨b1, hb1⟩ : ∃ b, b = encTs c.strs ++ encI c.shapes.length := ⟨_, rfl⟩
 have hbl1 : b1.length = (encTs c.strs).length + (encI c.shapes.length).length := by rw [hb1, List.length_append]
 rw [← hb1]
 refine wpc_loop (X := {i : Nat // i ≤ c.shapes.length}) (fun x => St.mk [(4, .int .i64 (x.1 : Int)), (3, .string (mkS (b1 ++ ((c.shapes.map ShV.p).take x.1).flatMap encSh))), (2, .string ⟨#[]⟩), (1, .pointer (some ⟨g1, 0, none⟩))] [ro c.ha (c.shapes.flatMap shC), gSh c.shapes, ro c.ua (c.units.flatMap unC), gUn c.units, .blk g1 26 [.slice c.sa c.strs.length c.sc, .slice c.ha c.shapes.length c.hc, .slice c.ua c.units.length c.uc, .int .i64 c.main]]) (fun x => c.shapes.length - x.1) ⟨0, Nat.zero_le _⟩ ?_ ?_
 ·show Ent _ _ (St.mk [_, (3, .string (mkS (b1 ++ []))), _, _] _)
  rw [List.append_nil]
  exact Ent.trans (ent_hp [1, 1, 1, 1, 1] rfl) (ent_fr (by kernel_rfl))
 rintro ⟨i, hi⟩
 dsimp only at hi ⊢
 by_cases hlt : i < c.shapes.length
 ·have hme := mp_take_le ShV.p encSh hlt
  obtain ⟨b2, hb2⟩ : ∃ b2, b2 = b1 ++ ((c.shapes.map ShV.p).take i).flatMap encSh := ⟨_, rfl⟩
  have hbl : b2.length = b1.length + (((c.shapes.map ShV.p).take i).flatMap encSh).length := by rw [hb2, List.length_append]
  have hxl : (encSh c.shapes[i].p).length = (encT c.shapes[i].name).length + (encTs c.shapes[i].fields).length := by unfold encSh ShV.p; rw [List.length_append]
  rw [← hb2]
  obtain ⟨x1, x2, x3⟩ := hh2 _ (List.getElem_mem hlt)
  unfold okText at x1
  refine wpc_fact (fun w h => ro_addr h 0 rfl (by rw [shs_len]; omega)) ?_
  rintro ⟨g0, o0, hha⟩
  rw [hha]
  refine SQ (SQ (RG ?_))
  refine RR [4] .z (.i 22 (.bool (decide ((↑i : Int) < (↑c.shapes.length : Int)))) .a) .a ?_
  refine RZ (NT ?_)
  refine SC 22 (decide ((↑i : Int) < (↑c.shapes.length : Int))) true (decide_eq_true (by omega)) ?_
  refine CT (SK (NT (SQ (BK ?_))))
  refine wpc_draw (by kernel_rfl) [ro (some ⟨g0, o0, none⟩) (List.flatMap shC c.shapes), .blk g1 26 [.slice c.sa c.strs.length c.sc, .slice (some ⟨g0, o0, none⟩) c.shapes.length c.hc, .slice c.ua c.units.length c.uc, .int .i64 c.main]] (sub_of [0, 4] (by kernel_rfl)) 18 (by kernel_rfl) ?_
  refine wpa_take true [(0, []), (1, []), (2, [1]), (3, []), (4, []), (5, []), (9, []), (10, [1]), (11, []), (12, []), (13, [])] ([(38, .pointer (some ⟨g0, o0 + i * 2 + 1, none⟩)), (30, .pointer (some ⟨g0, o0 + i * 2, none⟩)), (25, .string (mkS b2)), (4, .int .i64 (↑i : Int)), (3, .string (mkS b2)), (2, .string ⟨#[]⟩), (1, .pointer (some ⟨g1, 0, none⟩))]) (#[true, true, true, true, true, true, false, false, false, true, true, true, true, true, false, false, false, false]) [(0 : Int) ≤ (↑i : Int) ∧ (↑i : Int) < (↑c.shapes.length : Int), (0 : Int) ≤ (↑i : Int) ∧ (↑i : Int) < (↑c.shapes.length : Int)] (n := 7) (by kernel_rfl) (by kernel_rfl) (by kernel_rfl) ⟨by omega, by omega, trivial⟩ ?_
  refine wpa_qld (i := 6) (n := 6) (by kernel_rfl) (by kernel_rfl) (by kernel_rfl) (t := 9) (a := ⟨g0, o0 + i * 2, none⟩) (dst := some 31) (by kernel_rfl) false 1 (by kernel_rfl) (by simp) [.string (mkS c.shapes[i].name)] rfl (fun w h => ld_roL h 0 rfl (i * 2) (shs_fld hlt 0 1 (by decide))) ?_
  refine wpa_qld (i := 14) (n := 5) (by kernel_rfl) (by kernel_rfl) (by kernel_rfl) (t := 22) (a := ⟨g0, o0 + i * 2 + 1, none⟩) (dst := some 39) (by kernel_rfl) false 1 (by kernel_rfl) (by simp) [.slice c.shapes[i].fa c.shapes[i].fields.length c.shapes[i].fc] rfl (fun w h => ld_roL h 0 rfl (i * 2 + 1) (shs_fld hlt 1 1 (by decide))) ?_
  refine AC (dst := some 32) 4 7 .a (RText_spec c.shapes[i].name (by omega)) (GI []) [0, 4] ?_
  rintro r _ ⟨rfl, rfl⟩
  refine wpa_take true [(8, [])] ([(33, .string (mkS (b2 ++ encT c.shapes[i].name))), (39, .slice c.shapes[i].fa c.shapes[i].fields.length c.shapes[i].fc), (4, .int .i64 (↑i : Int)), (3, .string (mkS b2)), (2, .string ⟨#[]⟩), (1, .pointer (some ⟨g1, 0, none⟩))]) (#[true, true, true, true, true, true, true, true, true, true, true, true, true, true, true, false, false, false]) ([b2.length + (encT c.shapes[i].name).length ≤ (9223372036854775807 : Nat)]) (n := 3) (by kernel_rfl) (by kernel_rfl) (by kernel_rfl) ⟨by omega, trivial⟩ ?_
  refine wpa_ent (ent_copy 1 (ro c.shapes[i].fa (strsC c.shapes[i].fields)) rfl (fun h => h) (view_in (shRo_in hlt) view_ro)) ?_
  refine AC (dst := some 40) 2 15 .a (rtexts_spec c.shapes[i].fa c.shapes[i].fc c.shapes[i].fields x2 x3 (by omega)) (GV (GI []) 0 view_ro) [1, 5] ?_
  rintro r _ ⟨rfl, rfl⟩
  refine wpa_take true [(16, []), (17, [])] ([(3, .string (mkS (b2 ++ encT c.shapes[i].name ++ encTs c.shapes[i].fields))), (4, .int .i64 (↑i : Int)), (2, .string ⟨#[]⟩), (1, .pointer (some ⟨g1, 0, none⟩))]) (#[true, true, true, true, true, true, true, true, true, true, true, true, true, true, true, true, true, true]) ([(b2 ++ encT c.shapes[i].name).length + (encTs c.shapes[i].fields).length ≤ (9223372036854775807 : Nat)]) (n := 0) (by kernel_rfl) (by kernel_rfl) (by kernel_rfl) ⟨by simp only [List.length_append, List.length_cons, List.length_nil, show ∀ l : List UInt8, (ByteArray.mk l.toArray).size = l.length from fun _ => rfl]; omega, trivial⟩ ?_
  refine wpa_done 0 (by kernel_rfl) ?_
  refine BN (NT (RG ?_))
  refine RV true [] .z (.i 4 (.int .i64 ((↑i : Int) + 1)) (.k (.d (.k .a)))) .a ([inI64 ((↑i : Int) + (1 : Int))]) ⟨by unfold inI64; omega, trivial⟩ ?_
  refine RZ ?_
  rw [← hha, show b2 ++ encT c.shapes[i].name ++ encTs c.shapes[i].fields = b1 ++ ((c.shapes.map ShV.p).take (i + 1)).flatMap encSh from by rw [hb2, mp_take_succ ShV.p encSh hlt]; unfold encSh ShV.p; simp]
  exact fun a' w' hS' => ⟨⟨i + 1, hlt⟩, by dsimp only; omega, ent_fr (by kernel_rfl) _ _ (ent_hp [1, 1, 1, 1, 1] rfl _ _ hS')⟩
 obtain rfl : i = c.shapes.length := by omega
 rw [show (c.shapes.map ShV.p).take c.shapes.length = c.shapes.map ShV.p from List.take_of_length_le (by rw [List.length_map]; exact Nat.le_refl _)]
 obtain ⟨b2, hb2⟩ : ∃ b2, b2 = b1 ++ (c.shapes.map ShV.p).flatMap encSh := ⟨_, rfl⟩
 have hbl2 : b2.length = b1.length + ((c.shapes.map ShV.p).flatMap encSh).length := by rw [hb2, List.length_append]
 rw [← hb2]
 refine SQ (SQ (RG ?_))
 refine RR [4] .z (.i 22 (.bool (decide ((↑c.shapes.length : Int) < (↑c.shapes.length : Int)))) .a) .a ?_
 refine RZ (NT ?_)
 refine SC 22 (decide ((↑c.shapes.length : Int) < (↑c.shapes.length : Int))) false (by simp) ?_
 refine CF (EX (TE (TE (BH (NT (SQ (RG ?_)))))))
 refine RR [4] (.d (.d (.d (.d .a)))) (.i 45 (.int .i64 (↑c.units.length : Int)) (.i 42 (.string (mkS b2)) (.d (.d (.d (.k .a)))))) .a ?_
 refine RC (dst := some 46) [] .a (RInt_spec c.units.length (by omega) (by omega)) ?_
 rintro r _ ⟨rfl, rfl⟩
 refine RV true [] .z (.i 3 (.string (mkS (b2 ++ encI (↑c.units.length : Int)))) (.d (.d (.d (.d (.k .a)))))) .a ([b2.length + (encI (↑c.units.length : Int)).length ≤ (9223372036854775807 : Nat)]) ⟨by omega, trivial⟩ ?_
 refine RZ (NT (SQ (SQ (RG ?_))))
 refine RR [] .z (.i 5 (.int .i64 0) .a) .a ?_
 refine RZ (NT (BK ?_))
 obtain ⟨b3, hb3⟩ : ∃ b3, b3 = b2 ++ encI c.units.length := ⟨_, rfl⟩
 have hbl3 : b3.length = b2.length + (encI c.units.length).length := by rw [hb3, List.length_append]
 rw [← hb3]
 refine wpc_loop (X := {i : Nat // i ≤ c.units.length}) (fun x => St.mk [(5, .int .i64 (x.1 : Int)), (3, .string (mkS (b3 ++ ((c.units.map UnV.p).take x.1).flatMap encU))), (2, .string ⟨#[]⟩), (1, .pointer (some ⟨g1, 0, none⟩))] [ro c.ua (c.units.flatMap unC), gUn c.units, .blk g1 26 [.slice c.sa c.strs.length c.sc, .slice c.ha c.shapes.length c.hc, .slice c.ua c.units.length c.uc, .int .i64 c.main]]) (fun x => c.units.length - x.1) ⟨0, Nat.zero_le _⟩ ?_ ?_
 ·show Ent _ _ (St.mk [_, (3, .string (mkS (b3 ++ []))), _, _] _)
  rw [List.append_nil]
  exact Ent.trans (ent_hp [2, 2, 2] rfl) (ent_fr (by kernel_rfl))
 rintro ⟨i, hi⟩
 dsimp only at hi ⊢
 by_cases hlt : i < c.units.length
 ·have hme := mp_take_le UnV.p encU hlt
  obtain ⟨b4, hb4⟩ : ∃ b4, b4 = b3 ++ ((c.units.map UnV.p).take i).flatMap encU := ⟨_, rfl⟩
  have hbl4 : b4.length = b3.length + (((c.units.map UnV.p).take i).flatMap encU).length := by rw [hb4, List.length_append]
  obtain ⟨x1, ⟨p1, p2⟩, ⟨q1, q2⟩, ⟨k1, k2⟩, x5, x6, x7, x8⟩ := hu2 _ (List.getElem_mem hlt)
  unfold okText at x1
  have hxl : (encU c.units[i].p).length = (encT c.units[i].name).length + (encI c.units[i].params).length + (encI c.units[i].slots).length + (encI c.units[i].stack).length + (encB c.units[i].result).length + (encR encIn c.units[i].ins).length + (encR encVr c.units[i].vars).length := by unfold encU UnV.p; simp only [List.length_append]
  have hxi := encR_l encIn c.units[i].ins
  have hxv := encR_l encVr c.units[i].vars
  have hb1' : (encB c.units[i].result).length = 1 := rfl
  rw [← hb4]
  refine wpc_fact (fun w h => ro_addr h 0 rfl (by rw [uns_len]; omega)) ?_
  rintro ⟨g0, o0, hua⟩
  rw [hua]
  refine SQ (SQ (RG ?_))
  refine RR [2] .z (.i 52 (.bool (decide ((↑i : Int) < (↑c.units.length : Int)))) .a) .a ?_
  refine RZ (NT ?_)
  refine SC 52 (decide ((↑i : Int) < (↑c.units.length : Int))) true (decide_eq_true (by omega)) ?_
  refine CT (SK (NT (SQ (BK (SQ (RG ?_))))))
  refine RV true [2] (.d (.d (.d (.d .a)))) (.i 58 (.pointer (some ⟨g0, o0 + i * 7, none⟩)) (.d (.d (.k .a)))) .a [(0 : Int) ≤ (↑i : Int) ∧ (↑i : Int) < (↑c.units.length : Int)] ⟨by omega, trivial⟩ ?_
  refine wpr_eq (ld (t := 59) (a := ⟨g0, o0 + i * 7, none⟩) (dst := some 59) (by kernel_rfl) true 7 (by kernel_rfl) (by simp) (unC c.units[i]) rfl (fun w h => ld_ro h 0 rfl (i * 7) (uns_at hlt))) ?_
  refine RP [] (.d .a) 6 (.i 59 (.agg #[.string (mkS c.units[i].name), .int .i64 c.units[i].params, .int .i64 c.units[i].slots, .int .i64 c.units[i].stack, .bool c.units[i].result, .slice c.units[i].ia c.units[i].ins.length c.units[i].ic, .slice c.units[i].va c.units[i].vars.length c.units[i].vc]) (.d (.d (.k .a)))) .a 59 [.string ⟨#[]⟩, .int .i64 0, .int .i64 0, .int .i64 0, .bool false, .slice none 0 0, .slice none 0 0] fun g2 => ?_
  refine RR [3, 3, 3, 3, 3, 3, 3] .z (.k (.d (.k .a))) (.k (.k (.k (.u (.i (.string (mkS c.units[i].name)) (.i (.int .i64 c.units[i].params) (.i (.int .i64 c.units[i].slots) (.i (.int .i64 c.units[i].stack) (.i (.bool c.units[i].result) (.i (.slice c.units[i].ia c.units[i].ins.length c.units[i].ic) (.i (.slice c.units[i].va c.units[i].vars.length c.units[i].vc) .z))))))) .a)))) ?_
  refine RZ (NT (SQ ?_))
  refine wpc_draw (by kernel_rfl) [.blk g2 59 [.string (mkS c.units[i].name), .int .i64 c.units[i].params, .int .i64 c.units[i].slots, .int .i64 c.units[i].stack, .bool c.units[i].result, .slice c.units[i].ia c.units[i].ins.length c.units[i].ic, .slice c.units[i].va c.units[i].vars.length c.units[i].vc]] (sub_of [3] (by kernel_rfl)) 27 (by kernel_rfl) ?_
  refine TK 13 [(0, []), (1, []), (2, [0]), (5, []), (6, [0]), (9, []), (10, [0]), (13, []), (14, [0]), (17, []), (18, [0]), (21, []), (22, [0]), (23, [])] (.i 83 (.int .i64 (↑c.units[i].ins.length : Int)) (.i 78 (.bool c.units[i].result) (.i 74 (.int .i64 c.units[i].stack) (.i 70 (.int .i64 c.units[i].slots) (.i 66 (.int .i64 c.units[i].params) (.i 62 (.string (mkS c.units[i].name)) (.i 60 (.string (mkS b4)) .a))))))) (#[true, true, true, false, false, true, true, false, false, true, true, false, false, true, true, false, false, true, true, false, false, true, true, true, false, false, false]) ?_
  refine AC (dst := some 63) 12 3 .a (RText_spec c.units[i].name (by omega)) (GI []) [3] ?_
  rintro r _ ⟨rfl, rfl⟩
  refine wpa_take true [(4, [])] ([(64, .string (mkS (b4 ++ encT c.units[i].name))), (83, .int .i64 (↑c.units[i].ins.length : Int)), (78, .bool c.units[i].result), (74, .int .i64 c.units[i].stack), (70, .int .i64 c.units[i].slots), (66, .int .i64 c.units[i].params), (6, .pointer (some ⟨g2, 0, none⟩)), (5, .int .i64 (↑i : Int)), (3, .string (mkS b4)), (2, .string ⟨#[]⟩), (1, .pointer (some ⟨g1, 0, none⟩))]) (#[true, true, true, true, true, true, true, false, false, true, true, false, false, true, true, false, false, true, true, false, false, true, true, true, false, false, false]) ([b4.length + (encT c.units[i].name).length ≤ (9223372036854775807 : Nat)]) (n := 11) (by kernel_rfl) (by kernel_rfl) (by kernel_rfl) ⟨by omega, trivial⟩ ?_
  refine AC (dst := some 67) 10 7 .a (RInt_spec c.units[i].params p1 p2) (GI []) [3] ?_
  rintro r _ ⟨rfl, rfl⟩
  refine wpa_take true [(8, [])] ([(68, .string (mkS (b4 ++ encT c.units[i].name ++ encI c.units[i].params))), (83, .int .i64 (↑c.units[i].ins.length : Int)), (78, .bool c.units[i].result), (74, .int .i64 c.units[i].stack), (70, .int .i64 c.units[i].slots), (6, .pointer (some ⟨g2, 0, none⟩)), (5, .int .i64 (↑i : Int)), (3, .string (mkS b4)), (2, .string ⟨#[]⟩), (1, .pointer (some ⟨g1, 0, none⟩))]) (#[true, true, true, true, true, true, true, true, true, true, true, false, false, true, true, false, false, true, true, false, false, true, true, true, false, false, false]) ([(b4 ++ encT c.units[i].name).length + (encI c.units[i].params).length ≤ (9223372036854775807 : Nat)]) (n := 9) (by kernel_rfl) (by kernel_rfl) (by kernel_rfl) ⟨by simp only [List.length_append, List.length_cons, List.length_nil, show ∀ l : List UInt8, (ByteArray.mk l.toArray).size = l.length from fun _ => rfl]; omega, trivial⟩ ?_
  refine AC (dst := some 71) 8 11 .a (RInt_spec c.units[i].slots q1 q2) (GI []) [3] ?_
  rintro r _ ⟨rfl, rfl⟩
  refine wpa_take true [(12, [])] ([(72, .string (mkS (b4 ++ encT c.units[i].name ++ encI c.units[i].params ++ encI c.units[i].slots))), (83, .int .i64 (↑c.units[i].ins.length : Int)), (78, .bool c.units[i].result), (74, .int .i64 c.units[i].stack), (6, .pointer (some ⟨g2, 0, none⟩)), (5, .int .i64 (↑i : Int)), (3, .string (mkS b4)), (2, .string ⟨#[]⟩), (1, .pointer (some ⟨g1, 0, none⟩))]) (#[true, true, true, true, true, true, true, true, true, true, true, true, true, true, true, false, false, true, true, false, false, true, true, true, false, false, false]) ([(b4 ++ encT c.units[i].name ++ encI c.units[i].params).length + (encI c.units[i].slots).length ≤ (9223372036854775807 : Nat)]) (n := 7) (by kernel_rfl) (by kernel_rfl) (by kernel_rfl) ⟨by simp only [List.length_append, List.length_cons, List.length_nil, show ∀ l : List UInt8, (ByteArray.mk l.toArray).size = l.length from fun _ => rfl]; omega, trivial⟩ ?_
  refine AC (dst := some 75) 6 15 .a (RInt_spec c.units[i].stack k1 k2) (GI []) [3] ?_
  rintro r _ ⟨rfl, rfl⟩
  refine wpa_take true [(16, [])] ([(76, .string (mkS (b4 ++ encT c.units[i].name ++ encI c.units[i].params ++ encI c.units[i].slots ++ encI c.units[i].stack))), (83, .int .i64 (↑c.units[i].ins.length : Int)), (78, .bool c.units[i].result), (6, .pointer (some ⟨g2, 0, none⟩)), (5, .int .i64 (↑i : Int)), (3, .string (mkS b4)), (2, .string ⟨#[]⟩), (1, .pointer (some ⟨g1, 0, none⟩))]) (#[true, true, true, true, true, true, true, true, true, true, true, true, true, true, true, true, true, true, true, false, false, true, true, true, false, false, false]) ([(b4 ++ encT c.units[i].name ++ encI c.units[i].params ++ encI c.units[i].slots).length + (encI c.units[i].stack).length ≤ (9223372036854775807 : Nat)]) (n := 5) (by kernel_rfl) (by kernel_rfl) (by kernel_rfl) ⟨by simp only [List.length_append, List.length_cons, List.length_nil, show ∀ l : List UInt8, (ByteArray.mk l.toArray).size = l.length from fun _ => rfl]; omega, trivial⟩ ?_
  refine AC (dst := some 79) 4 19 .a (RBool_spec c.units[i].result) (GI []) [3] ?_
  rintro r _ ⟨rfl, rfl⟩
  refine wpa_take true [(20, [])] ([(80, .string (mkS (b4 ++ encT c.units[i].name ++ encI c.units[i].params ++ encI c.units[i].slots ++ encI c.units[i].stack ++ encB c.units[i].result))), (83, .int .i64 (↑c.units[i].ins.length : Int)), (6, .pointer (some ⟨g2, 0, none⟩)), (5, .int .i64 (↑i : Int)), (3, .string (mkS b4)), (2, .string ⟨#[]⟩), (1, .pointer (some ⟨g1, 0, none⟩))]) (#[true, true, true, true, true, true, true, true, true, true, true, true, true, true, true, true, true, true, true, true, true, true, true, true, false, false, false]) ([(b4 ++ encT c.units[i].name ++ encI c.units[i].params ++ encI c.units[i].slots ++ encI c.units[i].stack).length + (encB c.units[i].result).length ≤ (9223372036854775807 : Nat)]) (n := 3) (by kernel_rfl) (by kernel_rfl) (by kernel_rfl) ⟨by simp only [List.length_append, List.length_cons, List.length_nil, show ∀ l : List UInt8, (ByteArray.mk l.toArray).size = l.length from fun _ => rfl]; omega, trivial⟩ ?_
  refine AC (dst := some 84) 2 24 .a (RInt_spec c.units[i].ins.length (by omega) (by omega)) (GI []) [3] ?_
  rintro r _ ⟨rfl, rfl⟩
  refine wpa_take true [(25, []), (26, [])] ([(3, .string (mkS (b4 ++ encT c.units[i].name ++ encI c.units[i].params ++ encI c.units[i].slots ++ encI c.units[i].stack ++ encB c.units[i].result ++ encI (↑c.units[i].ins.length : Int)))), (6, .pointer (some ⟨g2, 0, none⟩)), (5, .int .i64 (↑i : Int)), (2, .string ⟨#[]⟩), (1, .pointer (some ⟨g1, 0, none⟩))]) (#[true, true, true, true, true, true, true, true, true, true, true, true, true, true, true, true, true, true, true, true, true, true, true, true, true, true, true]) ([(b4 ++ encT c.units[i].name ++ encI c.units[i].params ++ encI c.units[i].slots ++ encI c.units[i].stack ++ encB c.units[i].result).length + (encI (↑c.units[i].ins.length : Int)).length ≤ (9223372036854775807 : Nat)]) (n := 0) (by kernel_rfl) (by kernel_rfl) (by kernel_rfl) ⟨by simp only [List.length_append, List.length_cons, List.length_nil, show ∀ l : List UInt8, (ByteArray.mk l.toArray).size = l.length from fun _ => rfl]; omega, trivial⟩ ?_
  refine wpa_done 0 (by kernel_rfl) ?_
  refine NT (SQ (SQ (RG ?_)))
  refine RR [] .z (.i 7 (.int .i64 0) .a) .a ?_
  refine RZ (NT (BK ?_))
  obtain ⟨b6, hb6⟩ : ∃ b, b = b4 ++ encT c.units[i].name ++ encI c.units[i].params ++ encI c.units[i].slots ++ encI c.units[i].stack ++ encB c.units[i].result ++ encI c.units[i].ins.length := ⟨_, rfl⟩
  have hbl6 : b6.length = b4.length + (encT c.units[i].name).length + (encI c.units[i].params).length + (encI c.units[i].slots).length + (encI c.units[i].stack).length + 1 + (encI c.units[i].ins.length).length := by rw [hb6]; simp only [List.length_append, hb1']
  rw [← hb6]
  refine wpc_ent (ent_copy 1 (ro c.units[i].ia (c.units[i].ins.flatMap insC)) rfl (fun h => h) (view_in (unRo_in1 hlt) view_ro)) ?_
  refine wpc_ent (ent_copy 2 (ro c.units[i].va (c.units[i].vars.flatMap varC)) rfl (fun h => h) (view_in (unRo_in2 hlt) view_ro)) ?_
  refine wpc_loop (X := {m : Nat // m ≤ c.units[i].ins.length}) (fun x => St.mk [(7, .int .i64 (x.1 : Int)), (6, .pointer (some ⟨g2, 0, none⟩)), (5, .int .i64 (i : Int)), (3, .string (mkS (b6 ++ (c.units[i].ins.take x.1).flatMap encIn))), (2, .string ⟨#[]⟩), (1, .pointer (some ⟨g1, 0, none⟩))] [ro (some ⟨g0, o0, none⟩) (c.units.flatMap unC), gUn c.units, ro c.units[i].ia (c.units[i].ins.flatMap insC), ro c.units[i].va (c.units[i].vars.flatMap varC), .blk g1 26 [.slice c.sa c.strs.length c.sc, .slice c.ha c.shapes.length c.hc, .slice (some ⟨g0, o0, none⟩) c.units.length c.uc, .int .i64 c.main], .blk g2 59 [.string (mkS c.units[i].name), .int .i64 c.units[i].params, .int .i64 c.units[i].slots, .int .i64 c.units[i].stack, .bool c.units[i].result, .slice c.units[i].ia c.units[i].ins.length c.units[i].ic, .slice c.units[i].va c.units[i].vars.length c.units[i].vc]]) (fun x => c.units[i].ins.length - x.1) ⟨0, Nat.zero_le _⟩ ?_ ?_
  ·show Ent _ _ (St.mk [_, _, _, (3, .string (mkS (b6 ++ []))), _, _] _)
   rw [List.append_nil]
   exact Ent.trans (ent_hp [2, 2, 1, 0, 0, 0] rfl) (ent_fr (by kernel_rfl))
  rintro ⟨m, hm⟩
  dsimp only at hm ⊢
  by_cases hmt : m < c.units[i].ins.length
  ·have hme2 := flat_take_le encIn hmt
   obtain ⟨b7, hb7⟩ : ∃ b, b = b6 ++ (c.units[i].ins.take m).flatMap encIn := ⟨_, rfl⟩
   have hbl7 : b7.length = b6.length + ((c.units[i].ins.take m).flatMap encIn).length := by rw [hb7, List.length_append]
   rw [← hb7]
   obtain ⟨⟨y1, y2⟩, y3, y4⟩ := x7 _ (List.getElem_mem hmt)
   have e2 : (encIn c.units[i].ins[m]).length = (encI c.units[i].ins[m].1).length + (encI c.units[i].ins[m].2).length := by unfold encIn; rw [List.length_append]
   refine wpc_fact (fun w h => ro_addr h 2 rfl (by rw [ins_len]; omega)) ?_
   rintro ⟨g5, o5, hia⟩
   rw [hia]
   refine SQ (SQ (RG ?_))
   refine RR [5] .z (.i 90 (.bool (decide ((↑m : Int) < (↑c.units[i].ins.length : Int)))) .a) .a ?_
   refine RZ (NT ?_)
   refine SC 90 (decide ((↑m : Int) < (↑c.units[i].ins.length : Int))) true (decide_eq_true (by omega)) ?_
   refine CT (SK (NT (SQ (BK ?_))))
   refine wpc_draw (by kernel_rfl) [ro (some ⟨g5, o5, none⟩) (List.flatMap insC c.units[i].ins), .blk g2 59 [.string (mkS c.units[i].name), .int .i64 c.units[i].params, .int .i64 c.units[i].slots, .int .i64 c.units[i].stack, .bool c.units[i].result, .slice (some ⟨g5, o5, none⟩) c.units[i].ins.length c.units[i].ic, .slice c.units[i].va c.units[i].vars.length c.units[i].vc]] (sub_of [2, 5] (by kernel_rfl)) 18 (by kernel_rfl) ?_
   refine wpa_take true [(0, []), (1, []), (2, [1]), (3, []), (4, []), (5, []), (9, []), (10, [1]), (11, []), (12, []), (13, [])] ([(106, .pointer (some ⟨g5, o5 + m * 2 + 1, none⟩)), (98, .pointer (some ⟨g5, o5 + m * 2, none⟩)), (93, .string (mkS b7)), (7, .int .i64 (↑m : Int)), (6, .pointer (some ⟨g2, 0, none⟩)), (5, .int .i64 (↑i : Int)), (3, .string (mkS b7)), (2, .string ⟨#[]⟩), (1, .pointer (some ⟨g1, 0, none⟩))]) (#[true, true, true, true, true, true, false, false, false, true, true, true, true, true, false, false, false, false]) [(0 : Int) ≤ (↑m : Int) ∧ (↑m : Int) < (↑c.units[i].ins.length : Int), (0 : Int) ≤ (↑m : Int) ∧ (↑m : Int) < (↑c.units[i].ins.length : Int)] (n := 7) (by kernel_rfl) (by kernel_rfl) (by kernel_rfl) ⟨by omega, by omega, trivial⟩ ?_
   refine wpa_qld (i := 6) (n := 6) (by kernel_rfl) (by kernel_rfl) (by kernel_rfl) (t := 60) (a := ⟨g5, o5 + m * 2, none⟩) (dst := some 99) (by kernel_rfl) false 1 (by kernel_rfl) (by simp) [.int .i64 c.units[i].ins[m].1] rfl (fun w h => ld_roL h 0 rfl (m * 2) (ins_fld hmt 0 1 (by decide))) ?_
   refine wpa_qld (i := 14) (n := 5) (by kernel_rfl) (by kernel_rfl) (by kernel_rfl) (t := 3) (a := ⟨g5, o5 + m * 2 + 1, none⟩) (dst := some 107) (by kernel_rfl) false 1 (by kernel_rfl) (by simp) [.int .i64 c.units[i].ins[m].2] rfl (fun w h => ld_roL h 0 rfl (m * 2 + 1) (ins_fld hmt 1 1 (by decide))) ?_
   refine AC (dst := some 100) 4 7 .a (RInt_spec c.units[i].ins[m].1 y1 y2) (GI []) [2, 5] ?_
   rintro r _ ⟨rfl, rfl⟩
   refine wpa_take true [(8, [])] ([(101, .string (mkS (b7 ++ encI c.units[i].ins[m].fst))), (107, .int .i64 c.units[i].ins[m].snd), (7, .int .i64 (↑m : Int)), (6, .pointer (some ⟨g2, 0, none⟩)), (5, .int .i64 (↑i : Int)), (3, .string (mkS b7)), (2, .string ⟨#[]⟩), (1, .pointer (some ⟨g1, 0, none⟩))]) (#[true, true, true, true, true, true, true, true, true, true, true, true, true, true, true, false, false, false]) ([b7.length + (encI c.units[i].ins[m].fst).length ≤ (9223372036854775807 : Nat)]) (n := 3) (by kernel_rfl) (by kernel_rfl) (by kernel_rfl) ⟨by omega, trivial⟩ ?_
   refine AC (dst := some 108) 2 15 .a (RInt_spec c.units[i].ins[m].2 y3 y4) (GI []) [2, 5] ?_
   rintro r _ ⟨rfl, rfl⟩
   refine wpa_take true [(16, []), (17, [])] ([(3, .string (mkS (b7 ++ encI c.units[i].ins[m].fst ++ encI c.units[i].ins[m].snd))), (7, .int .i64 (↑m : Int)), (6, .pointer (some ⟨g2, 0, none⟩)), (5, .int .i64 (↑i : Int)), (2, .string ⟨#[]⟩), (1, .pointer (some ⟨g1, 0, none⟩))]) (#[true, true, true, true, true, true, true, true, true, true, true, true, true, true, true, true, true, true]) ([(b7 ++ encI c.units[i].ins[m].fst).length + (encI c.units[i].ins[m].snd).length ≤ (9223372036854775807 : Nat)]) (n := 0) (by kernel_rfl) (by kernel_rfl) (by kernel_rfl) ⟨by simp only [List.length_append, List.length_cons, List.length_nil, show ∀ l : List UInt8, (ByteArray.mk l.toArray).size = l.length from fun _ => rfl]; omega, trivial⟩ ?_
   refine wpa_done 0 (by kernel_rfl) ?_
   refine BN (NT (RG ?_))
   refine RV true [] .z (.i 7 (.int .i64 ((↑m : Int) + 1)) (.k (.d (.k .a)))) .a ([inI64 ((↑m : Int) + (1 : Int))]) ⟨by unfold inI64; omega, trivial⟩ ?_
   refine RZ ?_
   rw [← hia, show b7 ++ encI c.units[i].ins[m].1 ++ encI c.units[i].ins[m].2 = b6 ++ (c.units[i].ins.take (m + 1)).flatMap encIn from by rw [hb7, flat_take_succ encIn hmt]; unfold encIn; simp]
   exact fun a' w' hS' => ⟨⟨m + 1, hmt⟩, by dsimp only; omega, ent_fr (by kernel_rfl) _ _ (ent_hp [0, 0, 0, 0, 0, 0] rfl _ _ hS')⟩
  obtain rfl : m = c.units[i].ins.length := by omega
  rw [List.take_length]
  obtain ⟨b7, hb7⟩ : ∃ b, b = b6 ++ c.units[i].ins.flatMap encIn := ⟨_, rfl⟩
  have hbl7 : b7.length = b6.length + (c.units[i].ins.flatMap encIn).length := by rw [hb7, List.length_append]
  rw [← hb7]
  refine SQ (SQ (RG ?_))
  refine RR [5] .z (.i 90 (.bool (decide ((↑c.units[i].ins.length : Int) < (↑c.units[i].ins.length : Int)))) .a) .a ?_
  refine RZ (NT ?_)
  refine SC 90 (decide ((↑c.units[i].ins.length : Int) < (↑c.units[i].ins.length : Int))) false (by simp) ?_
  refine CF (EX (TE (TE (BH (NT (SQ (RG ?_)))))))
  refine RR [5] (.d (.d (.d (.d .a)))) (.i 113 (.int .i64 (↑c.units[i].vars.length : Int)) (.i 110 (.string (mkS b7)) (.d (.d (.d (.k .a)))))) .a ?_
  refine RC (dst := some 114) [] .a (RInt_spec c.units[i].vars.length (by omega) (by omega)) ?_
  rintro r _ ⟨rfl, rfl⟩
  refine RV true [] .z (.i 3 (.string (mkS (b7 ++ encI (↑c.units[i].vars.length : Int)))) (.d (.d (.d (.k (.k (.d (.k .a)))))))) .a ([b7.length + (encI (↑c.units[i].vars.length : Int)).length ≤ (9223372036854775807 : Nat)]) ⟨by omega, trivial⟩ ?_
  refine RZ (NT (SQ (RG ?_)))
  refine RR [] .z (.i 8 (.int .i64 0) .a) .a ?_
  refine RZ (NT (BK ?_))
  obtain ⟨b8, hb8⟩ : ∃ b, b = b7 ++ encI c.units[i].vars.length := ⟨_, rfl⟩
  have hbl8 : b8.length = b7.length + (encI c.units[i].vars.length).length := by rw [hb8, List.length_append]
  rw [← hb8]
  refine wpc_loop (X := {m : Nat // m ≤ c.units[i].vars.length}) (fun x => St.mk [(8, .int .i64 (x.1 : Int)), (6, .pointer (some ⟨g2, 0, none⟩)), (5, .int .i64 (i : Int)), (3, .string (mkS (b8 ++ (c.units[i].vars.take x.1).flatMap encVr))), (2, .string ⟨#[]⟩), (1, .pointer (some ⟨g1, 0, none⟩))] [ro (some ⟨g0, o0, none⟩) (c.units.flatMap unC), gUn c.units, ro c.units[i].va (c.units[i].vars.flatMap varC), .blk g1 26 [.slice c.sa c.strs.length c.sc, .slice c.ha c.shapes.length c.hc, .slice (some ⟨g0, o0, none⟩) c.units.length c.uc, .int .i64 c.main], .blk g2 59 [.string (mkS c.units[i].name), .int .i64 c.units[i].params, .int .i64 c.units[i].slots, .int .i64 c.units[i].stack, .bool c.units[i].result, .slice c.units[i].ia c.units[i].ins.length c.units[i].ic, .slice c.units[i].va c.units[i].vars.length c.units[i].vc]]) (fun x => c.units[i].vars.length - x.1) ⟨0, Nat.zero_le _⟩ ?_ ?_
  ·show Ent _ _ (St.mk [_, _, _, (3, .string (mkS (b8 ++ []))), _, _] _)
   rw [List.append_nil]
   exact Ent.trans (ent_hp [0, 0, 1, 1, 1] rfl) (ent_fr (by kernel_rfl))
  rintro ⟨m, hm⟩
  dsimp only at hm ⊢
  by_cases hmt : m < c.units[i].vars.length
  ·have hme2 := flat_take_le encVr hmt
   obtain ⟨b9, hb9⟩ : ∃ b, b = b8 ++ (c.units[i].vars.take m).flatMap encVr := ⟨_, rfl⟩
   have hbl9 : b9.length = b8.length + ((c.units[i].vars.take m).flatMap encVr).length := by rw [hb9, List.length_append]
   rw [← hb9]
   obtain ⟨y1, ⟨y2, y3⟩, ⟨y4, y5⟩, y6, y7⟩ := x8 _ (List.getElem_mem hmt)
   unfold okText at y1
   have e5 : (encVr c.units[i].vars[m]).length = (encT c.units[i].vars[m].name).length + (encI c.units[i].vars[m].slot).length + (encI c.units[i].vars[m].fr).length + (encI c.units[i].vars[m].to).length := by unfold encVr; simp only [List.length_append]
   refine wpc_fact (fun w h => ro_addr h 2 rfl (by rw [vars_len]; omega)) ?_
   rintro ⟨g5, o5, hia⟩
   rw [hia]
   refine SQ (SQ (RG ?_))
   refine RR [4] .z (.i 120 (.bool (decide ((↑m : Int) < (↑c.units[i].vars.length : Int)))) .a) .a ?_
   refine RZ (NT ?_)
   refine SC 120 (decide ((↑m : Int) < (↑c.units[i].vars.length : Int))) true (decide_eq_true (by omega)) ?_
   refine CT (SK (NT (SQ (BK (SQ (RG ?_))))))
   refine RV true [4] (.d (.d (.d (.d .a)))) (.i 126 (.pointer (some ⟨g5, o5 + m * 4, none⟩)) (.d (.d (.k .a)))) .a [(0 : Int) ≤ (↑m : Int) ∧ (↑m : Int) < (↑c.units[i].vars.length : Int)] ⟨by omega, trivial⟩ ?_
   refine wpr_eq (ld (t := 116) (a := ⟨g5, o5 + m * 4, none⟩) (dst := some 127) (by kernel_rfl) true 4 (by kernel_rfl) (by simp) (varC c.units[i].vars[m]) rfl (fun w h => ld_ro h 2 rfl (m * 4) (vars_at hmt))) ?_
   refine RP [] (.d .a) 9 (.i 127 (.agg #[.string (mkS c.units[i].vars[m].name), .int .i64 c.units[i].vars[m].slot, .int .i64 c.units[i].vars[m].fr, .int .i64 c.units[i].vars[m].to]) (.d (.d (.k .a)))) .a 116 [.string ⟨#[]⟩, .int .i64 0, .int .i64 0, .int .i64 0] fun g3 => ?_
   refine RR [5, 5, 5, 5] .z (.k (.d (.k .a))) (.k (.k (.k (.k (.k (.u (.i (.string (mkS c.units[i].vars[m].name)) (.i (.int .i64 c.units[i].vars[m].slot) (.i (.int .i64 c.units[i].vars[m].fr) (.i (.int .i64 c.units[i].vars[m].to) .z)))) .a)))))) ?_
   refine RZ (NT ?_)
   refine wpc_draw (by kernel_rfl) [.blk g3 116 [.string (mkS c.units[i].vars[m].name), .int .i64 c.units[i].vars[m].slot, .int .i64 c.units[i].vars[m].fr, .int .i64 c.units[i].vars[m].to]] (sub_of [5] (by kernel_rfl)) 18 (by kernel_rfl) ?_
   refine TK 9 [(0, []), (1, []), (2, [0]), (5, []), (6, [0]), (9, []), (10, [0]), (13, []), (14, [0])] (.i 142 (.int .i64 c.units[i].vars[m].to) (.i 138 (.int .i64 c.units[i].vars[m].fr) (.i 134 (.int .i64 c.units[i].vars[m].slot) (.i 130 (.string (mkS c.units[i].vars[m].name)) (.i 128 (.string (mkS b9)) (.d (.k .a))))))) (#[true, true, true, false, false, true, true, false, false, true, true, false, false, true, true, false, false, false]) ?_
   refine AC (dst := some 131) 8 3 .a (RText_spec c.units[i].vars[m].name (by omega)) (GI []) [5] ?_
   rintro r _ ⟨rfl, rfl⟩
   refine wpa_take true [(4, [])] ([(132, .string (mkS (b9 ++ encT c.units[i].vars[m].name))), (142, .int .i64 c.units[i].vars[m].to), (138, .int .i64 c.units[i].vars[m].fr), (134, .int .i64 c.units[i].vars[m].slot), (8, .int .i64 (↑m : Int)), (6, .pointer (some ⟨g2, 0, none⟩)), (5, .int .i64 (↑i : Int)), (3, .string (mkS b9)), (2, .string ⟨#[]⟩), (1, .pointer (some ⟨g1, 0, none⟩))]) (#[true, true, true, true, true, true, true, false, false, true, true, false, false, true, true, false, false, false]) ([b9.length + (encT c.units[i].vars[m].name).length ≤ (9223372036854775807 : Nat)]) (n := 7) (by kernel_rfl) (by kernel_rfl) (by kernel_rfl) ⟨by omega, trivial⟩ ?_
   refine AC (dst := some 135) 6 7 .a (RInt_spec c.units[i].vars[m].slot y2 y3) (GI []) [5] ?_
   rintro r _ ⟨rfl, rfl⟩
   refine wpa_take true [(8, [])] ([(136, .string (mkS (b9 ++ encT c.units[i].vars[m].name ++ encI c.units[i].vars[m].slot))), (142, .int .i64 c.units[i].vars[m].to), (138, .int .i64 c.units[i].vars[m].fr), (8, .int .i64 (↑m : Int)), (6, .pointer (some ⟨g2, 0, none⟩)), (5, .int .i64 (↑i : Int)), (3, .string (mkS b9)), (2, .string ⟨#[]⟩), (1, .pointer (some ⟨g1, 0, none⟩))]) (#[true, true, true, true, true, true, true, true, true, true, true, false, false, true, true, false, false, false]) ([(b9 ++ encT c.units[i].vars[m].name).length + (encI c.units[i].vars[m].slot).length ≤ (9223372036854775807 : Nat)]) (n := 5) (by kernel_rfl) (by kernel_rfl) (by kernel_rfl) ⟨by simp only [List.length_append, List.length_cons, List.length_nil, show ∀ l : List UInt8, (ByteArray.mk l.toArray).size = l.length from fun _ => rfl]; omega, trivial⟩ ?_
   refine AC (dst := some 139) 4 11 .a (RInt_spec c.units[i].vars[m].fr y4 y5) (GI []) [5] ?_
   rintro r _ ⟨rfl, rfl⟩
   refine wpa_take true [(12, [])] ([(140, .string (mkS (b9 ++ encT c.units[i].vars[m].name ++ encI c.units[i].vars[m].slot ++ encI c.units[i].vars[m].fr))), (142, .int .i64 c.units[i].vars[m].to), (8, .int .i64 (↑m : Int)), (6, .pointer (some ⟨g2, 0, none⟩)), (5, .int .i64 (↑i : Int)), (3, .string (mkS b9)), (2, .string ⟨#[]⟩), (1, .pointer (some ⟨g1, 0, none⟩))]) (#[true, true, true, true, true, true, true, true, true, true, true, true, true, true, true, false, false, false]) ([(b9 ++ encT c.units[i].vars[m].name ++ encI c.units[i].vars[m].slot).length + (encI c.units[i].vars[m].fr).length ≤ (9223372036854775807 : Nat)]) (n := 3) (by kernel_rfl) (by kernel_rfl) (by kernel_rfl) ⟨by simp only [List.length_append, List.length_cons, List.length_nil, show ∀ l : List UInt8, (ByteArray.mk l.toArray).size = l.length from fun _ => rfl]; omega, trivial⟩ ?_
   refine AC (dst := some 143) 2 15 .a (RInt_spec c.units[i].vars[m].to y6 y7) (GI []) [5] ?_
   rintro r _ ⟨rfl, rfl⟩
   refine wpa_take true [(16, []), (17, [])] ([(3, .string (mkS (b9 ++ encT c.units[i].vars[m].name ++ encI c.units[i].vars[m].slot ++ encI c.units[i].vars[m].fr ++ encI c.units[i].vars[m].to))), (8, .int .i64 (↑m : Int)), (6, .pointer (some ⟨g2, 0, none⟩)), (5, .int .i64 (↑i : Int)), (2, .string ⟨#[]⟩), (1, .pointer (some ⟨g1, 0, none⟩))]) (#[true, true, true, true, true, true, true, true, true, true, true, true, true, true, true, true, true, true]) ([(b9 ++ encT c.units[i].vars[m].name ++ encI c.units[i].vars[m].slot ++ encI c.units[i].vars[m].fr).length + (encI c.units[i].vars[m].to).length ≤ (9223372036854775807 : Nat)]) (n := 0) (by kernel_rfl) (by kernel_rfl) (by kernel_rfl) ⟨by simp only [List.length_append, List.length_cons, List.length_nil, show ∀ l : List UInt8, (ByteArray.mk l.toArray).size = l.length from fun _ => rfl]; omega, trivial⟩ ?_
   refine wpa_done 0 (by kernel_rfl) ?_
   refine BN (NT (RG ?_))
   refine RV true [] .z (.i 8 (.int .i64 ((↑m : Int) + 1)) (.k (.d (.k .a)))) .a ([inI64 ((↑m : Int) + (1 : Int))]) ⟨by unfold inI64; omega, trivial⟩ ?_
   refine RZ ?_
   rw [← hia, show b9 ++ encT c.units[i].vars[m].name ++ encI c.units[i].vars[m].slot ++ encI c.units[i].vars[m].fr ++ encI c.units[i].vars[m].to = b8 ++ (c.units[i].vars.take (m + 1)).flatMap encVr from by rw [hb9, flat_take_succ encVr hmt]; unfold encVr; simp]
   exact fun a' w' hS' => ⟨⟨m + 1, hmt⟩, by dsimp only; omega, ent_fr (by kernel_rfl) _ _ (ent_hp [0, 0, 0, 0, 0] rfl _ _ hS')⟩
  obtain rfl : m = c.units[i].vars.length := by omega
  rw [List.take_length]
  refine SQ (SQ (RG ?_))
  refine RR [4] .z (.i 120 (.bool (decide ((↑c.units[i].vars.length : Int) < (↑c.units[i].vars.length : Int)))) .a) .a ?_
  refine RZ (NT ?_)
  refine SC 120 (decide ((↑c.units[i].vars.length : Int) < (↑c.units[i].vars.length : Int))) false (by simp) ?_
  refine CF (EX (TE (TE (BH (BN (NT (RG ?_)))))))
  refine RV true [] .z (.i 5 (.int .i64 ((↑i : Int) + 1)) (.d (.d (.d (.d (.d (.k .a))))))) .a ([inI64 ((↑i : Int) + (1 : Int))]) ⟨by unfold inI64; omega, trivial⟩ ?_
  refine RZ ?_
  rw [← hua, show b8 ++ c.units[i].vars.flatMap encVr = b3 ++ ((c.units.map UnV.p).take (i + 1)).flatMap encU from by rw [hb8, hb7, hb6, hb4, mp_take_succ UnV.p encU hlt]; unfold encU encR UnV.p; simp]
  exact fun a' w' hS' => ⟨⟨i + 1, hlt⟩, by dsimp only; omega, ent_fr (by kernel_rfl) _ _ (ent_hp [0, 0, 1] rfl _ _ hS')⟩
 ·obtain rfl : i = c.units.length := by omega
  rw [show (c.units.map UnV.p).take c.units.length = c.units.map UnV.p from List.take_of_length_le (by rw [List.length_map]; exact Nat.le_refl _)]
  obtain ⟨b4, hb4⟩ : ∃ b, b = b3 ++ (c.units.map UnV.p).flatMap encU := ⟨_, rfl⟩
  have hbl4 : b4.length = b3.length + ((c.units.map UnV.p).flatMap encU).length := by rw [hb4, List.length_append]
  rw [← hb4]
  refine SQ (SQ (RG ?_))
  refine RR [2] .z (.i 52 (.bool (decide ((↑c.units.length : Int) < (↑c.units.length : Int)))) .a) .a ?_
  refine RZ (NT ?_)
  refine SC 52 (decide ((↑c.units.length : Int) < (↑c.units.length : Int))) false (by simp) ?_
  refine CF (EX (TE (TE (BH (NT (SQ (RG ?_)))))))
  refine RR [2] (.d (.d (.d .a))) (.i 147 (.int .i64 c.main) (.i 145 (.string (mkS b4)) (.d (.d (.d (.d (.k .z))))))) .a ?_
  refine RC (dst := some 148) [] .a (RInt_spec c.main hm0 hm1) ?_
  rintro r _ ⟨rfl, rfl⟩
  refine RV true [] .z (.i 2 (.string (mkS (b4 ++ encI c.main))) .z) .a ([b4.length + (encI c.main).length ≤ (9223372036854775807 : Nat)]) ⟨by omega, trivial⟩ ?_
  refine RZ (NT (RE ?_))
  refine NE [] .z .a [] (.string (mkS (b4 ++ encI c.main))) ?_
  exact ⟨by rw [show b4 ++ encI c.main = encCo c.p from by rw [hb4, hb3, hb2, hb1]; unfold encCo encR CoV.p; simp], rfl⟩
theorem rSame_spec (c d : CoV) (hc : c.ok) (hd : d.ok) (hB : (encCo c.p).length ≤ 549755813888) (hD : (encCo d.p).length ≤ 549755813888) :
  Does Tryz.prog 28 [.agg (coC c).toArray, .agg (coC d).toArray] (coHp c ++ coHp d) (fun v hp' => v = .bool (decide (encCo c.p = encCo d.p)) ∧ hp' = []) := by
 have h1 := rput_spec c hc hB
 have h2 := rput_spec d hd hD
 rw [show coC c = [.slice c.sa c.strs.length c.sc, .slice c.ha c.shapes.length c.hc, .slice c.ua c.units.length c.uc, .int .i64 c.main] from rfl] at h1 ⊢
 rw [show coC d = [.slice d.sa d.strs.length d.sc, .slice d.ha d.shapes.length d.hc, .slice d.ua d.units.length d.uc, .int .i64 d.main] from rfl] at h2 ⊢
 unfold coHp at h1 h2 ⊢
 refine fn_enter Tryz.func28 rfl 10 rfl fun w0 h0 => ?_
 refine SQ (RG ?_)
 refine RP [] (.d .a) 2 (.d (.k .a)) .a 26 [.slice c.sa c.strs.length c.sc, .slice c.ha c.shapes.length c.hc, .slice c.ua c.units.length c.uc, .int .i64 c.main] fun g1 => ?_
 refine RP [] (.d .a) 3 (.k .z) .a 26 [.slice d.sa d.strs.length d.sc, .slice d.ha d.shapes.length d.hc, .slice d.ua d.units.length d.uc, .int .i64 d.main] fun g2 => ?_
 refine RR [] .z (.i 4 (.bool false) .a) .a ?_
 refine RZ (NT (SQ ?_))
 refine wpc_draw (by kernel_rfl) [.blk g1 26 [.slice c.sa c.strs.length c.sc, .slice c.ha c.shapes.length c.hc, .slice c.ua c.units.length c.uc, .int .i64 c.main], .blk g2 26 [.slice d.sa d.strs.length d.sc, .slice d.ha d.shapes.length d.hc, .slice d.ua d.units.length d.uc, .int .i64 d.main]] (sub_of [10, 11] (by kernel_rfl)) 6 (by kernel_rfl) ?_
 refine TK 4 [(0, [0, 0, 0, 0]), (2, [1, 1, 1, 1])] (.i 7 (.agg #[.slice d.sa d.strs.length d.sc, .slice d.ha d.shapes.length d.hc, .slice d.ua d.units.length d.uc, .int .i64 d.main]) (.i 5 (.agg #[.slice c.sa c.strs.length c.sc, .slice c.ha c.shapes.length c.hc, .slice c.ua c.units.length c.uc, .int .i64 c.main]) (.k .z))) (#[true, false, true, false, false, false]) ?_
 refine AC (dst := some 6) 3 1 .a (h1) (GV (GV (GV (GV (GV (GI []) 4 view_self) 3 view_ro) 2 view_self) 1 view_ro) 0 view_ro) [10, 11] ?_
 rintro v _ ⟨rfl, rfl⟩
 refine AC (dst := some 8) 2 3 .a (h2) (GV (GV (GV (GV (GV (GI []) 9 view_self) 8 view_ro) 7 view_self) 6 view_ro) 5 view_ro) [10, 11] ?_
 rintro v _ ⟨rfl, rfl⟩
 refine TK 0 [(4, []), (5, [])] (.i 4 (.bool (decide (encCo c.p = encCo d.p))) .z) (#[true, true, true, true, true, true]) ?_
 refine wpa_done 0 (by kernel_rfl) ?_
 refine NT (RE ?_)
 refine NE [] .z .a [] (.bool (decide (encCo c.p = encCo d.p))) ?_
 exact ⟨rfl, rfl⟩
end Go.Proofs.YtgcfomhlgipllaaGreatDoor
namespace Go.Proofs.YtgcfomhlgipllaaGreatDoor
open Go Go.Sx
theorem Does.ent {P : Program} {f : FuncId} {args : List Value} {pre pre' : Hp} {R R2 : Value → Hp → Prop} (h : Does P f args pre R) (e : ∀ Γ : Cx, Ent Γ ⟨[], pre'⟩ ⟨[], pre⟩)
  (k : ∀ v hp', R v hp' → ∃ hp2, R2 v hp2 ∧ (∀ Γ : Cx, Ent Γ ⟨[], hp'⟩ ⟨[], hp2⟩) ∧ ∀ c ∈ hp2, c.rw) : Does P f args pre' R2 := fun w hw => by
 have hS : Sat ⟨P, w, foot pre', 0, []⟩ ⟨[], pre'⟩ ⟨#[], []⟩ w := ⟨rfl, rfl, fun i v hi => (by cases hi), hw, Ext.refl _ _, Bd.self _ _⟩
 have h2 := e _ _ _ hS
 refine (h w h2.hs).mono ?_
 rintro e' w' ⟨v, hp', hR, rfl, h3, h4, h5, h6⟩
 obtain ⟨hp2, hR2, he2, hrw⟩ := k v hp' hR
 have hS' : Sat ⟨P, w, foot pre, 0, []⟩ ⟨[], hp'⟩ ⟨#[], []⟩ w' := ⟨rfl, rfl, fun i v hi => (by cases hi), h3, h4, h5⟩
 have h7 := he2 _ _ _ hS'
 have hsub : ∀ k, foot pre k → foot pre' k ∨ w.heap.size ≤ k := fun k ⟨c, hc, hcr, hk⟩ => h2.bd c hc hcr k hk
 refine ⟨v, hp2, hR2, rfl, h7.hs, ⟨h7.ext.os, h7.ext.tape, h7.ext.output, h7.ext.size, fun k hk hF => h7.ext.block k hk fun hF' => ?_⟩, fun c hc hcr k hk => ?_, hrw⟩
 ·rcases hsub k hF' with h8 | h8
  ·exact hF h8
  ·omega
 ·rcases h7.bd c hc hcr k hk with h8 | h8
  ·exact hsub k h8
  ·exact .inr h8
theorem ent_roz {Γ : Cx} {fr : Fr} {rest : Hp} : Ent Γ ⟨fr, rest⟩ ⟨fr, ro none ([] : List Value) :: rest⟩ := ent_ro (hp := []) (c' := ro none ([] : List Value)) (fun w h => ⟨fun u hu => (by cases hu), rfl⟩) (fun w h k hk => absurd rfl hk.2) (fun h => h)
theorem insL_one (I : List InP) : Sx.One (I.flatMap insC) := by
 intro v hv
 obtain ⟨x, _, hx⟩ := List.mem_flatMap.1 hv
 exact ins1 x v hx
theorem exEnt {Γ : Cx} {fr : Fr} {rest : Hp} (gi gu : Nat) (I : List InP) : Ent Γ ⟨fr, .blk gi 62 (I.flatMap insC) :: .blk gu 59 (unC (exU gi I)) :: rest⟩ ⟨fr, coHp (exCo gi gu I) ++ rest⟩ := by
 have e1 : Ent Γ ⟨fr, .blk gi 62 (I.flatMap insC) :: .blk gu 59 (unC (exU gi I)) :: rest⟩ ⟨fr, ro (some ⟨gi, 0, none⟩) (I.flatMap insC) :: .blk gu 59 (unC (exU gi I)) :: rest⟩ := ent_turn 0 _ rfl (turn_rblk (insL_one I)) rfl
 have e2 : Ent Γ ⟨fr, ro (some ⟨gi, 0, none⟩) (I.flatMap insC) :: .blk gu 59 (unC (exU gi I)) :: rest⟩ ⟨fr, ro (some ⟨gi, 0, none⟩) (I.flatMap insC) :: ro (some ⟨gu, 0, none⟩) (unC (exU gi I)) :: rest⟩ := ent_turn 1 _ rfl (turn_rblk (un1 _)) rfl
 have e3 : Ent Γ ⟨fr, ro (some ⟨gi, 0, none⟩) (I.flatMap insC) :: ro (some ⟨gu, 0, none⟩) (unC (exU gi I)) :: rest⟩ ⟨fr, ro none ([] : List Value) :: ro (some ⟨gi, 0, none⟩) (I.flatMap insC) :: ro (some ⟨gu, 0, none⟩) (unC (exU gi I)) :: rest⟩ := ent_roz
 have e4 : Ent Γ ⟨fr, ro none ([] : List Value) :: ro (some ⟨gi, 0, none⟩) (I.flatMap insC) :: ro (some ⟨gu, 0, none⟩) (unC (exU gi I)) :: rest⟩ ⟨fr, ro (some ⟨gi, 0, none⟩) (I.flatMap insC) :: ro none ([] : List Value) :: ro (some ⟨gu, 0, none⟩) (unC (exU gi I)) :: rest⟩ := ent_perm (List.Perm.swap _ _ _)
 have e5 : Ent Γ ⟨fr, ro (some ⟨gi, 0, none⟩) (I.flatMap insC) :: ro none ([] : List Value) :: ro (some ⟨gu, 0, none⟩) (unC (exU gi I)) :: rest⟩ ⟨fr, gUn [exU gi I] :: ro (some ⟨gu, 0, none⟩) (unC (exU gi I)) :: rest⟩ := ent_bag (hp := [ro (some ⟨gi, 0, none⟩) (I.flatMap insC), ro none ([] : List Value)])
 have e6 : Ent Γ ⟨fr, gUn [exU gi I] :: ro (some ⟨gu, 0, none⟩) (unC (exU gi I)) :: rest⟩ ⟨fr, ro (some ⟨gu, 0, none⟩) (unC (exU gi I)) :: gUn [exU gi I] :: rest⟩ := ent_perm (List.Perm.swap _ _ _)
 exact e1.trans (e2.trans (e3.trans (e4.trans (e5.trans (e6.trans (Ent.trans ent_bag_nil (Ent.trans ent_roz ent_roz)))))))
theorem example_spec : Does Tryz.prog 38 [] [] (fun v hp' => ∃ gi gu, v = .agg #[.slice none 0 0, .slice none 0 0, .slice (some ⟨gu, 0, none⟩) 1 1, .int .i64 0] ∧ hp' = [.blk gi 62 [.int .i64 0, .int .i64 1, .int .i64 1, .int .i64 2, .int .i64 34, .int .i64 1, .int .i64 23, .int .i64 0], .blk gu 59 [.string ⟨#[109, 97, 105, 110]⟩, .int .i64 0, .int .i64 0, .int .i64 1, .bool false, .slice (some ⟨gi, 0, none⟩) 4 4, .slice none 0 0]]) := by
 refine fn_enter Tryz.func38 rfl 9 rfl fun w0 h0 => ?_
 refine SQ (RG ?_)
 refine RP [] .z 0 .a .a 26 [.slice none 0 0, .slice none 0 0, .slice none 0 0, .int .i64 0] fun g1 => ?_
 refine RZ (NT (SQ (RG ?_)))
 refine RN [] (.d (.d (.d (.d (.d .a))))) 5 (fun g2 => (.slice (some ⟨g2, 0, none⟩) 4 4)) .a .a 62 [.int .i64 0, .int .i64 1, .int .i64 1, .int .i64 2, .int .i64 34, .int .i64 1, .int .i64 23, .int .i64 0] fun g2 => ?_
 refine RN [] (.d (.d .a)) 7 (fun g3 => (.slice (some ⟨g3, 0, none⟩) 1 1)) (.d (.k .a)) .a 59 [.string (ByteArray.mk #[109, 97, 105, 110]), .int .i64 0, .int .i64 0, .int .i64 1, .bool false, .slice (some ⟨g2, 0, none⟩) 4 4, .slice none 0 0] fun g3 => ?_
 refine RR [0, 0, 0, 0] .z (.d (.k .a)) (.u (.k (.k (.i (.slice (some ⟨g3, 0, none⟩) 1 1) (.d (.k .a))))) .a) ?_
 refine RZ (NT (RE ?_))
 refine NE [1, 1] (.d (.k .a)) (.k .z) [0, 0, 0, 0] (.agg #[.slice none 0 0, .slice none 0 0, .slice (some ⟨g3, 0, none⟩) 1 1, .int .i64 0]) ?_
 exact ⟨g2, g3, rfl, rfl⟩
theorem exHeights (gi gu : Nat) : Does Tryz.prog 16 [.agg #[.slice none 0 0, .slice none 0 0, .slice (some ⟨gu, 0, none⟩) 1 1, .int .i64 0], .int .i64 0] [.blk gi 62 [.int .i64 0, .int .i64 1, .int .i64 1, .int .i64 2, .int .i64 34, .int .i64 1, .int .i64 23, .int .i64 0], .blk gu 59 [.string ⟨#[109, 97, 105, 110]⟩, .int .i64 0, .int .i64 0, .int .i64 1, .bool false, .slice (some ⟨gi, 0, none⟩) 4 4, .slice none 0 0], gWords]
  (fun v hp' => ∃ a' c', v = .tuple #[.slice a' 4 c', .int .i64 0] ∧ hp' = [row 3 1 a' 4 c' (ints [0, 0, 1, 0])]) :=
 Does.ent (cHeights_spec (exCo gi gu exI) (exCo_ok gi gu exI rfl exI_ok) 0) (fun Γ => exEnt gi gu exI) (fun v hp' h => by
  rw [exCo_p, if_neg (by rw [ex_right]; decide), if_neg (by rw [show uptoB 0 ((exCo gi gu exI).units.length : Int) = true from rfl]; decide)] at h
  obtain ⟨k, hk, hk0, a', c', rfl, rfl⟩ := h
  have hk : k < 1 := hk
  obtain rfl : k = 0 := by omega
  have e : ∀ x : UnV, x = exU gi exI → htsL (gr (exP exI) x.p) = [0, 0, 1, 0] := fun x hx => by rw [hx]; exact ex_hts
  have e2 := e ((exCo gi gu exI).units[0]'hk) rfl
  refine ⟨_, ⟨a', c', ?_, rfl⟩, fun Γ a w h => ?_, fun c hc => by rw [List.mem_singleton.1 hc]; trivial⟩
  ·exact congrArg (fun l : List Int => Value.tuple #[Value.slice a' l.length c', Value.int IntKind.i64 0]) e2
  ·exact (congrArg (fun l : List Int => [row 3 1 a' l.length c' (ints l)]) e2) ▸ h)
theorem exList (gi gu : Nat) : Does Tryz.prog 23 [.agg #[.slice none 0 0, .slice none 0 0, .slice (some ⟨gu, 0, none⟩) 1 1, .int .i64 0]] [.blk gi 62 [.int .i64 0, .int .i64 1, .int .i64 1, .int .i64 2, .int .i64 34, .int .i64 1, .int .i64 23, .int .i64 0], .blk gu 59 [.string ⟨#[109, 97, 105, 110]⟩, .int .i64 0, .int .i64 0, .int .i64 1, .bool false, .slice (some ⟨gi, 0, none⟩) 4 4, .slice none 0 0], gWords, gPow, gNames]
  (fun v hp' => ∃ a' c', v = .tuple #[.slice a' 5 c', .int .i64 0] ∧ hp' = [row 9 1 a' 5 c' (strsC exL)]) :=
 Does.ent (cList_spec (exCo gi gu exI) (exCo_ok gi gu exI rfl exI_ok)) (fun Γ => exEnt gi gu exI) (fun v hp' h => by
  rw [exCo_p, if_pos ex_right, ex_list] at h
  obtain ⟨a', c', rfl, rfl⟩ := h
  exact ⟨_, ⟨a', c', rfl, rfl⟩, fun Γ a w h => h, fun c hc => by rw [List.mem_singleton.1 hc]; trivial⟩)
theorem ex_n : nCo (exP exI) := exCo_p 0 0 exI ▸ right_n (exCo_ok 0 0 exI rfl exI_ok) (by rw [exCo_p]; exact ex_right)
theorem exBytes (gi gu : Nat) : Does Tryz.prog 21 [.agg #[.slice none 0 0, .slice none 0 0, .slice (some ⟨gu, 0, none⟩) 1 1, .int .i64 0]] [.blk gi 62 [.int .i64 0, .int .i64 1, .int .i64 1, .int .i64 2, .int .i64 34, .int .i64 1, .int .i64 23, .int .i64 0], .blk gu 59 [.string ⟨#[109, 97, 105, 110]⟩, .int .i64 0, .int .i64 0, .int .i64 1, .bool false, .slice (some ⟨gi, 0, none⟩) 4 4, .slice none 0 0], gWords]
  (fun v hp' => ∃ a' c', v = .tuple #[.slice a' (encCo (exP exI)).length c', .int .i64 0] ∧ hp' = [row 5 1 a' (encCo (exP exI)).length c' (u8s (encCo (exP exI)))]) :=
 Does.ent (cBytes_spec (exCo gi gu exI) (exCo_ok gi gu exI rfl exI_ok)) (fun Γ => exEnt gi gu exI) (fun v hp' h => by
  rw [exCo_p, if_pos ex_right] at h
  obtain ⟨a', c', rfl, rfl⟩ := h
  exact ⟨_, ⟨a', c', rfl, rfl⟩, fun Γ a w h => h, fun c hc => by rw [List.mem_singleton.1 hc]; trivial⟩)
theorem exCheck (gi gu : Nat) : Does Tryz.prog 18 [.agg #[.slice none 0 0, .slice none 0 0, .slice (some ⟨gu, 0, none⟩) 1 1, .int .i64 0]] [.blk gi 62 [.int .i64 0, .int .i64 1, .int .i64 1, .int .i64 2, .int .i64 34, .int .i64 1, .int .i64 23, .int .i64 0], .blk gu 59 [.string ⟨#[109, 97, 105, 110]⟩, .int .i64 0, .int .i64 0, .int .i64 1, .bool false, .slice (some ⟨gi, 0, none⟩) 4 4, .slice none 0 0], gWords] (fun v hp' => v = .int .i64 0 ∧ hp' = []) :=
 Does.ent (ccheck_spec (exCo gi gu exI) (exCo_ok gi gu exI rfl exI_ok)) (fun Γ => exEnt gi gu exI) (fun v hp' h => by
  rw [exCo_p, if_pos ex_right] at h
  obtain ⟨rfl, rfl⟩ := h
  exact ⟨_, ⟨rfl, rfl⟩, fun Γ a w h => h, fun c hc => by cases hc⟩)
theorem baCheck (gi gu : Nat) : Does Tryz.prog 18 [.agg #[.slice none 0 0, .slice none 0 0, .slice (some ⟨gu, 0, none⟩) 1 1, .int .i64 0]] [.blk gi 62 [.int .i64 0, .int .i64 1, .int .i64 1, .int .i64 2, .int .i64 6, .int .i64 1, .int .i64 23, .int .i64 0], .blk gu 59 [.string ⟨#[109, 97, 105, 110]⟩, .int .i64 0, .int .i64 0, .int .i64 1, .bool false, .slice (some ⟨gi, 0, none⟩) 4 4, .slice none 0 0], gWords] (fun v hp' => v = .int .i64 2 ∧ hp' = []) :=
 Does.ent (ccheck_spec (exCo gi gu baI) (exCo_ok gi gu baI rfl baI_ok)) (fun Γ => exEnt gi gu baI) (fun v hp' h => by
  rw [exCo_p, if_neg (by rw [ba_right]; decide)] at h
  obtain ⟨rfl, rfl⟩ := h
  exact ⟨_, ⟨rfl, rfl⟩, fun Γ a w h => h, fun c hc => by cases hc⟩)
theorem ex_encl : (encCo (exP exI)).length ≤ 549755813888 := by
 have := encCo_l ex_n (right_head ex_right)
 omega
theorem exSame (s : CoV) (hs : s.ok) (he : s.p = exP exI) (gi gu : Nat) : Does Tryz.prog 28 [.agg #[.slice s.sa s.strs.length s.sc, .slice s.ha s.shapes.length s.hc, .slice s.ua s.units.length s.uc, .int .i64 s.main], .agg #[.slice none 0 0, .slice none 0 0, .slice (some ⟨gu, 0, none⟩) 1 1, .int .i64 0]]
  [ro s.sa (strsC s.strs), ro s.ha (s.shapes.flatMap shC), gSh s.shapes, ro s.ua (s.units.flatMap unC), gUn s.units, .blk gi 62 [.int .i64 0, .int .i64 1, .int .i64 1, .int .i64 2, .int .i64 34, .int .i64 1, .int .i64 23, .int .i64 0], .blk gu 59 [.string ⟨#[109, 97, 105, 110]⟩, .int .i64 0, .int .i64 0, .int .i64 1, .bool false, .slice (some ⟨gi, 0, none⟩) 4 4, .slice none 0 0]] (fun v hp' => v = .bool true ∧ hp' = []) :=
 Does.ent (rSame_spec s (exCo gi gu exI) hs (exCo_ok gi gu exI rfl exI_ok) (by rw [he]; exact ex_encl) (by rw [exCo_p]; exact ex_encl)) (fun Γ => by
  have p1 : Ent Γ ⟨[], coHp s ++ [.blk gi 62 [.int .i64 0, .int .i64 1, .int .i64 1, .int .i64 2, .int .i64 34, .int .i64 1, .int .i64 23, .int .i64 0], .blk gu 59 [.string ⟨#[109, 97, 105, 110]⟩, .int .i64 0, .int .i64 0, .int .i64 1, .bool false, .slice (some ⟨gi, 0, none⟩) 4 4, .slice none 0 0]]⟩ ⟨[], [.blk gi 62 [.int .i64 0, .int .i64 1, .int .i64 1, .int .i64 2, .int .i64 34, .int .i64 1, .int .i64 23, .int .i64 0], .blk gu 59 [.string ⟨#[109, 97, 105, 110]⟩, .int .i64 0, .int .i64 0, .int .i64 1, .bool false, .slice (some ⟨gi, 0, none⟩) 4 4, .slice none 0 0]] ++ coHp s⟩ := ent_perm List.perm_append_comm
  have p2 : Ent Γ ⟨[], [.blk gi 62 [.int .i64 0, .int .i64 1, .int .i64 1, .int .i64 2, .int .i64 34, .int .i64 1, .int .i64 23, .int .i64 0], .blk gu 59 [.string ⟨#[109, 97, 105, 110]⟩, .int .i64 0, .int .i64 0, .int .i64 1, .bool false, .slice (some ⟨gi, 0, none⟩) 4 4, .slice none 0 0]] ++ coHp s⟩ ⟨[], coHp (exCo gi gu exI) ++ coHp s⟩ := exEnt gi gu exI
  have p3 : Ent Γ ⟨[], coHp (exCo gi gu exI) ++ coHp s⟩ ⟨[], coHp s ++ coHp (exCo gi gu exI)⟩ := ent_perm List.perm_append_comm
  exact p1.trans (p2.trans p3)) (fun v hp' h => by
  obtain ⟨rfl, rfl⟩ := h
  exact ⟨_, ⟨by rw [he, exCo_p, decide_eq_true rfl], rfl⟩, fun Γ a w h => h, fun c hc => by cases hc⟩)
set_option maxHeartbeats 8000000 in
theorem lives7_spec : Does Tryz.prog 15 [] [gWords, gPow, gNames] (fun v hp' => v = .bool true ∧ hp' = []) := by
 refine fn_enter Tryz.func15 rfl 90 rfl fun w0 h0 => ?_
 refine SQ (RG ?_)
 refine RR [] .z (.i 0 (.bool false) .a) .a ?_
 refine RZ (NT (SQ (RG ?_)))
 refine RC (dst := some 11) [] .a (example_spec) ?_
 rintro v _ ⟨i1, u1, rfl, rfl⟩
 refine RCG (dst := some 12) (.d (.d (.k .a))) (exHeights i1 u1) (GO (GV (GJ [0, 0]) 0 view_ro) [1, 1, 0]) ?_
 rintro v _ ⟨a1, c1, rfl, rfl⟩
 refine RR [] .z (.i 2 (.int .i64 0) (.i 1 (.slice a1 4 c1) (.d (.d (.k .a))))) .a ?_
 refine RZ (NT (SQ (RG ?_)))
 refine RC (dst := some 16) [] .a (example_spec) ?_
 rintro v _ ⟨i2, u2, rfl, rfl⟩
 refine RCG (dst := some 17) (.d (.d (.k .a))) (exList i2 u2) (GO (GV (GV (GV (GJ [0, 0]) 3 view_ro) 2 view_gPow) 1 view_ro) [3, 3, 0, 0, 0]) ?_
 rintro v _ ⟨a2, c2, rfl, rfl⟩
 refine RR [] .z (.i 4 (.int .i64 0) (.i 3 (.slice a2 5 c2) (.d (.d (.k .a))))) .a ?_
 refine RZ (NT (SQ (RG ?_)))
 refine RC (dst := some 21) [] .a (example_spec) ?_
 rintro v _ ⟨i3, u3, rfl, rfl⟩
 refine RCG (dst := some 22) (.d (.d (.k .a))) (exBytes i3 u3) (GO (GV (GJ [0, 0]) 2 view_ro) [1, 1, 0]) ?_
 rintro v _ ⟨a3, c3, rfl, rfl⟩
 refine wpr_fact (fun w h => row_addr h 0 rfl (code_pos _ ex_n)) ?_
 rintro ⟨gb, ob, rfl⟩
 have hL := cLoad_spec (some ⟨gb, ob, none⟩) c3 (encCo (exP exI)) (fun h => nomatch h) (by have := encCo_l ex_n (right_head ex_right); omega)
 obtain ⟨hl1, hl2⟩ := code_back ex_n ex_right
 rw [hl1, hl2] at hL
 refine RR [] .z (.i 6 (.int .i64 0) (.i 5 (.slice (some ⟨gb, ob, none⟩) 23 c3) (.d (.d (.k .a))))) (.i (row 5 1 (some ⟨gb, ob, none⟩) 23 c3 (u8s (encCo (exP exI)))) (.d (.k .a))) ?_
 refine RZ (NT (SQ (RG ?_)))
 refine RR [] (.d .a) (.i 26 (.slice (some ⟨gb, ob, none⟩) 23 c3) (.k (.d (.k .a)))) .a ?_
 refine RCG (dst := some 27) .a (hL) (GV (GV (GI []) 3 view_ro) 0 view_row) ?_
 rintro v _ ⟨s, hs, hsok, rfl, rfl⟩
 rw [show coC s = [.slice s.sa s.strs.length s.sc, .slice s.ha s.shapes.length s.hc, .slice s.ua s.units.length s.uc, .int .i64 s.main] from rfl]
 unfold coH
 refine RP [] (.d (.d (.d (.d .a)))) 7 (.i 29 (.int .i64 0) (.i 28 (.agg #[.slice s.sa s.strs.length s.sc, .slice s.ha s.shapes.length s.hc, .slice s.ua s.units.length s.uc, .int .i64 s.main]) (.d (.d (.k .a))))) .a 26 [.slice none 0 0, .slice none 0 0, .slice none 0 0, .int .i64 0] fun g1 => ?_
 refine RR [11, 11, 11, 11] .z (.i 8 (.int .i64 0) (.k (.d (.d (.k .a))))) (.k (.k (.k (.k (.k (.k (.k (.k (.k (.k (.k (.u (.i (.slice s.sa s.strs.length s.sc) (.i (.slice s.ha s.shapes.length s.hc) (.i (.slice s.ua s.units.length s.uc) (.i (.int .i64 s.main) .z)))) .a)))))))))))) ?_
 refine RZ (NT (SQ (RG ?_)))
 refine RC (dst := some 30) [] .a (example_spec) ?_
 rintro v _ ⟨i4, u4, rfl, rfl⟩
 refine RP [] (.d .a) 9 .a .a 26 [.slice none 0 0, .slice none 0 0, .slice none 0 0, .int .i64 0] fun g2 => ?_
 refine RR [14, 14, 14, 14] .z (.k (.d (.k .a))) (.k (.k (.k (.k (.k (.k (.k (.k (.k (.k (.k (.k (.k (.k (.u (.k (.k (.i (.slice (some ⟨u4, 0, none⟩) 1 1) (.d (.k .a))))) .a))))))))))))))) ?_
 refine RZ (NT (SQ ?_))
 refine wpc_draw (by kernel_rfl) [.blk u4 59 [.string (ByteArray.mk #[109, 97, 105, 110]), .int .i64 0, .int .i64 0, .int .i64 1, .bool false, .slice (some ⟨i4, 0, none⟩) 4 4, .slice none 0 0], row 9 1 s.sa s.strs.length s.sc (strsC s.strs), row 111 2 s.ha s.shapes.length s.hc (List.flatMap shC s.shapes), star (List.flatMap shRows s.shapes), row 59 7 s.ua s.units.length s.uc (List.flatMap unC s.units), star (List.flatMap unRows s.units), row 5 1 (some ⟨gb, ob, none⟩) 23 c3 (u8s (encCo (exP exI))), row 9 1 a2 5 c2 (strsC exL), row 3 1 a1 4 c1 (ints [0, 0, 1, 0]), gWords, gPow, gNames, .blk g1 26 [.slice s.sa s.strs.length s.sc, .slice s.ha s.shapes.length s.hc, .slice s.ua s.units.length s.uc, .int .i64 s.main], .blk g2 26 [.slice none 0 0, .slice none 0 0, .slice (some ⟨u4, 0, none⟩) 1 1, .int .i64 0]] (sub_of [1, 2, 3, 4, 5, 6, 7, 8, 9, 10, 11, 12, 13, 14] (by kernel_rfl)) 16 (by kernel_rfl) ?_
 refine wpa_take true [(0, []), (1, [13]), (2, []), (3, []), (4, [0]), (5, []), (6, [13]), (7, []), (8, []), (9, [0]), (10, []), (11, [])] [(42, .pointer (some ⟨i4, 4, none⟩)), (40, .slice (some ⟨i4, 0, none⟩) 4 4), (9, .pointer (some ⟨g2, 0, none⟩)), (8, .int .i64 0), (7, .pointer (some ⟨g1, 0, none⟩)), (6, .int .i64 0), (4, .int .i64 0), (3, .slice a2 5 c2), (2, .int .i64 0), (1, .slice a1 4 c1), (0, .bool false)] (#[true, true, true, true, true, true, true, true, true, true, true, true, false, false, false, false]) [(0 : Int) ≤ (0 : Int) ∧ (0 : Int) < (↑(1 : Nat) : Int), (0 : Int) ≤ (0 : Int) ∧ (0 : Int) < (↑(1 : Nat) : Int), (0 : Int) ≤ (2 : Int) ∧ (2 : Int) < (↑(4 : Nat) : Int)] (n := 4) (by kernel_rfl) (by kernel_rfl) (by kernel_rfl) ⟨by omega, by omega, by omega, trivial⟩ ?_
 refine AO 3 12 [0] (.d (.k .a)) (.u (.k (.k (.k (.k (.i (.int .i64 6) (.d (.k .a))))))) .a) [1, 2, 3, 4, 5, 6, 7, 8, 9, 10, 11, 12, 13, 14] ?_
 refine wpa_take true [(13, []), (14, [])] [(44, .pointer (some ⟨i4, 5, none⟩)), (9, .pointer (some ⟨g2, 0, none⟩)), (8, .int .i64 0), (7, .pointer (some ⟨g1, 0, none⟩)), (6, .int .i64 0), (4, .int .i64 0), (3, .slice a2 5 c2), (2, .int .i64 0), (1, .slice a1 4 c1), (0, .bool false)] (#[true, true, true, true, true, true, true, true, true, true, true, true, true, true, true, false]) [(0 : Int) ≤ (2 : Int) ∧ (2 : Int) < (↑(4 : Nat) : Int)] (n := 1) (by kernel_rfl) (by kernel_rfl) (by kernel_rfl) ⟨by omega, trivial⟩ ?_
 refine AO 0 15 [0] (.d (.k .a)) .a [1, 2, 3, 4, 5, 6, 7, 8, 9, 10, 11, 12, 13, 14] ?_
 refine wpa_done 0 (by kernel_rfl) ?_
 refine NT (SQ ?_)
 refine wpc_draw (by kernel_rfl) [.blk g1 26 [.slice s.sa s.strs.length s.sc, .slice s.ha s.shapes.length s.hc, .slice s.ua s.units.length s.uc, .int .i64 s.main], .blk g2 26 [.slice none 0 0, .slice none 0 0, .slice (some ⟨u4, 0, none⟩) 1 1, .int .i64 0]] (sub_of [13, 14] (by kernel_rfl)) 46 (by kernel_rfl) ?_
 refine TK 45 [(0, [])] (.i 45 (.slice a1 4 c1) (.k (.k (.k (.k (.k (.k (.k (.d (.k .a)))))))))) (#[true, false, false, false, false, false, false, false, false, false, false, false, false, false, false, false, false, false, false, false, false, false, false, false, false, false, false, false, false, false, false, false, false, false, false, false, false, false, false, false, false, false, false, false, false, false]) ?_
 refine wpa_new (n := 44) true 1 [] (fun g3 => [(46, .slice (some ⟨g3, 0, none⟩) 4 4), (45, .slice a1 4 c1), (9, .pointer (some ⟨g2, 0, none⟩)), (8, .int .i64 0), (7, .pointer (some ⟨g1, 0, none⟩)), (6, .int .i64 0), (4, .int .i64 0), (3, .slice a2 5 c2), (2, .int .i64 0), (0, .bool false)]) (fun g3 => [.blk i4 62 [.int .i64 0, .int .i64 1, .int .i64 1, .int .i64 2, .int .i64 6, .int .i64 1, .int .i64 23, .int .i64 0], .blk u4 59 [.string (ByteArray.mk #[109, 97, 105, 110]), .int .i64 0, .int .i64 0, .int .i64 1, .bool false, .slice (some ⟨i4, 0, none⟩) 4 4, .slice none 0 0], row 9 1 s.sa s.strs.length s.sc (strsC s.strs), row 111 2 s.ha s.shapes.length s.hc (List.flatMap shC s.shapes), star (List.flatMap shRows s.shapes), row 59 7 s.ua s.units.length s.uc (List.flatMap unC s.units), star (List.flatMap unRows s.units), row 5 1 (some ⟨gb, ob, none⟩) 23 c3 (u8s (encCo (exP exI))), row 9 1 a2 5 c2 (strsC exL), row 3 1 a1 4 c1 (ints [0, 0, 1, 0]), gWords, gPow, gNames, .blk g1 26 [.slice s.sa s.strs.length s.sc, .slice s.ha s.shapes.length s.hc, .slice s.ua s.units.length s.uc, .int .i64 s.main], .blk g2 26 [.slice none 0 0, .slice none 0 0, .slice (some ⟨u4, 0, none⟩) 1 1, .int .i64 0], .blk g3 3 [.int .i64 0, .int .i64 0, .int .i64 1, .int .i64 0]]) (fun g3 => []) (by kernel_rfl) (fun g3 => by kernel_rfl) (fun g3 => by kernel_rfl) (fun g3 => trivial) (fun g3 => sub_of [13, 14] (by kernel_rfl)) fun g3 => ?_
 refine wpa_ent (ent_turn 15 (ro (some ⟨g3, 0, none⟩) (ints [0, 0, 1, 0])) rfl (turn_rints [0, 0, 1, 0] rfl) rfl) ?_
 refine AC (dst := some 47) 43 2 .a (sameNums_spec a1 c1 [0, 0, 1, 0] (some ⟨g3, 0, none⟩) 4 [0, 0, 1, 0] (by decide) (by decide)) (GV (GV (GI []) 15 view_ro) 9 view_row) [13, 14] ?_
 rintro v _ ⟨rfl, rfl⟩
 rw [decide_eq_true rfl]
 refine TK 37 [(3, []), (4, []), (5, []), (6, []), (7, []), (8, [])] (.i 53 (.slice a2 5 c2) (.i 52 (.bool true) (.d (.d (.d (.k (.k (.k (.k (.k (.d (.d (.k .a))))))))))))) (#[true, true, true, true, true, true, true, true, true, false, false, false, false, false, false, false, false, false, false, false, false, false, false, false, false, false, false, false, false, false, false, false, false, false, false, false, false, false, false, false, false, false, false, false, false, false]) ?_
 refine wpa_new (n := 36) true 9 [] (fun g4 => [(54, .slice (some ⟨g4, 0, none⟩) 5 5), (53, .slice a2 5 c2), (52, .bool true), (9, .pointer (some ⟨g2, 0, none⟩)), (8, .int .i64 0), (7, .pointer (some ⟨g1, 0, none⟩)), (6, .int .i64 0), (4, .int .i64 0), (0, .bool false)]) (fun g4 => [.blk i4 62 [.int .i64 0, .int .i64 1, .int .i64 1, .int .i64 2, .int .i64 6, .int .i64 1, .int .i64 23, .int .i64 0], .blk u4 59 [.string (ByteArray.mk #[109, 97, 105, 110]), .int .i64 0, .int .i64 0, .int .i64 1, .bool false, .slice (some ⟨i4, 0, none⟩) 4 4, .slice none 0 0], row 9 1 s.sa s.strs.length s.sc (strsC s.strs), row 111 2 s.ha s.shapes.length s.hc (List.flatMap shC s.shapes), star (List.flatMap shRows s.shapes), row 59 7 s.ua s.units.length s.uc (List.flatMap unC s.units), star (List.flatMap unRows s.units), row 5 1 (some ⟨gb, ob, none⟩) 23 c3 (u8s (encCo (exP exI))), row 9 1 a2 5 c2 (strsC exL), row 3 1 a1 4 c1 (ints [0, 0, 1, 0]), gWords, gPow, gNames, .blk g1 26 [.slice s.sa s.strs.length s.sc, .slice s.ha s.shapes.length s.hc, .slice s.ua s.units.length s.uc, .int .i64 s.main], .blk g2 26 [.slice none 0 0, .slice none 0 0, .slice (some ⟨u4, 0, none⟩) 1 1, .int .i64 0], ro (some ⟨g3, 0, none⟩) (ints [0, 0, 1, 0]), .blk g4 9 [.string (ByteArray.mk #[102, 110, 32, 109, 97, 105, 110]), .string (ByteArray.mk #[48, 32, 109, 97, 114, 107, 32, 49]), .string (ByteArray.mk #[49, 32, 105, 110, 116, 32, 50]), .string (ByteArray.mk #[50, 32, 112, 114, 105, 110, 116, 32, 49]), .string (ByteArray.mk #[51, 32, 114, 101, 116, 117, 114, 110, 32, 48])]]) (fun g4 => []) (by kernel_rfl) (fun g4 => by kernel_rfl) (fun g4 => by kernel_rfl) (fun g4 => trivial) (fun g4 => sub_of [13, 14] (by kernel_rfl)) fun g4 => ?_
 refine wpa_ent (ent_turn 16 (ro (some ⟨g4, 0, none⟩) (strsC exL)) rfl (turn_rblk (strs_one exL)) rfl) ?_
 refine AC (dst := some 55) 35 10 .a (sameTexts_spec a2 c2 exL (some ⟨g4, 0, none⟩) 5 exL (by decide) (by decide)) (GV (GV (GI []) 16 view_ro) 8 view_row) [13, 14] ?_
 rintro v _ ⟨rfl, rfl⟩
 rw [decide_eq_true rfl]
 refine TK 20 [(11, []), (12, []), (13, []), (14, []), (15, []), (16, []), (17, []), (18, []), (19, []), (20, []), (21, []), (22, []), (23, []), (24, []), (25, [0, 0, 0, 0])] (.i 70 (.agg #[.slice s.sa s.strs.length s.sc, .slice s.ha s.shapes.length s.hc, .slice s.ua s.units.length s.uc, .int .i64 s.main]) (.i 69 (.bool true) (.d (.d (.d (.d (.k (.d (.d (.d (.d (.k .a)))))))))))) (#[true, true, true, true, true, true, true, true, true, true, true, true, true, true, true, true, true, true, true, true, true, true, true, true, true, true, false, false, false, false, false, false, false, false, false, false, false, false, false, false, false, false, false, false, false, false]) ?_
 refine AC (dst := some 71) 19 26 .a (example_spec) (GI []) [13, 14] ?_
 rintro v _ ⟨i5, u5, rfl, rfl⟩
 refine AC (dst := some 72) 18 27 (.d (.d (.k .a))) (exSame s hsok hs i5 u5) (GV (GV (GV (GV (GV (GI [0, 0]) 6 view_gUn) 5 view_row) 4 view_gSh) 3 view_row) 2 view_row) [13, 14] ?_
 rintro v _ ⟨rfl, rfl⟩
 refine TK 15 [(28, []), (29, []), (30, [1, 1, 1, 1])] (.i 75 (.agg #[.slice none 0 0, .slice none 0 0, .slice (some ⟨u4, 0, none⟩) 1 1, .int .i64 0]) (.i 74 (.bool true) (.d (.d (.d (.d (.d (.k .a)))))))) (#[true, true, true, true, true, true, true, true, true, true, true, true, true, true, true, true, true, true, true, true, true, true, true, true, true, true, true, true, true, true, true, false, false, false, false, false, false, false, false, false, false, false, false, false, false, false]) ?_
 refine AC (dst := some 76) 14 31 (.d (.d (.k .a))) (baCheck i4 u4) (GO (GV (GJ [0, 0]) 8 view_ro) [1, 1, 0]) [11, 12] ?_
 rintro v _ ⟨rfl, rfl⟩
 refine TK 11 [(32, []), (33, []), (34, [])] (.i 79 (.bool true) (.d (.d (.d (.k .a))))) (#[true, true, true, true, true, true, true, true, true, true, true, true, true, true, true, true, true, true, true, true, true, true, true, true, true, true, true, true, true, true, true, true, true, true, true, false, false, false, false, false, false, false, false, false, false, false]) ?_
 refine AC (dst := some 80) 10 35 .a (example_spec) (GI []) [11, 12] ?_
 rintro v _ ⟨i6, u6, rfl, rfl⟩
 refine AC (dst := some 81) 9 36 (.d (.d (.k .a))) (exCheck i6 u6) (GO (GV (GJ [0, 0]) 8 view_ro) [1, 1, 0]) [11, 12] ?_
 rintro v _ ⟨rfl, rfl⟩
 refine TK 0 [(37, []), (38, []), (39, []), (40, []), (41, []), (42, []), (43, []), (44, []), (45, [])] (.i 0 (.bool true) .z) (#[true, true, true, true, true, true, true, true, true, true, true, true, true, true, true, true, true, true, true, true, true, true, true, true, true, true, true, true, true, true, true, true, true, true, true, true, true, true, true, true, true, true, true, true, true, true]) ?_
 refine wpa_done 0 (by kernel_rfl) ?_
 refine NT (RE ?_)
 refine NE [] .z .a [] (.bool true) ?_
 exact ⟨rfl, rfl⟩
end Go.Proofs.YtgcfomhlgipllaaGreatDoor
namespace Go.Proofs.YtgcfomhlgipllaaGreatDoor
open Go Go.Sx
theorem noC_len : (encCo noC).length = 4 := by decide +kernel
theorem ldC_len (bs : List UInt8) : (encCo (ldC bs)).length ≤ bs.length + 4 := by
 by_cases h : ldE bs = 0
 ·rw [(code_form h).1]; omega
 ·rw [ldC_bad h, noC_len]; omega
theorem sameLd (s t : CoV) (hs : s.ok) (ht : t.ok) (bs : List UInt8) (hl : bs.length ≤ 34359738368) (h1 : s.p = ldC bs) (h2 : t.p = ldC bs) :
  Does Tryz.prog 28 [.agg #[.slice s.sa s.strs.length s.sc, .slice s.ha s.shapes.length s.hc, .slice s.ua s.units.length s.uc, .int .i64 s.main], .agg #[.slice t.sa t.strs.length t.sc, .slice t.ha t.shapes.length t.hc, .slice t.ua t.units.length t.uc, .int .i64 t.main]]
  [ro s.sa (strsC s.strs), ro s.ha (s.shapes.flatMap shC), gSh s.shapes, ro s.ua (s.units.flatMap unC), gUn s.units, ro t.sa (strsC t.strs), ro t.ha (t.shapes.flatMap shC), gSh t.shapes, ro t.ua (t.units.flatMap unC), gUn t.units] (fun v hp' => v = .bool true ∧ hp' = []) := by
 have hb := ldC_len bs
 have h := rSame_spec s t hs ht (by rw [h1]; omega) (by rw [h2]; omega)
 rw [h1, h2, decide_eq_true rfl] at h
 exact h
set_option maxHeartbeats 8000000 in
theorem CodeReads_spec (a : Option Addr) (c : Nat) (bs : List UInt8) (ha : a = none → bs = []) (hl : bs.length ≤ 1099511627776) (hc : bs.length ≤ c) :
  Does Tryz.prog 5 [.slice a bs.length c] [ro a (u8s bs), gWords, gPow, gNames] (fun v hp' => v = .bool true ∧ hp' = []) := by
 by_cases hlen : bs.length > 20000
 ·refine fn_enter Tryz.func5 rfl 35 rfl fun w0 h0 => ?_
  refine SQ (RG ?_)
  refine RR [] .z (.i 2 (.bool false) .a) .a ?_
  refine RZ (NT (SQ (SQ (RG ?_))))
  refine RR [] .z (.i 9 (.bool (decide ((↑bs.length : Int) > (20000 : Int)))) .a) .a ?_
  refine RZ (NT ?_)
  refine SC 9 (decide ((↑bs.length : Int) > (20000 : Int))) true (decide_eq_true (by omega)) ?_
  refine CT (SQ (RG ?_))
  refine RCG (dst := some 10) .a (lives7_spec) (GV (GV (GV (GI []) 3 view_ro) 2 view_gPow) 1 view_ro) ?_
  rintro v _ ⟨rfl, rfl⟩
  refine RR [] .z (.i 2 (.bool true) (.d (.d (.d (.d (.k .a)))))) .a ?_
  refine RZ (NT (RE (TR ?_)))
  refine NE [] .z .a [] (.bool true) ?_
  exact ⟨rfl, rfl⟩
 ·have hS := rLoad_spec bs (by omega)
  refine fn_enter Tryz.func5 rfl 35 rfl fun w0 h0 => ?_
  refine SQ (RG ?_)
  refine RR [] .z (.i 2 (.bool false) .a) .a ?_
  refine RZ (NT (SQ (SQ (RG ?_))))
  refine RR [] .z (.i 9 (.bool (decide ((↑bs.length : Int) > (20000 : Int)))) .a) .a ?_
  refine RZ (NT ?_)
  refine SC 9 (decide ((↑bs.length : Int) > (20000 : Int))) false (decide_eq_false (by omega)) ?_
  refine CF (SK (NT (SQ (RG ?_))))
  refine RN [] (.d .a) 12 (fun g1 => (.slice (some ⟨g1, 0, none⟩) 0 0)) (.d (.d (.k .a))) .a 5 [] fun g1 => ?_
  refine RR [] (.d .a) (.i 13 (.slice a bs.length c) .a) .a ?_
  refine wpr_ent (ent_turn 4 (row 5 1 (some ⟨g1, 0, none⟩) 0 0 []) rfl (turn_blk rfl (by intro u hu; cases hu) (by simp)) rfl) ?_
  refine wpr_app (a := (some ⟨g1, 0, none⟩)) (n := 0) (cap := 0) (x := (.slice a bs.length c)) (t := 39) (xt := 39) (dst := some 14) (by kernel_rfl) (e := 5) (sz := 1) (bytes := 1) (by kernel_rfl) 4 (xs := []) (by kernel_rfl) (m := (bs.length)) (news := (u8s bs)) (fun w h => src_ro h 0 rfl (by simp [u8s_len]) (fun e => by rw [ha e]; rfl)) (by unfold maxLen; omega) (by omega) ?_
  intro a1 c1 hn
  simp only [List.nil_append, Nat.zero_add]
  have hL := cLoad_spec a1 c1 bs (fun e => by cases (hn.1 e).1) (by omega)
  refine RCG (dst := some 15) .a (hL) (GV (GV (GI []) 1 view_ro) 4 view_row) ?_
  rintro v _ ⟨s, hs1, hs2, rfl, rfl⟩
  rw [show coC s = [.slice s.sa s.strs.length s.sc, .slice s.ha s.shapes.length s.hc, .slice s.ua s.units.length s.uc, .int .i64 s.main] from rfl]
  rw [show coH s = [row 9 1 s.sa s.strs.length s.sc (strsC s.strs), row 111 2 s.ha s.shapes.length s.hc (s.shapes.flatMap shC), star (s.shapes.flatMap shRows), row 59 7 s.ua s.units.length s.uc (s.units.flatMap unC), star (s.units.flatMap unRows)] from rfl]
  refine RP [] (.d (.d (.d (.d .a)))) 3 (.i 17 (.int .i64 (ldE bs)) (.i 16 (.agg #[.slice s.sa s.strs.length s.sc, .slice s.ha s.shapes.length s.hc, .slice s.ua s.units.length s.uc, .int .i64 s.main]) (.d (.d (.d (.d (.k .a))))))) .a 26 [.slice none 0 0, .slice none 0 0, .slice none 0 0, .int .i64 0] fun g2 => ?_
  refine RR [10, 10, 10, 10] .z (.i 4 (.int .i64 (ldE bs)) (.k (.d (.d (.k .a))))) (.k (.k (.k (.k (.k (.k (.k (.k (.k (.k (.u (.i (.slice s.sa s.strs.length s.sc) (.i (.slice s.ha s.shapes.length s.hc) (.i (.slice s.ua s.units.length s.uc) (.i (.int .i64 s.main) .z)))) .a))))))))))) ?_
  refine RZ (NT (SQ (RG ?_)))
  refine RR [] (.d .a) (.i 19 (.slice a bs.length c) (.k (.k (.k .z)))) .a ?_
  refine wpr_eq (b2s (a := 39) (b := 9) (ad := a) (n := bs.length) (c := c) (dst := some 20) (by kernel_rfl) (by kernel_rfl) bs (by first | rfl | simp) (fun w h => b2s_ro h 5 rfl)) ?_
  refine RC (dst := some 21) [] .a (hS) ?_
  rintro v _ ⟨t, ht1, ht2, rfl, rfl⟩
  rw [show coC t = [.slice t.sa t.strs.length t.sc, .slice t.ha t.shapes.length t.hc, .slice t.ua t.units.length t.uc, .int .i64 t.main] from rfl]
  rw [show coH t = [row 9 1 t.sa t.strs.length t.sc (strsC t.strs), row 111 2 t.ha t.shapes.length t.hc (t.shapes.flatMap shC), star (t.shapes.flatMap shRows), row 59 7 t.ua t.units.length t.uc (t.units.flatMap unC), star (t.units.flatMap unRows)] from rfl]
  refine RP [] (.d (.d (.d (.d .a)))) 5 (.i 23 (.int .i64 (ldE bs)) (.i 22 (.agg #[.slice t.sa t.strs.length t.sc, .slice t.ha t.shapes.length t.hc, .slice t.ua t.units.length t.uc, .int .i64 t.main]) (.d (.d (.d (.k .a)))))) .a 26 [.slice none 0 0, .slice none 0 0, .slice none 0 0, .int .i64 0] fun g3 => ?_
  refine RR [16, 16, 16, 16] .z (.i 6 (.int .i64 (ldE bs)) (.k (.d (.d (.k .a))))) (.k (.k (.k (.k (.k (.k (.k (.k (.k (.k (.k (.k (.k (.k (.k (.k (.u (.i (.slice t.sa t.strs.length t.sc) (.i (.slice t.ha t.shapes.length t.hc) (.i (.slice t.ua t.units.length t.uc) (.i (.int .i64 t.main) .z)))) .a))))))))))))))))) ?_
  refine RZ (NT (SQ (RG ?_)))
  refine RR [15, 15, 15, 15, 16, 16, 16, 16] (.d (.d .a)) (.i 25 (.agg #[.slice t.sa t.strs.length t.sc, .slice t.ha t.shapes.length t.hc, .slice t.ua t.units.length t.uc, .int .i64 t.main]) (.i 24 (.agg #[.slice s.sa s.strs.length s.sc, .slice s.ha s.shapes.length s.hc, .slice s.ua s.units.length s.uc, .int .i64 s.main]) (.k (.d (.k (.d (.k .a))))))) .a ?_
  refine RCG (dst := some 26) .a (sameLd s t hs2 ht2 bs (by omega) hs1 ht1) (GV (GV (GV (GV (GV (GV (GV (GV (GV (GV (GI []) 4 view_gUn) 3 view_row) 2 view_gSh) 1 view_row) 0 view_row) 9 view_gUn) 8 view_row) 7 view_gSh) 6 view_row) 5 view_row) ?_
  rintro v _ ⟨rfl, rfl⟩
  refine RR [] (.d (.d (.d (.d (.d (.d .a)))))) (.i 32 (.bool (ldE bs == ldE bs)) (.d (.d (.d (.d (.d (.k .a))))))) .a ?_
  refine SR 32 (ldE bs == ldE bs) true (by simp) ?_
  refine RCG (dst := some 33) .a (lives7_spec) (GV (GV (GV (GI []) 13 view_ro) 12 view_gPow) 11 view_ro) ?_
  rintro v _ ⟨rfl, rfl⟩
  refine RR [] .z (.i 2 (.bool true) .z) .a ?_
  refine RZ (NT (RE ?_))
  refine NE [] .z .a [] (.bool true) ?_
  exact ⟨rfl, rfl⟩
end Go.Proofs.YtgcfomhlgipllaaGreatDoor
namespace Go.Proofs.YtgcfomhlgipllaaGreatDoor
open Go Go.Sx
/-! What the row's list lays: the words, the powers of ten, the ops' names. Codes that come in. -/
abbrev laidL : List (String × DataW Unit) := [("math/bits.deBruijn32tab", Rows.laid_math_bits_deBruijn32tab), ("math/bits.deBruijn64tab", Rows.laid_math_bits_deBruijn64tab), ("internal/strconv.uint64pow10", Rows.laid_internal_strconv_uint64pow10), ("hindcast/lex.words", Rows.laid_hindcast_lex_words), ("hindcast/lex.signs", Rows.laid_hindcast_lex_signs), ("hindcast/code.names", Rows.laid_hindcast_code_names)]
theorem pow_in {W : World} (h : laidMet Tryz.prog laidL W) : gPow.holds W := by
 have h2 := h.tail.tail
 exact Lib.tabIs_of_head (g := 3) (t := 289) (e := 178) (n := 20) (by kernel_rfl) (by kernel_rfl) (by kernel_rfl) (by kernel_rfl) (by kernel_rfl) (by kernel_rfl) h2
def strData {H : Type} (l : List (List UInt8)) : DataW H := .agg (l.map fun s => .lit (.string s))
theorem cells_of_strs {H : Type} {enc : TypeId × Value → H} {P : Program} {w : World} {base : Nat} {sp : Nat → Bool} {held : Bool} {fuel : Nat} {t e : TypeId} {n : Nat} {cs : List Value} {zs : List (List UInt8)} {p : List MemPlace}
  (ht : P.underlying t = some (.array n e)) (he : P.underlying e = some .string) (hce : P.cellsOf e = 1) (hct : P.cellsOf t = n)
  (h : DataW.trod enc P w base sp held fuel t cs = some (strData zs, p)) : cs = zs.map strV := by
 cases fuel with
 | zero => simp [DataW.trod] at h
 | succ fuel =>
  simp only [DataW.trod, ht, hce, hct, Nat.mul_one] at h
  split at h
  ·rename_i hl
   obtain ⟨xs, hm, hx⟩ := Option.map_eq_some_iff.1 h
   have hxs : xs.map (·.1) = zs.map fun z => (DataW.lit (.string z) : DataW H) := by
    have := congrArg Prod.fst hx
    simpa [strData] using this
   have hxl : xs.length = n := by simpa using Lib.mapM_length hm
   have hzl : zs.length = n := by
    have := congrArg List.length hxs
    simp at this
    omega
   apply List.ext_getElem?
   intro i
   by_cases hi : i < n
   ·obtain ⟨b, hb, hf⟩ := Lib.mapM_at hm i i (by simp [hi])
    obtain ⟨z, hc, rfl, _⟩ := DataW.trod_string he hf
    have h1 : cs[i]? = some (.string z) := by
     have := congrArg (·[0]?) hc
     simpa [List.getElem?_take, List.getElem?_drop] using this
    have h2 : (xs.map (·.1))[i]? = some (DataW.lit (.string z.data.toList) : DataW H) := by simp [hb]
    rw [hxs] at h2
    simp only [List.getElem?_map, Option.map_eq_some_iff, DataW.lit.injEq, Lit.string.injEq] at h2
    obtain ⟨z', hz', rfl⟩ := h2
    simp [h1, hz', strV, mkS]
   ·rw [List.getElem?_eq_none (by omega), List.getElem?_eq_none (by simp; omega)]
  ·cases h
theorem strs_of_head {P : Program} {W : World} {name : String} {zs : List (List UInt8)} {rest : List (String × DataW Unit)} {g : Nat} {t e : TypeId} {n : Nat}
  (hg : P.globalNamed name = some g) (hty : (P.globals[g]?).map (·.type) = some t) (ht : P.underlying t = some (.array n e)) (he : P.underlying e = some .string) (hce : P.cellsOf e = 1) (hct : P.cellsOf t = n)
  (h : laidMet P ((name, strData zs) :: rest) W) : W.var? P name = some (zs.map strV).toArray := by
 obtain ⟨ps, ⟨g', t', cs, fuel, p, q, hg', ht', hvar, hd, _, _⟩, _⟩ := h
 obtain rfl := Option.some.inj (hg.symm.trans hg')
 obtain rfl := Option.some.inj (hty.symm.trans ht')
 rw [hvar, ← cells_of_strs ht he hce hct hd]
theorem cells_of_var {W : World} {name : String} {g : Nat} {zs : List (List UInt8)} (hg : Tryz.prog.globalNamed name = some g) (h3 : W.var? Tryz.prog name = some (zs.map strV).toArray) : (ro (some ⟨g, 0, none⟩) (zs.map strV)).holds W := by
 refine ⟨fun u hu => (by obtain ⟨x, _, rfl⟩ := List.mem_map.1 hu; rfl), ?_⟩
 show cellsAt W _ _
 intro j u hj
 have h4 := World.var?_cell (i := j) hg h3
 have hadd : (⟨g, 0, none⟩ : Addr).add j = ⟨g, 0 + j, none⟩ := by unfold Addr.add; split <;> simp_all
 rw [hadd, Nat.zero_add, h4]
 simpa using hj
theorem words_in {W : World} (h : laidMet Tryz.prog laidL W) : gWords.holds W := by
 have h2 := h.tail.tail.tail
 have h3 := strs_of_head (g := 2) (t := 250) (e := 9) (n := 10) (zs := wordsL) (by kernel_rfl) (by kernel_rfl) (by kernel_rfl) (by kernel_rfl) (by kernel_rfl) (by kernel_rfl) h2
 exact cells_of_var (by kernel_rfl) h3
theorem names_in {W : World} (h : laidMet Tryz.prog laidL W) : gNames.holds W := by
 have h2 := h.tail.tail.tail.tail.tail
 have h3 := strs_of_head (g := 0) (t := 119) (e := 9) (n := 35) (zs := opNames) (by kernel_rfl) (by kernel_rfl) (by kernel_rfl) (by kernel_rfl) (by kernel_rfl) (by kernel_rfl) h2
 exact cells_of_var (by kernel_rfl) h3
theorem opens_u8s : Opens Tryz.prog 39 1 (sliceS (intS .u8)) := opens_slice Tryz.underlying39 (by kernel_rfl) (opens_int Tryz.underlying5 (by kernel_rfl))
def toB (l : List Int) : List UInt8 := l.map fun n => UInt8.ofNat n.toNat
theorem wf_u8 {n : Int} (h1 : (Lit.int .u8 n).wf = true) : ((UInt8.ofNat n.toNat).toNat : Int) = n := by
 simp [Lit.wf, IntKind.min, IntKind.max, IntKind.signed, IntKind.bits] at h1
 rw [UInt8.toNat_ofNat']; omega
theorem toB_flat : ∀ (l : List Int), (∀ n ∈ l, (intS .u8).V n) → l.flatMap (intS .u8).C = u8s (toB l)
 | [], _ => rfl
 | n :: l, h => by
  have h2 := wf_u8 (h n (List.mem_cons_self ..))
  have ih := toB_flat l (fun m hm => h m (List.mem_cons_of_mem _ hm))
  rw [List.flatMap_cons, ih]
  show [Value.int .u8 n] ++ u8s (toB l) = Value.int .u8 ((UInt8.ofNat n.toNat).toNat : Int) :: u8s (toB l)
  rw [h2]; rfl
theorem toB_len (l : List Int) : (toB l).length = l.length := List.length_map ..
theorem does_ro {P : Program} {f : FuncId} {args : List Value} {pre pre' : Hp} {R : Value → Hp → Prop} (h : Does P f args pre R) (hold : ∀ w, HS pre' w → ∀ c ∈ pre, c.holds w) (hn : ∀ c ∈ pre, ¬ c.rw) : Does P f args pre' R :=
 h.pre (fun w hw => Go.Sx.hs_ro (hold w hw) hn) (fun k ⟨d, hd, hr, _⟩ => (hn d hd hr).elim)
theorem bytes_hold {x : Sl Int} (hV : (sliceS (intS .u8)).V x) {w : World} (h : (deep (sliceS (intS .u8)) x).holds w) : (ro x.1 (u8s (toB x.2.2))).holds w := by
 have h3 := view_flat.holds w h
 rwa [toB_flat x.2.2 hV.2.2.2] at h3
theorem bytes_len {x : Sl Int} (hB : (sliceS (intS .u8)).B x ≤ 1048576) : x.2.2.length ≤ 1048576 := by
 have hl2 := le_sumB (intS .u8) (fun _ => Nat.le_refl 1) x.2.2
 have hb : (sliceS (intS .u8)).B x = sumB (intS .u8) x.2.2 + 1 := rfl
 omega
theorem g3_ro : ∀ d ∈ [gWords, gPow, gNames], ¬ d.rw := by
 intro d hd
 simp only [List.mem_cons, List.not_mem_nil, or_false] at hd
 rcases hd with rfl | rfl | rfl <;> exact fun h => h
theorem CodeReads_in (x0 : Sl Int) (hV : (sliceS (intS .u8)).V x0) (hB : (sliceS (intS .u8)).B x0 ≤ 1048576) :
  Does Tryz.prog 5 [.slice x0.1 x0.2.2.length x0.2.1] [deep (sliceS (intS .u8)) x0, gWords, gPow, gNames] (fun v hp' => v = .bool true ∧ hp' = []) := by
 have hl := bytes_len hB
 have h := CodeReads_spec x0.1 x0.2.1 (toB x0.2.2) (fun e => by rw [hV.1 e]; rfl) (by rw [toB_len]; omega) (by rw [toB_len]; exact hV.2.1)
 rw [toB_len] at h
 refine does_ro h (fun w hw c hc => ?_) (fun c hc => ?_)
 ·rcases List.mem_cons.1 hc with rfl | hc
  ·exact bytes_hold hV (hw.holds (deep (sliceS (intS .u8)) x0) (by simp))
  ·exact hw.holds c (by simp only [List.mem_cons, List.not_mem_nil, or_false] at hc ⊢; rcases hc with rfl | rfl | rfl <;> simp)
 ·rcases List.mem_cons.1 hc with rfl | hc
  ·exact fun h => h
  ·exact g3_ro c hc
end Go.Proofs.YtgcfomhlgipllaaGreatDoor
