import Derived.Lib.LaidTab
import Derived.Stop.LaidErr
import Derived.Test.YtgcfomhlgipllaaGreatDoorCa4
set_option linter.unusedVariables false
set_option linter.unusedSimpArgs false
namespace Go.Proofs.YtgcfomhlgipllaaGreatDoor
open Go Go.Sx
def shRows (x : ShV) : Hp := [row 9 1 x.fa x.fields.length x.fc (strsC x.fields)]
def unRows (x : UnV) : Hp := [row 62 2 x.ia x.ins.length x.ic (x.ins.flatMap insC), row 116 4 x.va x.vars.length x.vc (x.vars.flatMap varC)]
theorem ins1 (x : InP) : Sx.One (insC x) := by
  intro v hv
  simp only [insC, List.mem_cons, List.not_mem_nil, or_false] at hv
  rcases hv with rfl | rfl <;> rfl
theorem var1 (x : VarP) : Sx.One (varC x) := by
  intro v hv
  simp only [varC, List.mem_cons, List.not_mem_nil, or_false] at hv
  rcases hv with rfl | rfl | rfl | rfl <;> rfl
theorem sh1 (x : ShV) : Sx.One (shC x) := by
  intro v hv
  simp only [shC, List.mem_cons, List.not_mem_nil, or_false] at hv
  rcases hv with rfl | rfl <;> rfl
theorem un1 (u : UnV) : Sx.One (unC u) := unC_one u
theorem str1 (t : Tx) : Sx.One [.string (mkS t)] := by
  intro v hv
  rw [List.mem_singleton.1 hv]; rfl
theorem goes_rTx (s : List UInt8) : Goes s (rTx s) := codec_rTx.goes s
theorem goes_rIn (s : List UInt8) : Goes s (rIn s) := codec_rIn.goes s
theorem goes_rVr (s : List UInt8) : Goes s (rVr s) := codec_rVr.goes s
theorem goes_rSh (s : List UInt8) : Goes s (rSh s) := codec_rSh.goes s
theorem goes_rU (s : List UInt8) : Goes s (rU s) := codec_rU.goes s
theorem ctext_spec (r A : Nat) (s : List UInt8) (e : Int) (hA : A ≤ s.length) (hl : s.length ≤ 1099511627776) :
    Does Tryz.prog 59 [.pointer (some ⟨r, 0, none⟩)] [rdr r s A e] (fun v hp' => v = .string (mkS (rTx s (A, e)).1) ∧ hp' = [rdr r s (rTx s (A, e)).2.1 (rTx s (A, e)).2.2]) := by
  refine fn_enter Tryz.func59 rfl 5 rfl fun w0 h0 => ?_
  refine SQ (RG ?_)
  refine RR [] .z (.i 2 (.string ⟨#[]⟩) .a) (.i (.blk r 184 [.bool true, .string (mkS s), .int .i64 (↑A : Int), .int .i64 e]) .z) ?_
  refine RZ (NT (SQ (RG ?_)))
  refine RR [] (.d .a) (.i 3 (.pointer (some ⟨r, 0, none⟩)) (.k .z)) .a ?_
  refine RCA (dst := some 4) (Text_spec r A s e 255 hA hl) ?_
  rintro v _ ⟨rfl, rfl⟩
  obtain ⟨⟨t, A1, e1⟩, hx⟩ : ∃ x, x = rTx s (A, e) := ⟨_, rfl⟩
  have hx2 : rd [] A e (txW (s.drop A) 255) = (t, A1, e1) := hx.symm
  rw [← hx, hx2]
  dsimp only
  refine RR [] .z (.i 2 (.string (mkS t)) .z) (.i (.blk r 184 [.bool true, .string (mkS s), .int .i64 (↑A1 : Int), .int .i64 e1]) .z) ?_
  refine RZ (NT (RE ?_))
  refine NE [0] .a .z [] (.string (mkS t)) ?_
  exact ⟨rfl, rfl⟩
theorem rowT_spec (r A : Nat) (s : List UInt8) (e : Int) (hA : A ≤ s.length) (hl : s.length ≤ 1099511627776) :
    Does Tryz.prog 58 [.pointer (some ⟨r, 0, none⟩), .func (.func 59) #[] #[]] [rdr r s A e]
      (fun v hp' => ∃ a c, v = .slice a (rRows s (rTx s) (A, e)).1.length c ∧ hp' = [row 9 1 a (rRows s (rTx s) (A, e)).1.length c (strsC (rRows s (rTx s) (A, e)).1), rdr r s (rRows s (rTx s) (A, e)).2.1 (rRows s (rTx s) (A, e)).2.2]) := by
  obtain ⟨g1, g2, -, -⟩ := goes_rC s 1048576 (A, e) hA
  unfold rRows
  refine fn_enter Tryz.func58 rfl 25 rfl fun w0 h0 => ?_
  refine SQ (RG ?_)
  refine RR [] .z (.i 4 (.slice none 0 0) .a) (.i (.blk r 184 [.bool true, .string (mkS s), .int .i64 (↑A : Int), .int .i64 e]) .z) ?_
  refine RZ (NT (SQ (RG ?_)))
  refine RR [] .z (.i 5 (.slice none 0 0) .a) .a ?_
  refine RZ (NT (SQ (SQ (RG ?_))))
  refine RR [] (.d .a) (.i 7 (.pointer (some ⟨r, 0, none⟩)) .a) .a ?_
  refine RCA (dst := some 8) (RdCount_spec r A s e 1048576 hA hl) ?_
  rintro v _ ⟨rfl, rfl⟩
  obtain ⟨⟨k, A1, e1⟩, hx⟩ : ∃ x, x = rC s 1048576 (A, e) := ⟨_, rfl⟩
  have hx2 : rd 0 A e (cnt (s.drop A) 1048576) = (k, A1, e1) := hx.symm
  rw [← hx] at g1 g2 ⊢
  rw [hx2]
  dsimp only at g1 g2 ⊢
  have hk := rC_rng s (A, e)
  rw [← hx] at hk
  dsimp only at hk
  obtain ⟨n, rfl⟩ := Int.eq_ofNat_of_zero_le hk.1
  obtain ⟨⟨L, A9, e9⟩, ht⟩ : ∃ x, x = rMany (rTx s) (n : Int).toNat (A1, e1) := ⟨_, rfl⟩
  rw [← ht]
  rw [Int.toNat_natCast] at ht
  have hln := many_len (goes_rTx s) n (A1, e1) g2
  rw [← ht] at hln
  dsimp only at hln ⊢
  refine RR [] .z (.i 6 (.int .i64 (↑n : Int)) (.d (.d (.k .a)))) (.i (.blk r 184 [.bool true, .string (mkS s), .int .i64 (↑A1 : Int), .int .i64 e1]) .z) ?_
  refine RZ (NT (BK ?_))
  refine wpc_loop (X := {x : Nat × Option Addr × Nat × List Tx × Nat × Int // x.1 ≤ n ∧ x.2.2.2.2.1 ≤ s.length ∧ L = x.2.2.2.1 ++ (rMany (rTx s) x.1 x.2.2.2.2).1 ∧ (A9, e9) = (rMany (rTx s) x.1 x.2.2.2.2).2}) (fun x => St.mk [(6, .int .i64 (x.1.1 : Int)), (5, .slice x.1.2.1 x.1.2.2.2.1.length x.1.2.2.1), (4, .slice none 0 0), (0, .pointer (some ⟨r, 0, none⟩)), (1, .func (.func 59) #[] #[])]
    [row 9 1 x.1.2.1 x.1.2.2.2.1.length x.1.2.2.1 (strsC x.1.2.2.2.1), rdr r s x.1.2.2.2.2.1 x.1.2.2.2.2.2]) (fun x => x.1.1) ⟨(n, none, 0, [], A1, e1), Nat.le_refl _, g2, by rw [← ht]; rfl, by rw [← ht]⟩ ?_ ?_
  · exact Ent.trans (ent_nil 9 1) (ent_fr (by kernel_rfl))
  rintro ⟨⟨k, a1, c1, l1, A2, e2⟩, hkn, hA2, hL, hp⟩
  dsimp only at hkn hA2 hL hp ⊢
  have hll : l1.length ≤ 1048576 := by
    have := congrArg List.length hL
    rw [List.length_append] at this
    omega
  cases k with
  | zero =>
    rw [show rMany (rTx s) 0 (A2, e2) = ([], A2, e2) from rfl] at hL hp
    cases hp
    rw [List.append_nil] at hL
    subst hL
    refine SQ (SQ (RG ?_))
    refine RR [] .z (.i 15 (.bool false) (.i 6 (.int .i64 0) (.d (.k .a)))) (.k (.i (.blk r 184 [.bool true, .string (mkS s), .int .i64 (↑A9 : Int), .int .i64 e9]) .z)) ?_
    refine RZ (NT (CF (EX (TE (TE (BH (NT (SQ (RG ?_)))))))))
    refine RR [] .z (.i 4 (.slice a1 L.length c1) .z) .a ?_
    refine RZ (NT (RE ?_))
    refine NE [0, 0] .a .z [] (.slice a1 L.length c1) ?_
    exact ⟨a1, c1, rfl, rfl⟩
  | succ k =>
    by_cases he : e2 = 0
    · subst he
      rw [rMany_succ _ _ _ rfl] at hL hp
      have hg := goes_rTx s (A2, 0) hA2
      refine SQ (SQ (RG ?_))
      refine RR [] (.d (.d (.d .a))) (.i 11 (.bool (decide ((↑(k + (1 : Nat)) : Int) > (0 : Int)))) .a) (.k (.i (.blk r 184 [.bool true, .string (mkS s), .int .i64 (↑A2 : Int), .int .i64 0]) .z)) ?_
      refine SR 11 (decide ((↑(k + (1 : Nat)) : Int) > (0 : Int))) true (by simp) ?_
      refine RR [] (.d .a) (.i 12 (.pointer (some ⟨r, 0, none⟩)) (.k (.d (.k .a)))) .a ?_
      refine RC (dst := some 13) [1] (.k .z) (Err_spec r s A2 0) ?_
      rintro v _ ⟨rfl, rfl⟩
      refine RR [] .z (.i 15 (.bool true) (.d (.d (.d (.k .a))))) (.i (.blk r 184 [.bool true, .string (mkS s), .int .i64 (↑A2 : Int), .int .i64 0]) (.d (.k .a))) ?_
      refine RZ (NT (CT (SK (NT (SQ (BK (RG ?_)))))))
      refine RR [] (.d (.d (.d .a))) (.i 20 (.pointer (some ⟨r, 0, none⟩)) (.i 19 (Value.func (Fn.func 59) #[] #[]) (.i 18 (.slice a1 l1.length c1) (.d (.k .a))))) .a ?_
      refine wpr_callv (dst := some 21) (rest := [row 9 1 a1 l1.length c1 (strsC l1)]) (first := (#[])) (caps := (#[])) (args := [.pointer (some ⟨r, 0, none⟩)]) (f := 59) (by kernel_rfl) (by kernel_rfl) (ctext_spec r A2 s 0 hA2 hl) (give [0] (by kernel_rfl)) ?_
      rintro v _ ⟨rfl, rfl⟩
      obtain ⟨⟨v, A3, e3⟩, hv⟩ : ∃ x, x = rTx s (A2, 0) := ⟨_, rfl⟩
      rw [← hv] at hg hL hp ⊢
      dsimp only at hg hL hp ⊢
      refine RN [] (.d .a) 22 (fun g3 => (.slice (some ⟨g3, 0, none⟩) 1 1)) (.d (.d (.d (.k .a)))) (.i (.blk r 184 [.bool true, .string (mkS s), .int .i64 (↑A3 : Int), .int .i64 e3]) (.d (.k .a))) 9 [.string (mkS v)] fun g3 => ?_
      refine wpr_ent (ent_turn 2 (ro (some ⟨g3, 0, none⟩) ([.string (mkS v)])) rfl (turn_rblk (str1 _)) rfl) ?_
      refine wpr_app (a := a1) (n := l1.length) (cap := c1) (x := (.slice (some ⟨g3, 0, none⟩) 1 1)) (t := 22) (xt := 22) (dst := some 23) (by kernel_rfl) (e := 9) (sz := 1) (bytes := 16) (by kernel_rfl) 1 (xs := (strsC l1)) (by kernel_rfl) (m := 1) (news := ([.string (mkS v)])) (fun w h => src_ro h 2 rfl rfl (fun e => by cases e)) (by unfold maxLen; omega) (by omega) ?_
      intro a3 c3 hn3
      rw [show l1.length + 1 = (l1 ++ [v]).length by simp, show strsC l1 ++ [.string (mkS v)] = strsC (l1 ++ [v]) by simp [strsC]]
      refine RR [] .z (.i 5 (.slice a3 (l1 ++ [v]).length c3) (.d (.d (.d (.k (.d (.k .a))))))) .a ?_
      refine RZ (BN (NT (RG ?_)))
      refine RV true [] .z (.i 6 (.int .i64 ((↑(k + 1) : Int) - 1)) (.k (.d (.k .a)))) .a ([inI64 ((↑(k + (1 : Nat)) : Int) - (1 : Int))]) ⟨by unfold inI64; omega, trivial⟩ ?_
      refine RZ ?_
      rw [show ((k + 1 : Nat) : Int) - 1 = (k : Int) from by omega]
      exact fun a' w' hS' => ⟨⟨(k, a3, c3, l1 ++ [v], A3, e3), by dsimp only; omega, hg.2.1, by rw [hL, List.append_assoc]; rfl, hp⟩, by dsimp only; omega, ent_fr (by kernel_rfl) _ _ (ent_hp [1, 0] rfl _ _ hS')⟩
    · rw [rMany_nil _ _ _ he] at hL hp
      cases hp
      rw [List.append_nil] at hL
      subst hL
      refine SQ (SQ (RG ?_))
      refine RR [] (.d (.d (.d .a))) (.i 11 (.bool (decide ((↑(k + (1 : Nat)) : Int) > (0 : Int)))) .a) (.k (.i (.blk r 184 [.bool true, .string (mkS s), .int .i64 (↑A9 : Int), .int .i64 e9]) .z)) ?_
      refine SR 11 (decide ((↑(k + (1 : Nat)) : Int) > (0 : Int))) true (by simp) ?_
      refine RR [] (.d .a) (.i 12 (.pointer (some ⟨r, 0, none⟩)) (.k (.d (.k .a)))) .a ?_
      refine RC (dst := some 13) [1] (.k .z) (Err_spec r s A9 e9) ?_
      rintro v _ ⟨rfl, rfl⟩
      refine RR [] .z (.i 15 (.bool (e9 == (0 : Int))) (.d (.d (.d (.k .a))))) (.i (.blk r 184 [.bool true, .string (mkS s), .int .i64 (↑A9 : Int), .int .i64 e9]) (.d (.k .a))) ?_
      refine RZ (NT ?_)
      refine SC 15 (e9 == (0 : Int)) false (by simp only [bne_eq_false_iff_eq, beq_eq_false_iff_ne, ne_eq]; omega) ?_
      refine CF (EX (TE (TE (BH (NT (SQ (RG ?_)))))))
      refine RR [] .z (.i 4 (.slice a1 L.length c1) .z) .a ?_
      refine RZ (NT (RE ?_))
      refine NE [1, 0] (.i (row 9 1 a1 L.length c1 (strsC L)) (.k .z)) .z [] (.slice a1 L.length c1) ?_
      exact ⟨a1, c1, rfl, rfl⟩
theorem readSh_spec (r A : Nat) (s : List UInt8) (e : Int) (hA : A ≤ s.length) (hl : s.length ≤ 1099511627776) :
    Does Tryz.prog 61 [.pointer (some ⟨r, 0, none⟩)] [rdr r s A e] (fun v hp' => ∃ o : ShV, o.p = (rSh s (A, e)).1 ∧ v = .agg #[.string (mkS o.name), .slice o.fa o.fields.length o.fc] ∧ hp' = [rdr r s (rSh s (A, e)).2.1 (rSh s (A, e)).2.2] ++ shRows o) := by
  unfold rSh sq
  dsimp only
  refine fn_enter Tryz.func61 rfl 8 rfl fun w0 h0 => ?_
  refine SQ (RG ?_)
  refine RP [] .z 2 .a (.i (.blk r 184 [.bool true, .string (mkS s), .int .i64 (↑A : Int), .int .i64 e]) .z) 111 [.string ⟨#[]⟩, .slice none 0 0] fun g1 => ?_
  refine RZ (NT (SQ (RG ?_)))
  refine RR [] (.d .a) (.i 3 (.pointer (some ⟨r, 0, none⟩)) .a) .a ?_
  have ht := goes_rTx s (A, e) hA
  refine RC (dst := some 4) [0] (.d (.k .a)) (ctext_spec r A s e hA hl) ?_
  rintro v _ ⟨rfl, rfl⟩
  obtain ⟨⟨t, At, et⟩, hxt⟩ : ∃ y, y = rTx s (A, e) := ⟨_, rfl⟩
  rw [← hxt] at ht ⊢
  dsimp only at ht ⊢
  refine RR [] (.d .a) (.i 5 (.pointer (some ⟨r, 0, none⟩)) (.k (.d (.k .z)))) (.i (.blk r 184 [.bool true, .string (mkS s), .int .i64 (↑At : Int), .int .i64 et]) (.d (.k .a))) ?_
  refine RC (dst := some 6) [0] (.d (.k .a)) (rowT_spec r At s et ht.2.1 hl) ?_
  rintro v _ ⟨a1, c1, rfl, rfl⟩
  rw [show rRows s (rTx s) (At, et) = rTs s (At, et) from rfl]
  obtain ⟨⟨l, A2, e2⟩, hy⟩ : ∃ x, x = rTs s (At, et) := ⟨_, rfl⟩
  rw [← hy]
  dsimp only
  refine RR [2, 2] .z (.d (.d (.d (.k .a)))) (.k (.i (.blk r 184 [.bool true, .string (mkS s), .int .i64 (↑A2 : Int), .int .i64 e2]) (.i (.blk g1 111 [.string (mkS t), .slice a1 l.length c1]) .z))) ?_
  refine RZ (NT (RE ?_))
  refine NE [1, 0] (.i (.blk r 184 [.bool true, .string (mkS s), .int .i64 (↑A2 : Int), .int .i64 e2]) (.k .z)) (.d (.d (.k .a))) [2, 2] (.agg #[.string (mkS t), .slice a1 l.length c1]) ?_
  exact ⟨⟨t, a1, c1, l⟩, rfl, rfl, rfl⟩
theorem readIn_spec (r A : Nat) (s : List UInt8) (e : Int) (hA : A ≤ s.length) (hl : s.length ≤ 1099511627776) :
    Does Tryz.prog 114 [.pointer (some ⟨r, 0, none⟩)] [rdr r s A e] (fun v hp' => v = .agg (insC (rIn s (A, e)).1).toArray ∧ hp' = [rdr r s (rIn s (A, e)).2.1 (rIn s (A, e)).2.2]) := by
  unfold rIn sq
  dsimp only
  refine fn_enter Tryz.func114 rfl 8 rfl fun w0 h0 => ?_
  refine SQ (RG ?_)
  refine RP [] .z 2 .a (.i (.blk r 184 [.bool true, .string (mkS s), .int .i64 (↑A : Int), .int .i64 e]) .z) 62 [.int .i64 0, .int .i64 0] fun g1 => ?_
  refine RZ (NT (SQ (RG ?_)))
  refine RR [] (.d .a) (.i 3 (.pointer (some ⟨r, 0, none⟩)) .a) .a ?_
  have ho := goes_rI s (A, e) hA
  refine RC (dst := some 4) [0] (.d (.k .a)) (Int_spec r A s e hA hl) ?_
  rintro v _ ⟨rfl, rfl⟩
  obtain ⟨⟨o, Ao, eo⟩, hxo⟩ : ∃ y, y = rI s (A, e) := ⟨_, rfl⟩
  have hyo : rd 0 A e (num (s.drop A)) = (o, Ao, eo) := hxo.symm
  rw [← hxo] at ho ⊢
  rw [hyo]
  dsimp only at ho ⊢
  refine RR [] (.d .a) (.i 5 (.pointer (some ⟨r, 0, none⟩)) (.k (.d (.k .z)))) (.i (.blk r 184 [.bool true, .string (mkS s), .int .i64 (↑Ao : Int), .int .i64 eo]) (.d (.k .a))) ?_
  have ha := goes_rI s (Ao, eo) ho.2.1
  refine RC (dst := some 6) [0] (.d (.k .a)) (Int_spec r Ao s eo ho.2.1 hl) ?_
  rintro v _ ⟨rfl, rfl⟩
  obtain ⟨⟨a, Aa, ea⟩, hxa⟩ : ∃ y, y = rI s (Ao, eo) := ⟨_, rfl⟩
  have hya : rd 0 Ao eo (num (s.drop Ao)) = (a, Aa, ea) := hxa.symm
  rw [← hxa] at ha ⊢
  rw [hya]
  dsimp only at ha ⊢
  refine RR [1, 1] .z (.d (.d (.d (.k .a)))) (.i (.blk r 184 [.bool true, .string (mkS s), .int .i64 (↑Aa : Int), .int .i64 ea]) (.i (.blk g1 62 [.int .i64 o, .int .i64 a]) .z)) ?_
  refine RZ (NT (RE ?_))
  refine NE [0] (.k .z) (.d (.k .a)) [1, 1] (.agg #[.int .i64 o, .int .i64 a]) ?_
  exact ⟨rfl, rfl⟩
theorem readVr_spec (r A : Nat) (s : List UInt8) (e : Int) (hA : A ≤ s.length) (hl : s.length ≤ 1099511627776) :
    Does Tryz.prog 116 [.pointer (some ⟨r, 0, none⟩)] [rdr r s A e] (fun v hp' => v = .agg (varC (rVr s (A, e)).1).toArray ∧ hp' = [rdr r s (rVr s (A, e)).2.1 (rVr s (A, e)).2.2]) := by
  unfold rVr
  dsimp only
  refine fn_enter Tryz.func116 rfl 12 rfl fun w0 h0 => ?_
  refine SQ (RG ?_)
  refine RP [] .z 2 .a (.i (.blk r 184 [.bool true, .string (mkS s), .int .i64 (↑A : Int), .int .i64 e]) .z) 116 [.string ⟨#[]⟩, .int .i64 0, .int .i64 0, .int .i64 0] fun g1 => ?_
  refine RZ (NT (SQ (RG ?_)))
  refine RR [] (.d .a) (.i 3 (.pointer (some ⟨r, 0, none⟩)) .a) .a ?_
  have ht := goes_rTx s (A, e) hA
  refine RC (dst := some 4) [0] (.d (.k .a)) (ctext_spec r A s e hA hl) ?_
  rintro v _ ⟨rfl, rfl⟩
  obtain ⟨⟨t, At, et⟩, hxt⟩ : ∃ y, y = rTx s (A, e) := ⟨_, rfl⟩
  rw [← hxt] at ht ⊢
  dsimp only at ht ⊢
  refine RR [] (.d .a) (.i 5 (.pointer (some ⟨r, 0, none⟩)) (.k (.d (.k .a)))) (.i (.blk r 184 [.bool true, .string (mkS s), .int .i64 (↑At : Int), .int .i64 et]) (.d (.k .a))) ?_
  have ho := goes_rI s (At, et) ht.2.1
  refine RC (dst := some 6) [0] (.d (.k .a)) (Int_spec r At s et ht.2.1 hl) ?_
  rintro v _ ⟨rfl, rfl⟩
  obtain ⟨⟨o, Ao, eo⟩, hxo⟩ : ∃ y, y = rI s (At, et) := ⟨_, rfl⟩
  have hyo : rd 0 At et (num (s.drop At)) = (o, Ao, eo) := hxo.symm
  rw [← hxo] at ho ⊢
  rw [hyo]
  dsimp only at ho ⊢
  refine RR [] (.d .a) (.i 7 (.pointer (some ⟨r, 0, none⟩)) (.k (.d (.k .a)))) (.i (.blk r 184 [.bool true, .string (mkS s), .int .i64 (↑Ao : Int), .int .i64 eo]) (.d (.k .a))) ?_
  have hf := goes_rI s (Ao, eo) ho.2.1
  refine RC (dst := some 8) [0] (.d (.k .a)) (Int_spec r Ao s eo ho.2.1 hl) ?_
  rintro v _ ⟨rfl, rfl⟩
  obtain ⟨⟨f, Af, ef⟩, hxf⟩ : ∃ y, y = rI s (Ao, eo) := ⟨_, rfl⟩
  have hyf : rd 0 Ao eo (num (s.drop Ao)) = (f, Af, ef) := hxf.symm
  rw [← hxf] at hf ⊢
  rw [hyf]
  dsimp only at hf ⊢
  refine RR [] (.d .a) (.i 9 (.pointer (some ⟨r, 0, none⟩)) (.k (.d (.k (.k (.k .z)))))) (.i (.blk r 184 [.bool true, .string (mkS s), .int .i64 (↑Af : Int), .int .i64 ef]) (.d (.k .a))) ?_
  have hu := goes_rI s (Af, ef) hf.2.1
  refine RC (dst := some 10) [0] (.d (.k .a)) (Int_spec r Af s ef hf.2.1 hl) ?_
  rintro v _ ⟨rfl, rfl⟩
  obtain ⟨⟨u, Au, eu⟩, hxu⟩ : ∃ y, y = rI s (Af, ef) := ⟨_, rfl⟩
  have hyu : rd 0 Af ef (num (s.drop Af)) = (u, Au, eu) := hxu.symm
  rw [← hxu] at hu ⊢
  rw [hyu]
  dsimp only at hu ⊢
  refine RR [1, 1, 1, 1] .z (.d (.d (.d (.d (.d (.k .a)))))) (.i (.blk r 184 [.bool true, .string (mkS s), .int .i64 (↑Au : Int), .int .i64 eu]) (.i (.blk g1 116 [.string (mkS t), .int .i64 o, .int .i64 f, .int .i64 u]) .z)) ?_
  refine RZ (NT (RE ?_))
  refine NE [0] (.k .z) (.d (.k .a)) [1, 1, 1, 1] (.agg #[.string (mkS t), .int .i64 o, .int .i64 f, .int .i64 u]) ?_
  exact ⟨rfl, rfl⟩
theorem rowI_spec (r A : Nat) (s : List UInt8) (e : Int) (hA : A ≤ s.length) (hl : s.length ≤ 1099511627776) :
    Does Tryz.prog 113 [.pointer (some ⟨r, 0, none⟩), .func (.func 114) #[] #[]] [rdr r s A e]
      (fun v hp' => ∃ a c, v = .slice a (rRows s (rIn s) (A, e)).1.length c ∧ hp' = [row 62 2 a (rRows s (rIn s) (A, e)).1.length c ((rRows s (rIn s) (A, e)).1.flatMap insC), rdr r s (rRows s (rIn s) (A, e)).2.1 (rRows s (rIn s) (A, e)).2.2]) := by
  obtain ⟨g1, g2, -, -⟩ := goes_rC s 1048576 (A, e) hA
  unfold rRows
  refine fn_enter Tryz.func113 rfl 25 rfl fun w0 h0 => ?_
  refine SQ (RG ?_)
  refine RR [] .z (.i 4 (.slice none 0 0) .a) (.i (.blk r 184 [.bool true, .string (mkS s), .int .i64 (↑A : Int), .int .i64 e]) .z) ?_
  refine RZ (NT (SQ (RG ?_)))
  refine RR [] .z (.i 5 (.slice none 0 0) .a) .a ?_
  refine RZ (NT (SQ (SQ (RG ?_))))
  refine RR [] (.d .a) (.i 7 (.pointer (some ⟨r, 0, none⟩)) .a) .a ?_
  refine RCA (dst := some 8) (RdCount_spec r A s e 1048576 hA hl) ?_
  rintro v _ ⟨rfl, rfl⟩
  obtain ⟨⟨k, A1, e1⟩, hx⟩ : ∃ x, x = rC s 1048576 (A, e) := ⟨_, rfl⟩
  have hx2 : rd 0 A e (cnt (s.drop A) 1048576) = (k, A1, e1) := hx.symm
  rw [← hx] at g1 g2 ⊢
  rw [hx2]
  dsimp only at g1 g2 ⊢
  have hk := rC_rng s (A, e)
  rw [← hx] at hk
  dsimp only at hk
  obtain ⟨n, rfl⟩ := Int.eq_ofNat_of_zero_le hk.1
  obtain ⟨⟨L, A9, e9⟩, ht⟩ : ∃ x, x = rMany (rIn s) (n : Int).toNat (A1, e1) := ⟨_, rfl⟩
  rw [← ht]
  rw [Int.toNat_natCast] at ht
  have hln := many_len (goes_rIn s) n (A1, e1) g2
  rw [← ht] at hln
  dsimp only at hln ⊢
  refine RR [] .z (.i 6 (.int .i64 (↑n : Int)) (.d (.d (.k .a)))) (.i (.blk r 184 [.bool true, .string (mkS s), .int .i64 (↑A1 : Int), .int .i64 e1]) .z) ?_
  refine RZ (NT (BK ?_))
  refine wpc_loop (X := {x : Nat × Option Addr × Nat × List InP × Nat × Int // x.1 ≤ n ∧ x.2.2.2.2.1 ≤ s.length ∧ L = x.2.2.2.1 ++ (rMany (rIn s) x.1 x.2.2.2.2).1 ∧ (A9, e9) = (rMany (rIn s) x.1 x.2.2.2.2).2}) (fun x => St.mk [(6, .int .i64 (x.1.1 : Int)), (5, .slice x.1.2.1 x.1.2.2.2.1.length x.1.2.2.1), (4, .slice none 0 0), (0, .pointer (some ⟨r, 0, none⟩)), (1, .func (.func 114) #[] #[])]
    [row 62 2 x.1.2.1 x.1.2.2.2.1.length x.1.2.2.1 (x.1.2.2.2.1.flatMap insC), rdr r s x.1.2.2.2.2.1 x.1.2.2.2.2.2]) (fun x => x.1.1) ⟨(n, none, 0, [], A1, e1), Nat.le_refl _, g2, by rw [← ht]; rfl, by rw [← ht]⟩ ?_ ?_
  · exact Ent.trans (ent_nil 62 2) (ent_fr (by kernel_rfl))
  rintro ⟨⟨k, a1, c1, l1, A2, e2⟩, hkn, hA2, hL, hp⟩
  dsimp only at hkn hA2 hL hp ⊢
  have hll : l1.length ≤ 1048576 := by
    have := congrArg List.length hL
    rw [List.length_append] at this
    omega
  cases k with
  | zero =>
    rw [show rMany (rIn s) 0 (A2, e2) = ([], A2, e2) from rfl] at hL hp
    cases hp
    rw [List.append_nil] at hL
    subst hL
    refine SQ (SQ (RG ?_))
    refine RR [] .z (.i 15 (.bool false) (.i 6 (.int .i64 0) (.d (.k .a)))) (.k (.i (.blk r 184 [.bool true, .string (mkS s), .int .i64 (↑A9 : Int), .int .i64 e9]) .z)) ?_
    refine RZ (NT (CF (EX (TE (TE (BH (NT (SQ (RG ?_)))))))))
    refine RR [] .z (.i 4 (.slice a1 L.length c1) .z) .a ?_
    refine RZ (NT (RE ?_))
    refine NE [0, 0] .a .z [] (.slice a1 L.length c1) ?_
    exact ⟨a1, c1, rfl, rfl⟩
  | succ k =>
    by_cases he : e2 = 0
    · subst he
      rw [rMany_succ _ _ _ rfl] at hL hp
      have hg := goes_rIn s (A2, 0) hA2
      refine SQ (SQ (RG ?_))
      refine RR [] (.d (.d (.d .a))) (.i 11 (.bool (decide ((↑(k + (1 : Nat)) : Int) > (0 : Int)))) .a) (.k (.i (.blk r 184 [.bool true, .string (mkS s), .int .i64 (↑A2 : Int), .int .i64 0]) .z)) ?_
      refine SR 11 (decide ((↑(k + (1 : Nat)) : Int) > (0 : Int))) true (by simp) ?_
      refine RR [] (.d .a) (.i 12 (.pointer (some ⟨r, 0, none⟩)) (.k (.d (.k .a)))) .a ?_
      refine RC (dst := some 13) [1] (.k .z) (Err_spec r s A2 0) ?_
      rintro v _ ⟨rfl, rfl⟩
      refine RR [] .z (.i 15 (.bool true) (.d (.d (.d (.k .a))))) (.i (.blk r 184 [.bool true, .string (mkS s), .int .i64 (↑A2 : Int), .int .i64 0]) (.d (.k .a))) ?_
      refine RZ (NT (CT (SK (NT (SQ (BK (RG ?_)))))))
      refine RR [] (.d (.d (.d .a))) (.i 20 (.pointer (some ⟨r, 0, none⟩)) (.i 19 (Value.func (Fn.func 114) #[] #[]) (.i 18 (.slice a1 l1.length c1) (.d (.k .a))))) .a ?_
      refine wpr_callv (dst := some 21) (rest := [row 62 2 a1 l1.length c1 (List.flatMap insC l1)]) (first := (#[])) (caps := (#[])) (args := [.pointer (some ⟨r, 0, none⟩)]) (f := 114) (by kernel_rfl) (by kernel_rfl) (readIn_spec r A2 s 0 hA2 hl) (give [0] (by kernel_rfl)) ?_
      rintro v _ ⟨rfl, rfl⟩
      obtain ⟨⟨v, A3, e3⟩, hv⟩ : ∃ x, x = rIn s (A2, 0) := ⟨_, rfl⟩
      rw [← hv] at hg hL hp ⊢
      dsimp only at hg hL hp ⊢
      rw [show insC v = [.int .i64 v.1, .int .i64 v.2] from rfl]
      refine RN [] (.d .a) 22 (fun g3 => (.slice (some ⟨g3, 0, none⟩) 1 1)) (.d (.d (.d (.k .a)))) (.i (.blk r 184 [.bool true, .string (mkS s), .int .i64 (↑A3 : Int), .int .i64 e3]) (.d (.k .a))) 62 [.int .i64 v.fst, .int .i64 v.snd] fun g3 => ?_
      refine wpr_ent (ent_turn 2 (ro (some ⟨g3, 0, none⟩) (insC v)) rfl (turn_rblk (l := insC v) (ins1 _)) rfl) ?_
      refine wpr_app (a := a1) (n := l1.length) (cap := c1) (x := (.slice (some ⟨g3, 0, none⟩) 1 1)) (t := 56) (xt := 56) (dst := some 23) (by kernel_rfl) (e := 62) (sz := 2) (bytes := 16) (by kernel_rfl) 1 (xs := (List.flatMap insC l1)) (by kernel_rfl) (m := 1) (news := (insC v)) (fun w h => src_ro h 2 rfl rfl (fun e => by cases e)) (by unfold maxLen; omega) (by omega) ?_
      intro a3 c3 hn3
      rw [show l1.length + 1 = (l1 ++ [v]).length by simp, show l1.flatMap insC ++ insC v = (l1 ++ [v]).flatMap insC by simp]
      refine RR [] .z (.i 5 (.slice a3 (l1 ++ [v]).length c3) (.d (.d (.d (.k (.d (.k .a))))))) .a ?_
      refine RZ (BN (NT (RG ?_)))
      refine RV true [] .z (.i 6 (.int .i64 ((↑(k + 1) : Int) - 1)) (.k (.d (.k .a)))) .a ([inI64 ((↑(k + (1 : Nat)) : Int) - (1 : Int))]) ⟨by unfold inI64; omega, trivial⟩ ?_
      refine RZ ?_
      rw [show ((k + 1 : Nat) : Int) - 1 = (k : Int) from by omega]
      exact fun a' w' hS' => ⟨⟨(k, a3, c3, l1 ++ [v], A3, e3), by dsimp only; omega, hg.2.1, by rw [hL, List.append_assoc]; rfl, hp⟩, by dsimp only; omega, ent_fr (by kernel_rfl) _ _ (ent_hp [1, 0] rfl _ _ hS')⟩
    · rw [rMany_nil _ _ _ he] at hL hp
      cases hp
      rw [List.append_nil] at hL
      subst hL
      refine SQ (SQ (RG ?_))
      refine RR [] (.d (.d (.d .a))) (.i 11 (.bool (decide ((↑(k + (1 : Nat)) : Int) > (0 : Int)))) .a) (.k (.i (.blk r 184 [.bool true, .string (mkS s), .int .i64 (↑A9 : Int), .int .i64 e9]) .z)) ?_
      refine SR 11 (decide ((↑(k + (1 : Nat)) : Int) > (0 : Int))) true (by simp) ?_
      refine RR [] (.d .a) (.i 12 (.pointer (some ⟨r, 0, none⟩)) (.k (.d (.k .a)))) .a ?_
      refine RC (dst := some 13) [1] (.k .z) (Err_spec r s A9 e9) ?_
      rintro v _ ⟨rfl, rfl⟩
      refine RR [] .z (.i 15 (.bool (e9 == (0 : Int))) (.d (.d (.d (.k .a))))) (.i (.blk r 184 [.bool true, .string (mkS s), .int .i64 (↑A9 : Int), .int .i64 e9]) (.d (.k .a))) ?_
      refine RZ (NT ?_)
      refine SC 15 (e9 == (0 : Int)) false (by simp only [bne_eq_false_iff_eq, beq_eq_false_iff_ne, ne_eq]; omega) ?_
      refine CF (EX (TE (TE (BH (NT (SQ (RG ?_)))))))
      refine RR [] .z (.i 4 (.slice a1 L.length c1) .z) .a ?_
      refine RZ (NT (RE ?_))
      refine NE [1, 0] (.i (row 62 2 a1 L.length c1 (List.flatMap insC L)) (.k .z)) .z [] (.slice a1 L.length c1) ?_
      exact ⟨a1, c1, rfl, rfl⟩
theorem rowVr_spec (r A : Nat) (s : List UInt8) (e : Int) (hA : A ≤ s.length) (hl : s.length ≤ 1099511627776) :
    Does Tryz.prog 115 [.pointer (some ⟨r, 0, none⟩), .func (.func 116) #[] #[]] [rdr r s A e]
      (fun v hp' => ∃ a c, v = .slice a (rRows s (rVr s) (A, e)).1.length c ∧ hp' = [row 116 4 a (rRows s (rVr s) (A, e)).1.length c ((rRows s (rVr s) (A, e)).1.flatMap varC), rdr r s (rRows s (rVr s) (A, e)).2.1 (rRows s (rVr s) (A, e)).2.2]) := by
  obtain ⟨g1, g2, -, -⟩ := goes_rC s 1048576 (A, e) hA
  unfold rRows
  refine fn_enter Tryz.func115 rfl 25 rfl fun w0 h0 => ?_
  refine SQ (RG ?_)
  refine RR [] .z (.i 4 (.slice none 0 0) .a) (.i (.blk r 184 [.bool true, .string (mkS s), .int .i64 (↑A : Int), .int .i64 e]) .z) ?_
  refine RZ (NT (SQ (RG ?_)))
  refine RR [] .z (.i 5 (.slice none 0 0) .a) .a ?_
  refine RZ (NT (SQ (SQ (RG ?_))))
  refine RR [] (.d .a) (.i 7 (.pointer (some ⟨r, 0, none⟩)) .a) .a ?_
  refine RCA (dst := some 8) (RdCount_spec r A s e 1048576 hA hl) ?_
  rintro v _ ⟨rfl, rfl⟩
  obtain ⟨⟨k, A1, e1⟩, hx⟩ : ∃ x, x = rC s 1048576 (A, e) := ⟨_, rfl⟩
  have hx2 : rd 0 A e (cnt (s.drop A) 1048576) = (k, A1, e1) := hx.symm
  rw [← hx] at g1 g2 ⊢
  rw [hx2]
  dsimp only at g1 g2 ⊢
  have hk := rC_rng s (A, e)
  rw [← hx] at hk
  dsimp only at hk
  obtain ⟨n, rfl⟩ := Int.eq_ofNat_of_zero_le hk.1
  obtain ⟨⟨L, A9, e9⟩, ht⟩ : ∃ x, x = rMany (rVr s) (n : Int).toNat (A1, e1) := ⟨_, rfl⟩
  rw [← ht]
  rw [Int.toNat_natCast] at ht
  have hln := many_len (goes_rVr s) n (A1, e1) g2
  rw [← ht] at hln
  dsimp only at hln ⊢
  refine RR [] .z (.i 6 (.int .i64 (↑n : Int)) (.d (.d (.k .a)))) (.i (.blk r 184 [.bool true, .string (mkS s), .int .i64 (↑A1 : Int), .int .i64 e1]) .z) ?_
  refine RZ (NT (BK ?_))
  refine wpc_loop (X := {x : Nat × Option Addr × Nat × List VarP × Nat × Int // x.1 ≤ n ∧ x.2.2.2.2.1 ≤ s.length ∧ L = x.2.2.2.1 ++ (rMany (rVr s) x.1 x.2.2.2.2).1 ∧ (A9, e9) = (rMany (rVr s) x.1 x.2.2.2.2).2}) (fun x => St.mk [(6, .int .i64 (x.1.1 : Int)), (5, .slice x.1.2.1 x.1.2.2.2.1.length x.1.2.2.1), (4, .slice none 0 0), (0, .pointer (some ⟨r, 0, none⟩)), (1, .func (.func 116) #[] #[])]
    [row 116 4 x.1.2.1 x.1.2.2.2.1.length x.1.2.2.1 (x.1.2.2.2.1.flatMap varC), rdr r s x.1.2.2.2.2.1 x.1.2.2.2.2.2]) (fun x => x.1.1) ⟨(n, none, 0, [], A1, e1), Nat.le_refl _, g2, by rw [← ht]; rfl, by rw [← ht]⟩ ?_ ?_
  · exact Ent.trans (ent_nil 116 4) (ent_fr (by kernel_rfl))
  rintro ⟨⟨k, a1, c1, l1, A2, e2⟩, hkn, hA2, hL, hp⟩
  dsimp only at hkn hA2 hL hp ⊢
  have hll : l1.length ≤ 1048576 := by
    have := congrArg List.length hL
    rw [List.length_append] at this
    omega
  cases k with
  | zero =>
    rw [show rMany (rVr s) 0 (A2, e2) = ([], A2, e2) from rfl] at hL hp
    cases hp
    rw [List.append_nil] at hL
    subst hL
    refine SQ (SQ (RG ?_))
    refine RR [] .z (.i 15 (.bool false) (.i 6 (.int .i64 0) (.d (.k .a)))) (.k (.i (.blk r 184 [.bool true, .string (mkS s), .int .i64 (↑A9 : Int), .int .i64 e9]) .z)) ?_
    refine RZ (NT (CF (EX (TE (TE (BH (NT (SQ (RG ?_)))))))))
    refine RR [] .z (.i 4 (.slice a1 L.length c1) .z) .a ?_
    refine RZ (NT (RE ?_))
    refine NE [0, 0] .a .z [] (.slice a1 L.length c1) ?_
    exact ⟨a1, c1, rfl, rfl⟩
  | succ k =>
    by_cases he : e2 = 0
    · subst he
      rw [rMany_succ _ _ _ rfl] at hL hp
      have hg := goes_rVr s (A2, 0) hA2
      refine SQ (SQ (RG ?_))
      refine RR [] (.d (.d (.d .a))) (.i 11 (.bool (decide ((↑(k + (1 : Nat)) : Int) > (0 : Int)))) .a) (.k (.i (.blk r 184 [.bool true, .string (mkS s), .int .i64 (↑A2 : Int), .int .i64 0]) .z)) ?_
      refine SR 11 (decide ((↑(k + (1 : Nat)) : Int) > (0 : Int))) true (by simp) ?_
      refine RR [] (.d .a) (.i 12 (.pointer (some ⟨r, 0, none⟩)) (.k (.d (.k .a)))) .a ?_
      refine RC (dst := some 13) [1] (.k .z) (Err_spec r s A2 0) ?_
      rintro v _ ⟨rfl, rfl⟩
      refine RR [] .z (.i 15 (.bool true) (.d (.d (.d (.k .a))))) (.i (.blk r 184 [.bool true, .string (mkS s), .int .i64 (↑A2 : Int), .int .i64 0]) (.d (.k .a))) ?_
      refine RZ (NT (CT (SK (NT (SQ (BK (RG ?_)))))))
      refine RR [] (.d (.d (.d .a))) (.i 20 (.pointer (some ⟨r, 0, none⟩)) (.i 19 (Value.func (Fn.func 116) #[] #[]) (.i 18 (.slice a1 l1.length c1) (.d (.k .a))))) .a ?_
      refine wpr_callv (dst := some 21) (rest := [row 116 4 a1 l1.length c1 (List.flatMap varC l1)]) (first := (#[])) (caps := (#[])) (args := [.pointer (some ⟨r, 0, none⟩)]) (f := 116) (by kernel_rfl) (by kernel_rfl) (readVr_spec r A2 s 0 hA2 hl) (give [0] (by kernel_rfl)) ?_
      rintro v _ ⟨rfl, rfl⟩
      obtain ⟨⟨v, A3, e3⟩, hv⟩ : ∃ x, x = rVr s (A2, 0) := ⟨_, rfl⟩
      rw [← hv] at hg hL hp ⊢
      dsimp only at hg hL hp ⊢
      rw [show varC v = [.string (mkS v.name), .int .i64 v.slot, .int .i64 v.fr, .int .i64 v.to] from rfl]
      refine RN [] (.d .a) 22 (fun g3 => (.slice (some ⟨g3, 0, none⟩) 1 1)) (.d (.d (.d (.k .a)))) (.i (.blk r 184 [.bool true, .string (mkS s), .int .i64 (↑A3 : Int), .int .i64 e3]) (.d (.k .a))) 116 [.string (mkS v.name), .int .i64 v.slot, .int .i64 v.fr, .int .i64 v.to] fun g3 => ?_
      refine wpr_ent (ent_turn 2 (ro (some ⟨g3, 0, none⟩) (varC v)) rfl (turn_rblk (l := varC v) (var1 _)) rfl) ?_
      refine wpr_app (a := a1) (n := l1.length) (cap := c1) (x := (.slice (some ⟨g3, 0, none⟩) 1 1)) (t := 57) (xt := 57) (dst := some 23) (by kernel_rfl) (e := 116) (sz := 4) (bytes := 40) (by kernel_rfl) 1 (xs := (List.flatMap varC l1)) (by kernel_rfl) (m := 1) (news := (varC v)) (fun w h => src_ro h 2 rfl rfl (fun e => by cases e)) (by unfold maxLen; omega) (by omega) ?_
      intro a3 c3 hn3
      rw [show l1.length + 1 = (l1 ++ [v]).length by simp, show l1.flatMap varC ++ varC v = (l1 ++ [v]).flatMap varC by simp]
      refine RR [] .z (.i 5 (.slice a3 (l1 ++ [v]).length c3) (.d (.d (.d (.k (.d (.k .a))))))) .a ?_
      refine RZ (BN (NT (RG ?_)))
      refine RV true [] .z (.i 6 (.int .i64 ((↑(k + 1) : Int) - 1)) (.k (.d (.k .a)))) .a ([inI64 ((↑(k + (1 : Nat)) : Int) - (1 : Int))]) ⟨by unfold inI64; omega, trivial⟩ ?_
      refine RZ ?_
      rw [show ((k + 1 : Nat) : Int) - 1 = (k : Int) from by omega]
      exact fun a' w' hS' => ⟨⟨(k, a3, c3, l1 ++ [v], A3, e3), by dsimp only; omega, hg.2.1, by rw [hL, List.append_assoc]; rfl, hp⟩, by dsimp only; omega, ent_fr (by kernel_rfl) _ _ (ent_hp [1, 0] rfl _ _ hS')⟩
    · rw [rMany_nil _ _ _ he] at hL hp
      cases hp
      rw [List.append_nil] at hL
      subst hL
      refine SQ (SQ (RG ?_))
      refine RR [] (.d (.d (.d .a))) (.i 11 (.bool (decide ((↑(k + (1 : Nat)) : Int) > (0 : Int)))) .a) (.k (.i (.blk r 184 [.bool true, .string (mkS s), .int .i64 (↑A9 : Int), .int .i64 e9]) .z)) ?_
      refine SR 11 (decide ((↑(k + (1 : Nat)) : Int) > (0 : Int))) true (by simp) ?_
      refine RR [] (.d .a) (.i 12 (.pointer (some ⟨r, 0, none⟩)) (.k (.d (.k .a)))) .a ?_
      refine RC (dst := some 13) [1] (.k .z) (Err_spec r s A9 e9) ?_
      rintro v _ ⟨rfl, rfl⟩
      refine RR [] .z (.i 15 (.bool (e9 == (0 : Int))) (.d (.d (.d (.k .a))))) (.i (.blk r 184 [.bool true, .string (mkS s), .int .i64 (↑A9 : Int), .int .i64 e9]) (.d (.k .a))) ?_
      refine RZ (NT ?_)
      refine SC 15 (e9 == (0 : Int)) false (by simp only [bne_eq_false_iff_eq, beq_eq_false_iff_ne, ne_eq]; omega) ?_
      refine CF (EX (TE (TE (BH (NT (SQ (RG ?_)))))))
      refine RR [] .z (.i 4 (.slice a1 L.length c1) .z) .a ?_
      refine RZ (NT (RE ?_))
      refine NE [1, 0] (.i (row 116 4 a1 L.length c1 (List.flatMap varC L)) (.k .z)) .z [] (.slice a1 L.length c1) ?_
      exact ⟨a1, c1, rfl, rfl⟩
theorem rowSh_spec (r A : Nat) (s : List UInt8) (e : Int) (hA : A ≤ s.length) (hl : s.length ≤ 1099511627776) :
    Does Tryz.prog 60 [.pointer (some ⟨r, 0, none⟩), .func (.func 61) #[] #[]] [rdr r s A e]
      (fun v hp' => ∃ a c, ∃ l' : List ShV, l'.map ShV.p = (rRows s (rSh s) (A, e)).1 ∧ v = .slice a l'.length c ∧ hp' = [row 111 2 a l'.length c (l'.flatMap shC), star (l'.flatMap shRows), rdr r s (rRows s (rSh s) (A, e)).2.1 (rRows s (rSh s) (A, e)).2.2]) := by
  obtain ⟨g1, g2, -, -⟩ := goes_rC s 1048576 (A, e) hA
  unfold rRows
  refine fn_enter Tryz.func60 rfl 25 rfl fun w0 h0 => ?_
  refine SQ (RG ?_)
  refine RR [] .z (.i 4 (.slice none 0 0) .a) (.i (.blk r 184 [.bool true, .string (mkS s), .int .i64 (↑A : Int), .int .i64 e]) .z) ?_
  refine RZ (NT (SQ (RG ?_)))
  refine RR [] .z (.i 5 (.slice none 0 0) .a) .a ?_
  refine RZ (NT (SQ (SQ (RG ?_))))
  refine RR [] (.d .a) (.i 7 (.pointer (some ⟨r, 0, none⟩)) .a) .a ?_
  refine RCA (dst := some 8) (RdCount_spec r A s e 1048576 hA hl) ?_
  rintro v _ ⟨rfl, rfl⟩
  obtain ⟨⟨k, A1, e1⟩, hx⟩ : ∃ x, x = rC s 1048576 (A, e) := ⟨_, rfl⟩
  have hx2 : rd 0 A e (cnt (s.drop A) 1048576) = (k, A1, e1) := hx.symm
  rw [← hx] at g1 g2 ⊢
  rw [hx2]
  dsimp only at g1 g2 ⊢
  have hk := rC_rng s (A, e)
  rw [← hx] at hk
  dsimp only at hk
  obtain ⟨n, rfl⟩ := Int.eq_ofNat_of_zero_le hk.1
  obtain ⟨⟨L, A9, e9⟩, ht⟩ : ∃ x, x = rMany (rSh s) (n : Int).toNat (A1, e1) := ⟨_, rfl⟩
  rw [← ht]
  rw [Int.toNat_natCast] at ht
  have hln := many_len (goes_rSh s) n (A1, e1) g2
  rw [← ht] at hln
  dsimp only at hln ⊢
  refine RR [] .z (.i 6 (.int .i64 (↑n : Int)) (.d (.d (.k .a)))) (.i (.blk r 184 [.bool true, .string (mkS s), .int .i64 (↑A1 : Int), .int .i64 e1]) .z) ?_
  refine RZ (NT (BK ?_))
  refine wpc_loop (X := {x : Nat × Option Addr × Nat × List ShV × Nat × Int // x.1 ≤ n ∧ x.2.2.2.2.1 ≤ s.length ∧ L = x.2.2.2.1.map ShV.p ++ (rMany (rSh s) x.1 x.2.2.2.2).1 ∧ (A9, e9) = (rMany (rSh s) x.1 x.2.2.2.2).2}) (fun x => St.mk [(6, .int .i64 (x.1.1 : Int)), (5, .slice x.1.2.1 x.1.2.2.2.1.length x.1.2.2.1), (4, .slice none 0 0), (0, .pointer (some ⟨r, 0, none⟩)), (1, .func (.func 61) #[] #[])]
    [row 111 2 x.1.2.1 x.1.2.2.2.1.length x.1.2.2.1 (x.1.2.2.2.1.flatMap shC), star (x.1.2.2.2.1.flatMap shRows), rdr r s x.1.2.2.2.2.1 x.1.2.2.2.2.2]) (fun x => x.1.1) ⟨(n, none, 0, [], A1, e1), Nat.le_refl _, g2, by rw [← ht]; rfl, by rw [← ht]⟩ ?_ ?_
  · exact Ent.trans ent_star_nil (Ent.trans (ent_nil 111 2) (ent_fr (by kernel_rfl)))
  rintro ⟨⟨k, a1, c1, l1, A2, e2⟩, hkn, hA2, hL, hp⟩
  dsimp only at hkn hA2 hL hp ⊢
  have hll : l1.length ≤ 1048576 := by
    have := congrArg List.length hL
    rw [List.length_append, List.length_map] at this
    omega
  cases k with
  | zero =>
    rw [show rMany (rSh s) 0 (A2, e2) = ([], A2, e2) from rfl] at hL hp
    cases hp
    rw [List.append_nil] at hL
    subst hL
    refine SQ (SQ (RG ?_))
    refine RR [] .z (.i 15 (.bool false) (.i 6 (.int .i64 0) (.d (.k .a)))) (.k (.k (.i (.blk r 184 [.bool true, .string (mkS s), .int .i64 (↑A9 : Int), .int .i64 e9]) .z))) ?_
    refine RZ (NT (CF (EX (TE (TE (BH (NT (SQ (RG ?_)))))))))
    refine RR [] .z (.i 4 (.slice a1 l1.length c1) .z) .a ?_
    refine RZ (NT (RE ?_))
    refine NE [0, 0, 0] .a .z [] (.slice a1 l1.length c1) ?_
    exact ⟨a1, c1, l1, rfl, rfl, rfl⟩
  | succ k =>
    by_cases he : e2 = 0
    · subst he
      rw [rMany_succ _ _ _ rfl] at hL hp
      have hg := goes_rSh s (A2, 0) hA2
      refine SQ (SQ (RG ?_))
      refine RR [] (.d (.d (.d .a))) (.i 11 (.bool (decide ((↑(k + (1 : Nat)) : Int) > (0 : Int)))) .a) (.k (.k (.i (.blk r 184 [.bool true, .string (mkS s), .int .i64 (↑A2 : Int), .int .i64 0]) .z))) ?_
      refine SR 11 (decide ((↑(k + (1 : Nat)) : Int) > (0 : Int))) true (by simp) ?_
      refine RR [] (.d .a) (.i 12 (.pointer (some ⟨r, 0, none⟩)) (.k (.d (.k .a)))) .a ?_
      refine RC (dst := some 13) [2] (.k (.k .z)) (Err_spec r s A2 0) ?_
      rintro v _ ⟨rfl, rfl⟩
      refine RR [] .z (.i 15 (.bool true) (.d (.d (.d (.k .a))))) (.i (.blk r 184 [.bool true, .string (mkS s), .int .i64 (↑A2 : Int), .int .i64 0]) (.d (.k .a))) ?_
      refine RZ (NT (CT (SK (NT (SQ (BK (RG ?_)))))))
      refine RR [] (.d (.d (.d .a))) (.i 20 (.pointer (some ⟨r, 0, none⟩)) (.i 19 (Value.func (Fn.func 61) #[] #[]) (.i 18 (.slice a1 l1.length c1) (.d (.k .a))))) .a ?_
      refine wpr_callv (dst := some 21) (rest := [row 111 2 a1 l1.length c1 (List.flatMap shC l1), star (List.flatMap shRows l1)]) (first := (#[])) (caps := (#[])) (args := [.pointer (some ⟨r, 0, none⟩)]) (f := 61) (by kernel_rfl) (by kernel_rfl) (readSh_spec r A2 s 0 hA2 hl) (give [0] (by kernel_rfl)) ?_
      rintro v _ ⟨o, ho, rfl, rfl⟩
      rw [show shRows o = [row 9 1 o.fa o.fields.length o.fc (strsC o.fields)] from rfl]
      obtain ⟨⟨v, A3, e3⟩, hv⟩ : ∃ x, x = rSh s (A2, 0) := ⟨_, rfl⟩
      rw [← hv] at hg hL hp ho ⊢
      dsimp only at hg hL hp ho ⊢
      refine RN [] (.d .a) 22 (fun g3 => (.slice (some ⟨g3, 0, none⟩) 1 1)) (.d (.d (.d (.k .a)))) (.i (.blk r 184 [.bool true, .string (mkS s), .int .i64 (↑A3 : Int), .int .i64 e3]) (.d (.k .a))) 111 [.string (mkS o.name), .slice o.fa o.fields.length o.fc] fun g3 => ?_
      refine wpr_ent (ent_turn 4 (ro (some ⟨g3, 0, none⟩) (shC o)) rfl (turn_rblk (sh1 _)) rfl) ?_
      refine wpr_app (a := a1) (n := l1.length) (cap := c1) (x := (.slice (some ⟨g3, 0, none⟩) 1 1)) (t := 23) (xt := 23) (dst := some 23) (by kernel_rfl) (e := 111) (sz := 2) (bytes := 40) (by kernel_rfl) 2 (xs := (List.flatMap shC l1)) (by kernel_rfl) (m := 1) (news := (shC o)) (fun w h => src_ro h 4 rfl rfl (fun e => by cases e)) (by unfold maxLen; omega) (by omega) ?_
      intro a3 c3 hn3
      rw [show l1.flatMap shC ++ shC o = (l1 ++ [o]).flatMap shC by simp, show l1.length + 1 = (l1 ++ [o]).length by simp]
      refine RR [] .z (.i 5 (.slice a3 (l1 ++ [o]).length c3) (.d (.d (.d (.k (.d (.k .a))))))) .a ?_
      refine RZ (BN (NT (RG ?_)))
      refine RV true [] .z (.i 6 (.int .i64 ((↑(k + 1) : Int) - 1)) (.k (.d (.k .a)))) .a ([inI64 ((↑(k + (1 : Nat)) : Int) - (1 : Int))]) ⟨by unfold inI64; omega, trivial⟩ ?_
      refine RZ ?_
      refine nx_ent (Ent.trans (ent_hp [3, 1, 0, 0] rfl) (ent_star_snoc trivial)) ?_
      rw [show l1.flatMap shRows ++ [row 9 1 o.fa o.fields.length o.fc (strsC o.fields)] = (l1 ++ [o]).flatMap shRows by simp [shRows]]
      rw [show ((k + 1 : Nat) : Int) - 1 = (k : Int) from by omega]
      exact fun a' w' hS' => ⟨⟨(k, a3, c3, l1 ++ [o], A3, e3), by dsimp only; omega, hg.2.1, by rw [hL, List.map_append, List.append_assoc, ← ho]; rfl, hp⟩, by dsimp only; omega, ent_fr (by kernel_rfl) _ _ (ent_hp [2, 0, 0] rfl _ _ hS')⟩
    · rw [rMany_nil _ _ _ he] at hL hp
      cases hp
      rw [List.append_nil] at hL
      subst hL
      refine SQ (SQ (RG ?_))
      refine RR [] (.d (.d (.d .a))) (.i 11 (.bool (decide ((↑(k + (1 : Nat)) : Int) > (0 : Int)))) .a) (.k (.k (.i (.blk r 184 [.bool true, .string (mkS s), .int .i64 (↑A9 : Int), .int .i64 e9]) .z))) ?_
      refine SR 11 (decide ((↑(k + (1 : Nat)) : Int) > (0 : Int))) true (by simp) ?_
      refine RR [] (.d .a) (.i 12 (.pointer (some ⟨r, 0, none⟩)) (.k (.d (.k .a)))) .a ?_
      refine RC (dst := some 13) [2] (.k (.k .z)) (Err_spec r s A9 e9) ?_
      rintro v _ ⟨rfl, rfl⟩
      refine RR [] .z (.i 15 (.bool (e9 == (0 : Int))) (.d (.d (.d (.k .a))))) (.i (.blk r 184 [.bool true, .string (mkS s), .int .i64 (↑A9 : Int), .int .i64 e9]) (.d (.k .a))) ?_
      refine RZ (NT ?_)
      refine SC 15 (e9 == (0 : Int)) false (by simp only [bne_eq_false_iff_eq, beq_eq_false_iff_ne, ne_eq]; omega) ?_
      refine CF (EX (TE (TE (BH (NT (SQ (RG ?_)))))))
      refine RR [] .z (.i 4 (.slice a1 l1.length c1) .z) .a ?_
      refine RZ (NT (RE ?_))
      refine NE [1, 1, 0] (.i (row 111 2 a1 l1.length c1 (List.flatMap shC l1)) (.i (star (List.flatMap shRows l1)) (.k .z))) .z [] (.slice a1 l1.length c1) ?_
      exact ⟨a1, c1, l1, rfl, rfl, rfl⟩
theorem readU_spec (r A : Nat) (s : List UInt8) (e : Int) (hA : A ≤ s.length) (hl : s.length ≤ 1099511627776) :
    Does Tryz.prog 63 [.pointer (some ⟨r, 0, none⟩)] [rdr r s A e] (fun v hp' => ∃ o : UnV, o.p = (rU s (A, e)).1 ∧ v = .agg #[.string (mkS o.name), .int .i64 o.params, .int .i64 o.slots, .int .i64 o.stack, .bool o.result, .slice o.ia o.ins.length o.ic, .slice o.va o.vars.length o.vc] ∧ hp' = [rdr r s (rU s (A, e)).2.1 (rU s (A, e)).2.2] ++ unRows o) := by
  unfold rU
  dsimp only
  refine fn_enter Tryz.func63 rfl 18 rfl fun w0 h0 => ?_
  refine SQ (RG ?_)
  refine RP [] .z 2 .a (.i (.blk r 184 [.bool true, .string (mkS s), .int .i64 (↑A : Int), .int .i64 e]) .z) 59 [.string ⟨#[]⟩, .int .i64 0, .int .i64 0, .int .i64 0, .bool false, .slice none 0 0, .slice none 0 0] fun g1 => ?_
  refine RZ (NT (SQ (RG ?_)))
  refine RR [] (.d .a) (.i 3 (.pointer (some ⟨r, 0, none⟩)) .a) .a ?_
  have ht := goes_rTx s (A, e) hA
  refine RC (dst := some 4) [0] (.d (.k .a)) (ctext_spec r A s e hA hl) ?_
  rintro v _ ⟨rfl, rfl⟩
  obtain ⟨⟨t, At, et⟩, hxt⟩ : ∃ y, y = rTx s (A, e) := ⟨_, rfl⟩
  rw [← hxt] at ht ⊢
  dsimp only at ht ⊢
  refine RR [] (.d .a) (.i 5 (.pointer (some ⟨r, 0, none⟩)) (.k (.d (.k .a)))) (.i (.blk r 184 [.bool true, .string (mkS s), .int .i64 (↑At : Int), .int .i64 et]) (.d (.k .a))) ?_
  have hp := goes_rI s (At, et) ht.2.1
  refine RC (dst := some 6) [0] (.d (.k .a)) (Int_spec r At s et ht.2.1 hl) ?_
  rintro v _ ⟨rfl, rfl⟩
  obtain ⟨⟨p, Ap, ep⟩, hxp⟩ : ∃ y, y = rI s (At, et) := ⟨_, rfl⟩
  have hyp : rd 0 At et (num (s.drop At)) = (p, Ap, ep) := hxp.symm
  rw [← hxp] at hp ⊢
  rw [hyp]
  dsimp only at hp ⊢
  refine RR [] (.d .a) (.i 7 (.pointer (some ⟨r, 0, none⟩)) (.k (.d (.k .a)))) (.i (.blk r 184 [.bool true, .string (mkS s), .int .i64 (↑Ap : Int), .int .i64 ep]) (.d (.k .a))) ?_
  have hq := goes_rI s (Ap, ep) hp.2.1
  refine RC (dst := some 8) [0] (.d (.k .a)) (Int_spec r Ap s ep hp.2.1 hl) ?_
  rintro v _ ⟨rfl, rfl⟩
  obtain ⟨⟨q, Aq, eq⟩, hxq⟩ : ∃ y, y = rI s (Ap, ep) := ⟨_, rfl⟩
  have hyq : rd 0 Ap ep (num (s.drop Ap)) = (q, Aq, eq) := hxq.symm
  rw [← hxq] at hq ⊢
  rw [hyq]
  dsimp only at hq ⊢
  refine RR [] (.d .a) (.i 9 (.pointer (some ⟨r, 0, none⟩)) (.k (.d (.k .a)))) (.i (.blk r 184 [.bool true, .string (mkS s), .int .i64 (↑Aq : Int), .int .i64 eq]) (.d (.k .a))) ?_
  have hk := goes_rI s (Aq, eq) hq.2.1
  refine RC (dst := some 10) [0] (.d (.k .a)) (Int_spec r Aq s eq hq.2.1 hl) ?_
  rintro v _ ⟨rfl, rfl⟩
  obtain ⟨⟨k, Ak, ek⟩, hxk⟩ : ∃ y, y = rI s (Aq, eq) := ⟨_, rfl⟩
  have hyk : rd 0 Aq eq (num (s.drop Aq)) = (k, Ak, ek) := hxk.symm
  rw [← hxk] at hk ⊢
  rw [hyk]
  dsimp only at hk ⊢
  refine RR [] (.d .a) (.i 11 (.pointer (some ⟨r, 0, none⟩)) (.k (.d (.k .a)))) (.i (.blk r 184 [.bool true, .string (mkS s), .int .i64 (↑Ak : Int), .int .i64 ek]) (.d (.k .a))) ?_
  have hb := goes_rBo s (Ak, ek) hk.2.1
  refine RC (dst := some 12) [0] (.d (.k .a)) (Bool_spec r Ak s ek hk.2.1 hl) ?_
  rintro v _ ⟨rfl, rfl⟩
  obtain ⟨⟨b, Ab, eb⟩, hxb⟩ : ∃ y, y = rBo s (Ak, ek) := ⟨_, rfl⟩
  have hyb : rd false Ak ek (bol (s.drop Ak)) = (b, Ab, eb) := hxb.symm
  rw [← hxb] at hb ⊢
  rw [hyb]
  dsimp only at hb ⊢
  refine RR [] (.d .a) (.i 13 (.pointer (some ⟨r, 0, none⟩)) (.k (.d (.k .a)))) (.i (.blk r 184 [.bool true, .string (mkS s), .int .i64 (↑Ab : Int), .int .i64 eb]) (.d (.k .a))) ?_
  have hi := goes_rows (goes_rIn s) (Ab, eb) hb.2.1
  refine RC (dst := some 14) [0] (.d (.k .a)) (rowI_spec r Ab s eb hb.2.1 hl) ?_
  rintro v _ ⟨qa, ca, rfl, rfl⟩
  obtain ⟨⟨la, Ai, ei⟩, hxi⟩ : ∃ x, x = rRows s (rIn s) (Ab, eb) := ⟨_, rfl⟩
  rw [← hxi] at hi ⊢
  dsimp only at hi ⊢
  refine RR [] (.d .a) (.i 15 (.pointer (some ⟨r, 0, none⟩)) (.k (.d (.k (.k (.k (.k (.k (.k .z))))))))) (.k (.i (.blk r 184 [.bool true, .string (mkS s), .int .i64 (↑Ai : Int), .int .i64 ei]) (.d (.k .a)))) ?_
  refine RC (dst := some 16) [1] (.k (.d (.k .a))) (rowVr_spec r Ai s ei hi.2.1 hl) ?_
  rintro v _ ⟨qb, cb, rfl, rfl⟩
  obtain ⟨⟨lb, Ab, eb⟩, hxb⟩ : ∃ x, x = rRows s (rVr s) (Ai, ei) := ⟨_, rfl⟩
  rw [← hxb]
  dsimp only
  refine RR [3, 3, 3, 3, 3, 3, 3] .z (.d (.d (.d (.d (.d (.d (.d (.d (.k .a))))))))) (.k (.i (.blk r 184 [.bool true, .string (mkS s), .int .i64 (↑Ab : Int), .int .i64 eb]) (.d (.k (.u (.i (.string (mkS t)) (.i (.int .i64 p) (.i (.int .i64 q) (.i (.int .i64 k) (.i (.bool b) (.i (.slice qa la.length ca) (.i (.slice qb lb.length cb) .z))))))) .a))))) ?_
  refine RZ (NT (RE ?_))
  refine NE [1, 1, 0] (.i (.blk r 184 [.bool true, .string (mkS s), .int .i64 (↑Ab : Int), .int .i64 eb]) (.i (row 62 2 qa la.length ca (List.flatMap insC la)) (.k .z))) (.d (.d (.d (.k .a)))) [3, 3, 3, 3, 3, 3, 3] (.agg #[.string (mkS t), .int .i64 p, .int .i64 q, .int .i64 k, .bool b, .slice qa la.length ca, .slice qb lb.length cb]) ?_
  exact ⟨⟨t, p, q, k, b, qa, ca, la, qb, cb, lb⟩, rfl, rfl, rfl⟩
theorem rowU_spec (r A : Nat) (s : List UInt8) (e : Int) (hA : A ≤ s.length) (hl : s.length ≤ 1099511627776) :
    Does Tryz.prog 62 [.pointer (some ⟨r, 0, none⟩), .func (.func 63) #[] #[]] [rdr r s A e]
      (fun v hp' => ∃ a c, ∃ l' : List UnV, l'.map UnV.p = (rRows s (rU s) (A, e)).1 ∧ v = .slice a l'.length c ∧ hp' = [row 59 7 a l'.length c (l'.flatMap unC), star (l'.flatMap unRows), rdr r s (rRows s (rU s) (A, e)).2.1 (rRows s (rU s) (A, e)).2.2]) := by
  obtain ⟨g1, g2, -, -⟩ := goes_rC s 1048576 (A, e) hA
  unfold rRows
  refine fn_enter Tryz.func62 rfl 25 rfl fun w0 h0 => ?_
  refine SQ (RG ?_)
  refine RR [] .z (.i 4 (.slice none 0 0) .a) (.i (.blk r 184 [.bool true, .string (mkS s), .int .i64 (↑A : Int), .int .i64 e]) .z) ?_
  refine RZ (NT (SQ (RG ?_)))
  refine RR [] .z (.i 5 (.slice none 0 0) .a) .a ?_
  refine RZ (NT (SQ (SQ (RG ?_))))
  refine RR [] (.d .a) (.i 7 (.pointer (some ⟨r, 0, none⟩)) .a) .a ?_
  refine RCA (dst := some 8) (RdCount_spec r A s e 1048576 hA hl) ?_
  rintro v _ ⟨rfl, rfl⟩
  obtain ⟨⟨k, A1, e1⟩, hx⟩ : ∃ x, x = rC s 1048576 (A, e) := ⟨_, rfl⟩
  have hx2 : rd 0 A e (cnt (s.drop A) 1048576) = (k, A1, e1) := hx.symm
  rw [← hx] at g1 g2 ⊢
  rw [hx2]
  dsimp only at g1 g2 ⊢
  have hk := rC_rng s (A, e)
  rw [← hx] at hk
  dsimp only at hk
  obtain ⟨n, rfl⟩ := Int.eq_ofNat_of_zero_le hk.1
  obtain ⟨⟨L, A9, e9⟩, ht⟩ : ∃ x, x = rMany (rU s) (n : Int).toNat (A1, e1) := ⟨_, rfl⟩
  rw [← ht]
  rw [Int.toNat_natCast] at ht
  have hln := many_len (goes_rU s) n (A1, e1) g2
  rw [← ht] at hln
  dsimp only at hln ⊢
  refine RR [] .z (.i 6 (.int .i64 (↑n : Int)) (.d (.d (.k .a)))) (.i (.blk r 184 [.bool true, .string (mkS s), .int .i64 (↑A1 : Int), .int .i64 e1]) .z) ?_
  refine RZ (NT (BK ?_))
  refine wpc_loop (X := {x : Nat × Option Addr × Nat × List UnV × Nat × Int // x.1 ≤ n ∧ x.2.2.2.2.1 ≤ s.length ∧ L = x.2.2.2.1.map UnV.p ++ (rMany (rU s) x.1 x.2.2.2.2).1 ∧ (A9, e9) = (rMany (rU s) x.1 x.2.2.2.2).2}) (fun x => St.mk [(6, .int .i64 (x.1.1 : Int)), (5, .slice x.1.2.1 x.1.2.2.2.1.length x.1.2.2.1), (4, .slice none 0 0), (0, .pointer (some ⟨r, 0, none⟩)), (1, .func (.func 63) #[] #[])]
    [row 59 7 x.1.2.1 x.1.2.2.2.1.length x.1.2.2.1 (x.1.2.2.2.1.flatMap unC), star (x.1.2.2.2.1.flatMap unRows), rdr r s x.1.2.2.2.2.1 x.1.2.2.2.2.2]) (fun x => x.1.1) ⟨(n, none, 0, [], A1, e1), Nat.le_refl _, g2, by rw [← ht]; rfl, by rw [← ht]⟩ ?_ ?_
  · exact Ent.trans ent_star_nil (Ent.trans (ent_nil 59 7) (ent_fr (by kernel_rfl)))
  rintro ⟨⟨k, a1, c1, l1, A2, e2⟩, hkn, hA2, hL, hp⟩
  dsimp only at hkn hA2 hL hp ⊢
  have hll : l1.length ≤ 1048576 := by
    have := congrArg List.length hL
    rw [List.length_append, List.length_map] at this
    omega
  cases k with
  | zero =>
    rw [show rMany (rU s) 0 (A2, e2) = ([], A2, e2) from rfl] at hL hp
    cases hp
    rw [List.append_nil] at hL
    subst hL
    refine SQ (SQ (RG ?_))
    refine RR [] .z (.i 15 (.bool false) (.i 6 (.int .i64 0) (.d (.k .a)))) (.k (.k (.i (.blk r 184 [.bool true, .string (mkS s), .int .i64 (↑A9 : Int), .int .i64 e9]) .z))) ?_
    refine RZ (NT (CF (EX (TE (TE (BH (NT (SQ (RG ?_)))))))))
    refine RR [] .z (.i 4 (.slice a1 l1.length c1) .z) .a ?_
    refine RZ (NT (RE ?_))
    refine NE [0, 0, 0] .a .z [] (.slice a1 l1.length c1) ?_
    exact ⟨a1, c1, l1, rfl, rfl, rfl⟩
  | succ k =>
    by_cases he : e2 = 0
    · subst he
      rw [rMany_succ _ _ _ rfl] at hL hp
      have hg := goes_rU s (A2, 0) hA2
      refine SQ (SQ (RG ?_))
      refine RR [] (.d (.d (.d .a))) (.i 11 (.bool (decide ((↑(k + (1 : Nat)) : Int) > (0 : Int)))) .a) (.k (.k (.i (.blk r 184 [.bool true, .string (mkS s), .int .i64 (↑A2 : Int), .int .i64 0]) .z))) ?_
      refine SR 11 (decide ((↑(k + (1 : Nat)) : Int) > (0 : Int))) true (by simp) ?_
      refine RR [] (.d .a) (.i 12 (.pointer (some ⟨r, 0, none⟩)) (.k (.d (.k .a)))) .a ?_
      refine RC (dst := some 13) [2] (.k (.k .z)) (Err_spec r s A2 0) ?_
      rintro v _ ⟨rfl, rfl⟩
      refine RR [] .z (.i 15 (.bool true) (.d (.d (.d (.k .a))))) (.i (.blk r 184 [.bool true, .string (mkS s), .int .i64 (↑A2 : Int), .int .i64 0]) (.d (.k .a))) ?_
      refine RZ (NT (CT (SK (NT (SQ (BK (RG ?_)))))))
      refine RR [] (.d (.d (.d .a))) (.i 20 (.pointer (some ⟨r, 0, none⟩)) (.i 19 (Value.func (Fn.func 63) #[] #[]) (.i 18 (.slice a1 l1.length c1) (.d (.k .a))))) .a ?_
      refine wpr_callv (dst := some 21) (rest := [row 59 7 a1 l1.length c1 (List.flatMap unC l1), star (List.flatMap unRows l1)]) (first := (#[])) (caps := (#[])) (args := [.pointer (some ⟨r, 0, none⟩)]) (f := 63) (by kernel_rfl) (by kernel_rfl) (readU_spec r A2 s 0 hA2 hl) (give [0] (by kernel_rfl)) ?_
      rintro v _ ⟨o, ho, rfl, rfl⟩
      rw [show unRows o = [row 62 2 o.ia o.ins.length o.ic (o.ins.flatMap insC), row 116 4 o.va o.vars.length o.vc (o.vars.flatMap varC)] from rfl]
      obtain ⟨⟨v, A3, e3⟩, hv⟩ : ∃ x, x = rU s (A2, 0) := ⟨_, rfl⟩
      rw [← hv] at hg hL hp ho ⊢
      dsimp only at hg hL hp ho ⊢
      refine RN [] (.d .a) 22 (fun g3 => (.slice (some ⟨g3, 0, none⟩) 1 1)) (.d (.d (.d (.k .a)))) (.i (.blk r 184 [.bool true, .string (mkS s), .int .i64 (↑A3 : Int), .int .i64 e3]) (.d (.k .a))) 59 [.string (mkS o.name), .int .i64 o.params, .int .i64 o.slots, .int .i64 o.stack, .bool o.result, .slice o.ia o.ins.length o.ic, .slice o.va o.vars.length o.vc] fun g3 => ?_
      refine wpr_ent (ent_turn 5 (ro (some ⟨g3, 0, none⟩) (unC o)) rfl (turn_rblk (un1 _)) rfl) ?_
      refine wpr_app (a := a1) (n := l1.length) (cap := c1) (x := (.slice (some ⟨g3, 0, none⟩) 1 1)) (t := 24) (xt := 24) (dst := some 23) (by kernel_rfl) (e := 59) (sz := 7) (bytes := 96) (by kernel_rfl) 3 (xs := (List.flatMap unC l1)) (by kernel_rfl) (m := 1) (news := (unC o)) (fun w h => src_ro h 5 rfl rfl (fun e => by cases e)) (by unfold maxLen; omega) (by omega) ?_
      intro a3 c3 hn3
      rw [show l1.flatMap unC ++ unC o = (l1 ++ [o]).flatMap unC by simp, show l1.length + 1 = (l1 ++ [o]).length by simp]
      refine RR [] .z (.i 5 (.slice a3 (l1 ++ [o]).length c3) (.d (.d (.d (.k (.d (.k .a))))))) .a ?_
      refine RZ (BN (NT (RG ?_)))
      refine RV true [] .z (.i 6 (.int .i64 ((↑(k + 1) : Int) - 1)) (.k (.d (.k .a)))) .a ([inI64 ((↑(k + (1 : Nat)) : Int) - (1 : Int))]) ⟨by unfold inI64; omega, trivial⟩ ?_
      refine RZ ?_
      refine nx_ent (Ent.trans (ent_hp [4, 1, 1, 0, 0] rfl) (Ent.trans (ent_star_snoc trivial) (ent_star_snoc trivial))) ?_
      rw [show l1.flatMap unRows ++ [row 62 2 o.ia o.ins.length o.ic (o.ins.flatMap insC)] ++ [row 116 4 o.va o.vars.length o.vc (o.vars.flatMap varC)] = (l1 ++ [o]).flatMap unRows by simp [unRows]]
      rw [show ((k + 1 : Nat) : Int) - 1 = (k : Int) from by omega]
      exact fun a' w' hS' => ⟨⟨(k, a3, c3, l1 ++ [o], A3, e3), by dsimp only; omega, hg.2.1, by rw [hL, List.map_append, List.append_assoc, ← ho]; rfl, hp⟩, by dsimp only; omega, ent_fr (by kernel_rfl) _ _ (ent_hp [2, 0, 0] rfl _ _ hS')⟩
    · rw [rMany_nil _ _ _ he] at hL hp
      cases hp
      rw [List.append_nil] at hL
      subst hL
      refine SQ (SQ (RG ?_))
      refine RR [] (.d (.d (.d .a))) (.i 11 (.bool (decide ((↑(k + (1 : Nat)) : Int) > (0 : Int)))) .a) (.k (.k (.i (.blk r 184 [.bool true, .string (mkS s), .int .i64 (↑A9 : Int), .int .i64 e9]) .z))) ?_
      refine SR 11 (decide ((↑(k + (1 : Nat)) : Int) > (0 : Int))) true (by simp) ?_
      refine RR [] (.d .a) (.i 12 (.pointer (some ⟨r, 0, none⟩)) (.k (.d (.k .a)))) .a ?_
      refine RC (dst := some 13) [2] (.k (.k .z)) (Err_spec r s A9 e9) ?_
      rintro v _ ⟨rfl, rfl⟩
      refine RR [] .z (.i 15 (.bool (e9 == (0 : Int))) (.d (.d (.d (.k .a))))) (.i (.blk r 184 [.bool true, .string (mkS s), .int .i64 (↑A9 : Int), .int .i64 e9]) (.d (.k .a))) ?_
      refine RZ (NT ?_)
      refine SC 15 (e9 == (0 : Int)) false (by simp only [bne_eq_false_iff_eq, beq_eq_false_iff_ne, ne_eq]; omega) ?_
      refine CF (EX (TE (TE (BH (NT (SQ (RG ?_)))))))
      refine RR [] .z (.i 4 (.slice a1 l1.length c1) .z) .a ?_
      refine RZ (NT (RE ?_))
      refine NE [1, 1, 0] (.i (row 59 7 a1 l1.length c1 (List.flatMap unC l1)) (.i (star (List.flatMap unRows l1)) (.k .z))) .z [] (.slice a1 l1.length c1) ?_
      exact ⟨a1, c1, l1, rfl, rfl, rfl⟩
end Go.Proofs.YtgcfomhlgipllaaGreatDoor
namespace Go.Proofs.YtgcfomhlgipllaaGreatDoor
open Go Go.Sx
theorem view_gSh {l : List ShV} : View (star (l.flatMap shRows)) (gSh l) := view_star_sub fun c' hc' => by
  obtain ⟨o, ho, rfl⟩ := List.mem_map.1 hc'
  exact ⟨_, List.mem_flatMap.2 ⟨o, ho, List.mem_cons_self ..⟩, view_row.holds, view_row.own⟩
theorem view_gUn {l : List UnV} : View (star (l.flatMap unRows)) (gUn l) := view_star_sub fun c' hc' => by
  obtain ⟨o, ho, hc'⟩ := List.mem_flatMap.1 hc'
  simp only [unRo, List.mem_cons, List.not_mem_nil, or_false] at hc'
  rcases hc' with rfl | rfl
  · exact ⟨_, List.mem_flatMap.2 ⟨o, ho, List.mem_cons_self ..⟩, view_row.holds, view_row.own⟩
  · exact ⟨_, List.mem_flatMap.2 ⟨o, ho, List.mem_cons_of_mem _ (List.mem_cons_self ..)⟩, view_row.holds, view_row.own⟩
def noCv : CoV := ⟨none, 0, [], none, 0, [], none, 0, [], 0⟩
theorem noCv_ok : noCv.ok := by
  unfold noCv CoV.ok i64r
  exact ⟨Nat.zero_le _, fun x hx => (List.not_mem_nil hx).elim, Nat.zero_le _, fun x hx => (List.not_mem_nil hx).elim, Nat.zero_le _, fun x hx => (List.not_mem_nil hx).elim, by decide, by decide⟩
def coH (c : CoV) : Hp := [row 9 1 c.sa c.strs.length c.sc (strsC c.strs), row 111 2 c.ha c.shapes.length c.hc (c.shapes.flatMap shC), star (c.shapes.flatMap shRows), row 59 7 c.ua c.units.length c.uc (c.units.flatMap unC), star (c.units.flatMap unRows)]
set_option maxHeartbeats 8000000 in
theorem cLoad_spec (a : Option Addr) (c : Nat) (bs : List UInt8) (ha : a = none → bs = []) (hl : bs.length ≤ 34359738368) :
    Does Tryz.prog 26 [.slice a bs.length c] [ro a (u8s bs), gWords] (fun v hp' => ∃ s : CoV, s.p = ldC bs ∧ s.ok ∧ v = .tuple #[.agg (coC s).toArray, .int .i64 (ldE bs)] ∧ hp' = coH s) := by
  refine fn_enter Tryz.func26 rfl 29 rfl fun w0 h0 => ?_
  refine SQ (RG ?_)
  refine RP [] (.d .a) 2 .a .a 26 [.slice none 0 0, .slice none 0 0, .slice none 0 0, .int .i64 0] fun g1 => ?_
  refine RR [] .z (.i 3 (.int .i64 0) .a) .a ?_
  refine RZ (NT (SQ (RG ?_)))
  refine RR [] (.d .a) (.i 7 (.slice a bs.length c) (.k (.k .z))) .a ?_
  refine RCG (dst := some 8) .a (NewReader_spec a c bs ha) (GV (GI []) 0 view_ro) ?_
  rintro v _ ⟨r, rfl, rfl⟩
  refine RR [] .z (.i 4 (.pointer (some ⟨r, 0, none⟩)) (.d (.d (.k .a)))) (.i (.blk r 184 [.bool true, .string (mkS bs), .int .i64 0, .int .i64 0]) (.d (.k .a))) ?_
  refine RZ (NT (SQ (RG ?_)))
  refine RR [] (.d .a) (.i 9 (.pointer (some ⟨r, 0, none⟩)) .a) .a ?_
  have h1 := goes_rows (goes_rTx bs) (0, 0) (Nat.zero_le _)
  refine RC (dst := some 10) [0] (.d (.k .a)) (rowT_spec r 0 bs 0 (Nat.zero_le _) (by omega)) ?_
  rintro v _ ⟨q1, c1, rfl, rfl⟩
  obtain ⟨⟨l1, A1, e1⟩, hx1⟩ : ∃ x, x = rRows bs (rTx bs) (0, 0) := ⟨_, rfl⟩
  rw [← hx1] at h1 ⊢
  dsimp only at h1 ⊢
  refine RR [] (.d .a) (.i 11 (.pointer (some ⟨r, 0, none⟩)) (.k (.d (.k .a)))) (.k (.i (.blk r 184 [.bool true, .string (mkS bs), .int .i64 (↑A1 : Int), .int .i64 e1]) (.d (.k .a)))) ?_
  have h2 := goes_rows (goes_rSh bs) (A1, e1) h1.2.1
  refine RC (dst := some 12) [1] (.k (.d (.k .a))) (rowSh_spec r A1 bs e1 h1.2.1 (by omega)) ?_
  rintro v _ ⟨q2, c2, l2, hl2, rfl, rfl⟩
  obtain ⟨⟨L2, A2, e2⟩, hx2⟩ : ∃ x, x = rRows bs (rSh bs) (A1, e1) := ⟨_, rfl⟩
  rw [← hx2] at h2 hl2 ⊢
  dsimp only at h2 hl2 ⊢
  refine RR [] (.d .a) (.i 13 (.pointer (some ⟨r, 0, none⟩)) (.k (.d (.k .a)))) (.k (.k (.i (.blk r 184 [.bool true, .string (mkS bs), .int .i64 (↑A2 : Int), .int .i64 e2]) (.d (.k .a))))) ?_
  have h3 := goes_rows (goes_rU bs) (A2, e2) h2.2.1
  refine RC (dst := some 14) [2] (.k (.k (.d (.k .a)))) (rowU_spec r A2 bs e2 h2.2.1 (by omega)) ?_
  rintro v _ ⟨q3, c3, l3, hl3, rfl, rfl⟩
  obtain ⟨⟨L3, A3, e3⟩, hx3⟩ : ∃ x, x = rRows bs (rU bs) (A2, e2) := ⟨_, rfl⟩
  rw [← hx3] at h3 hl3 ⊢
  dsimp only at h3 hl3 ⊢
  refine RR [] (.d .a) (.i 15 (.pointer (some ⟨r, 0, none⟩)) (.k (.d (.k .a)))) (.k (.k (.i (.blk r 184 [.bool true, .string (mkS bs), .int .i64 (↑A3 : Int), .int .i64 e3]) (.d (.k .a))))) ?_
  have h4 := goes_rI bs (A3, e3) h3.2.1
  refine RC (dst := some 16) [2] (.k (.k (.d (.k .a)))) (Int_spec r A3 bs e3 h3.2.1 (by omega)) ?_
  rintro v _ ⟨rfl, rfl⟩
  obtain ⟨⟨m, A4, e4⟩, hx4⟩ : ∃ x, x = rI bs (A3, e3) := ⟨_, rfl⟩
  have hy4 : rd 0 A3 e3 (num (bs.drop A3)) = (m, A4, e4) := hx4.symm
  rw [← hx4] at h4
  rw [hy4]
  dsimp only at h4 ⊢
  refine RP [] (.d (.d .a)) 5 (.i 17 (.agg #[.slice q1 l1.length c1, .slice q2 l2.length c2, .slice q3 l3.length c3, .int .i64 m]) (.d (.d (.d (.d (.d (.k .a))))))) (.i (.blk r 184 [.bool true, .string (mkS bs), .int .i64 (↑A4 : Int), .int .i64 e4]) (.d (.k .a))) 26 [.slice none 0 0, .slice none 0 0, .slice none 0 0, .int .i64 0] fun g2 => ?_
  refine RR [9, 9, 9, 9] .z (.k (.d (.k .a))) (.k (.k (.k (.k (.k (.k (.k (.k (.k (.u (.i (.slice q1 l1.length c1) (.i (.slice q2 l2.length c2) (.i (.slice q3 l3.length c3) (.i (.int .i64 m) .z)))) .a)))))))))) ?_
  refine RZ (NT (SQ (SQ (RG ?_))))
  refine RR [] (.d .a) (.i 18 (.pointer (some ⟨r, 0, none⟩)) (.k (.d (.k .a)))) .a ?_
  refine RC (dst := some 19) [0] (.d (.k .a)) (End_spec r bs A4 e4) ?_
  rintro v _ ⟨rfl, rfl⟩
  refine RR [] .z (.i 6 (.int .i64 (endE bs (↑A4 : Int) e4)) (.d (.d (.k .a)))) (.i (.blk r 184 [.bool true, .string (mkS bs), .int .i64 (↑A4 : Int), .int .i64 e4]) (.d (.k .a))) ?_
  refine RZ (NT (SQ (RG ?_)))
  refine RR [] .z (.i 21 (.bool (endE bs (↑A4 : Int) e4 != (0 : Int))) .a) .a ?_
  refine RZ (NT ?_)
  have hS : rCo bs (0, 0) = (⟨l1, L2, L3, m⟩, A4, e4) := by
    unfold rCo rTs
    rw [← hx1]; dsimp only
    rw [← hx2]; dsimp only
    rw [← hx3]; dsimp only
    rw [← hx4]
  have hP : CoV.p ⟨q1, c1, l1, q2, c2, l2, q3, c3, l3, m⟩ = ⟨l1, L2, L3, m⟩ := by unfold CoV.p; dsimp only; rw [hl2, hl3]
  have hok : CoV.ok ⟨q1, c1, l1, q2, c2, l2, q3, c3, l3, m⟩ := co_ok (s := bs) (p := (0, 0)) (by rw [hP, hS])
  obtain ⟨E, hE⟩ : ∃ E, E = endE bs A4 e4 := ⟨_, rfl⟩
  have hLE : ldE bs = if E ≠ 0 then E else if rightC ⟨l1, L2, L3, m⟩ then 0 else 2 := by unfold ldE; rw [hS, hE]
  rw [← hE]
  by_cases hE0 : E ≠ 0
  · rw [if_pos hE0] at hLE
    rw [hLE, ldC_bad (by rw [hLE]; exact hE0)]
    refine SC 21 (E != (0 : Int)) true (by simp only [bne_iff_ne, beq_iff_eq, ne_eq]; omega) ?_
    refine CT (SQ (RG ?_))
    refine RR [8, 8, 8, 8] .z (.i 3 (.int .i64 E) (.d (.d (.d (.k (.d (.k .a))))))) .a ?_
    refine RZ (NT (RE (TR ?_)))
    refine nx_ent (Ent.trans ent_star_nil (Ent.trans (ent_nil 59 7) (Ent.trans ent_star_nil (Ent.trans (ent_nil 111 2) (ent_nil 9 1))))) ?_
    refine NE [0, 0, 0, 0, 0] (.k (.k (.k (.k (.k .z))))) (.d (.d (.d (.d (.d (.k .a)))))) [13, 13, 13, 13] (.tuple #[.agg #[.slice none 0 0, .slice none 0 0, .slice none 0 0, .int .i64 0], .int .i64 E]) ?_
    exact ⟨noCv, rfl, noCv_ok, rfl, rfl⟩
  · rw [if_neg hE0] at hLE
    have hE1 := Classical.not_not.1 hE0
    subst hE1
    have hck := right_spec _ hok
    rw [show coC ⟨q1, c1, l1, q2, c2, l2, q3, c3, l3, m⟩ = [.slice q1 l1.length c1, .slice q2 l2.length c2, .slice q3 l3.length c3, .int .i64 m] from rfl, hP] at hck
    unfold coHp at hck
    dsimp only at hck
    refine CF (SK (NT (SQ (SQ (RG ?_)))))
    refine RR [9, 9, 9, 9] (.d .a) (.i 24 (.agg #[.slice q1 l1.length c1, .slice q2 l2.length c2, .slice q3 l3.length c3, .int .i64 m]) (.d (.d (.k .a)))) .a ?_
    refine RCG (dst := some 25) .a (hck) (GV (GV (GV (GV (GV (GV (GI []) 7 view_ro) 2 view_gUn) 1 view_row) 4 view_gSh) 3 view_row) 5 view_row) ?_
    rintro v _ ⟨rfl, rfl⟩
    cases hm : rightC ⟨l1, L2, L3, m⟩ with
    | false =>
      rw [hm] at hLE
      rw [hLE, ldC_bad (by rw [hLE]; decide)]
      refine RR [] .z (.i 26 (.bool true) (.d (.d (.k .a)))) .a ?_
      refine RZ (NT (CT (SQ (RG ?_))))
      refine RR [8, 8, 8, 8] .z (.i 3 (.int .i64 2) (.d (.k (.d (.k .a))))) .a ?_
      refine RZ (NT (RE (TR ?_)))
      refine nx_ent (Ent.trans ent_star_nil (Ent.trans (ent_nil 59 7) (Ent.trans ent_star_nil (Ent.trans (ent_nil 111 2) (ent_nil 9 1))))) ?_
      refine NE [0, 0, 0, 0, 0] (.k (.k (.k (.k (.k .z))))) (.d (.d (.d (.d (.d (.k .a)))))) [13, 13, 13, 13] (.tuple #[.agg #[.slice none 0 0, .slice none 0 0, .slice none 0 0, .int .i64 0], .int .i64 2]) ?_
      exact ⟨noCv, rfl, noCv_ok, rfl, rfl⟩
    | true =>
      rw [hm] at hLE
      have hLS : ldC bs = ⟨l1, L2, L3, m⟩ := by unfold ldC; rw [hLE, hS]; rfl
      rw [hLE, hLS]
      refine RR [] .z (.i 26 (.bool false) (.d (.d (.k .a)))) .a ?_
      refine RZ (NT (CF (SK (NT (SQ (RG ?_))))))
      refine RR [9, 9, 9, 9, 8, 8, 8, 8] .z (.d (.d (.k .a))) (.k (.k (.k (.k (.k (.k (.k (.k (.u (.i (.slice q1 l1.length c1) (.i (.slice q2 l2.length c2) (.i (.slice q3 l3.length c3) (.i (.int .i64 m) .z)))) .a))))))))) ?_
      refine RZ (NT (RE ?_))
      refine NE [5, 3, 3, 1, 1] (.i (row 9 1 q1 l1.length c1 (strsC l1)) (.i (row 111 2 q2 l2.length c2 (List.flatMap shC l2)) (.i (star (List.flatMap shRows l2)) (.d (.k (.k .z)))))) (.k (.d (.d (.d (.d (.d (.k .a))))))) [8, 8, 8, 8] (.tuple #[.agg #[.slice q1 l1.length c1, .slice q2 l2.length c2, .slice q3 l3.length c3, .int .i64 m], .int .i64 0]) ?_
      exact ⟨⟨q1, c1, l1, q2, c2, l2, q3, c3, l3, m⟩, hP, hok, rfl, rfl⟩
end Go.Proofs.YtgcfomhlgipllaaGreatDoor
namespace Go.Proofs.YtgcfomhlgipllaaGreatDoor
open Go Go.Sx
theorem light_spec (c : CoV) (hc : c.ok) : Does Tryz.prog 14 [.agg (coC c).toArray] (coHp c) (fun r hp' => ∃ b, r = .bool b ∧ hp' = []) := by
  obtain ⟨hs1, hs2, hh1, hh2, hu1, hu2, hm⟩ := hc
  rw [show coC c = [.slice c.sa c.strs.length c.sc, .slice c.ha c.shapes.length c.hc, .slice c.ua c.units.length c.uc, .int .i64 c.main] from rfl]
  unfold coHp
  refine fn_enter Tryz.func14 rfl 46 rfl fun w0 h0 => ?_
  refine SQ (RG ?_)
  refine RP [] (.d .a) 1 .z .a 26 [.slice c.sa c.strs.length c.sc, .slice c.ha c.shapes.length c.hc, .slice c.ua c.units.length c.uc, .int .i64 c.main] fun g1 => ?_
  refine RR [] .z (.i 2 (.bool false) .a) .a ?_
  refine RZ (NT (SQ (RG ?_)))
  refine RV true [5, 5, 5] .z (.i 3 (.int .i64 ((↑c.strs.length : Int) + (↑c.shapes.length : Int) + (↑c.units.length : Int))) .a) .a ([inI64 ((↑c.strs.length : Int) + (↑c.shapes.length : Int)), inI64 ((↑c.strs.length : Int) + (↑c.shapes.length : Int) + (↑c.units.length : Int))]) ⟨by unfold inI64; omega, by unfold inI64; omega, trivial⟩ ?_
  refine RZ (NT (SQ (SQ (RG ?_))))
  refine RR [] .z (.i 4 (.int .i64 0) .a) .a ?_
  refine RZ (NT (BK ?_))
  obtain ⟨n0, hn0, hn1⟩ : ∃ n0 : Int, (c.strs.length : Int) + c.shapes.length + c.units.length = n0 ∧ 0 ≤ n0 ∧ n0 ≤ 6300000 := ⟨c.strs.length + c.shapes.length + c.units.length, rfl, by omega, by omega⟩
  rw [hn0]
  refine wpc_loop (X := {x : Nat × Int // x.1 ≤ c.units.length ∧ 0 ≤ x.2 ∧ x.2 ≤ 6300000}) (fun x => St.mk [(4, .int .i64 (x.1.1 : Int)), (3, .int .i64 x.1.2), (2, .bool false), (1, .pointer (some ⟨g1, 0, none⟩))] [ro c.ua (c.units.flatMap unC), gUn c.units, .blk g1 26 [.slice c.sa c.strs.length c.sc, .slice c.ha c.shapes.length c.hc, .slice c.ua c.units.length c.uc, .int .i64 c.main]]) (fun x => c.units.length - x.1.1) ⟨(0, n0), Nat.zero_le _, hn1⟩ (Ent.trans (ent_hp [3, 3, 3] rfl) (ent_fr (by kernel_rfl))) ?_
  rintro ⟨⟨i, n⟩, hi, hn⟩
  dsimp only at hi hn ⊢
  by_cases hlt : i < c.units.length ∧ n < 3000
  · obtain ⟨hlt, h5⟩ := hlt
    obtain ⟨-, -, -, -, x1, x2, -, -⟩ := hu2 _ (List.getElem_mem hlt)
    refine wpc_fact (fun w h => ro_addr h 0 rfl (by rw [uns_len]; omega)) ?_
    rintro ⟨g0, o0, hca⟩
    rw [hca]
    refine SQ (SQ (RG ?_))
    refine RR [2] (.d (.d (.d (.d (.d (.d .a)))))) (.i 21 (.bool (decide ((↑i : Int) < (↑c.units.length : Int)))) .a) .a ?_
    refine SR 21 (decide ((↑i : Int) < (↑c.units.length : Int))) true (decide_eq_true (by omega)) ?_
    refine RR [] .z (.i 24 (.bool (decide (n < (3000 : Int)))) (.d (.d (.k .a)))) .a ?_
    refine RZ (NT ?_)
    refine SC 24 (decide (n < (3000 : Int))) true (decide_eq_true (by omega)) ?_
    refine CT (SK (NT (SQ (BK ?_))))
    refine wpc_draw (by kernel_rfl) [ro (some ⟨g0, o0, none⟩) (List.flatMap unC c.units), .blk g1 26 [.slice c.sa c.strs.length c.sc, .slice c.ha c.shapes.length c.hc, .slice (some ⟨g0, o0, none⟩) c.units.length c.uc, .int .i64 c.main]] (sub_of [0, 2] (by kernel_rfl)) 18 (by kernel_rfl) ?_
    refine wpa_take true [(0, []), (1, []), (2, [1]), (3, []), (4, []), (5, []), (9, []), (10, [1]), (11, []), (12, []), (13, [])] ([(40, .pointer (some ⟨g0, o0 + i * 7 + 6, none⟩)), (32, .pointer (some ⟨g0, o0 + i * 7 + 5, none⟩)), (27, .int .i64 n), (4, .int .i64 (↑i : Int)), (3, .int .i64 n), (2, .bool false), (1, .pointer (some ⟨g1, 0, none⟩))]) (#[true, true, true, true, true, true, false, false, false, true, true, true, true, true, false, false, false, false]) [(0 : Int) ≤ (↑i : Int) ∧ (↑i : Int) < (↑c.units.length : Int), (0 : Int) ≤ (↑i : Int) ∧ (↑i : Int) < (↑c.units.length : Int)] (n := 7) (by kernel_rfl) (by kernel_rfl) (by kernel_rfl) ⟨by omega, by omega, trivial⟩ ?_
    refine wpa_qld (i := 6) (n := 6) (by kernel_rfl) (by kernel_rfl) (by kernel_rfl) (t := 56) (a := ⟨g0, o0 + i * 7 + 5, none⟩) (dst := some 33) (by kernel_rfl) false 1 (by kernel_rfl) (by simp) [.slice c.units[i].ia c.units[i].ins.length c.units[i].ic] rfl (fun w h => ld_roL h 0 rfl (i * 7 + 5) (uns_fld hlt 5 1 (by decide))) ?_
    refine wpa_qld (i := 14) (n := 5) (by kernel_rfl) (by kernel_rfl) (by kernel_rfl) (t := 57) (a := ⟨g0, o0 + i * 7 + 6, none⟩) (dst := some 41) (by kernel_rfl) false 1 (by kernel_rfl) (by simp) [.slice c.units[i].va c.units[i].vars.length c.units[i].vc] rfl (fun w h => ld_roL h 0 rfl (i * 7 + 6) (uns_fld hlt 6 1 (by decide))) ?_
    refine wpa_take true [(7, []), (8, []), (15, []), (16, []), (17, [])] ([(3, .int .i64 (n + (↑c.units[i].ins.length : Int) + (↑c.units[i].vars.length : Int))), (4, .int .i64 (↑i : Int)), (2, .bool false), (1, .pointer (some ⟨g1, 0, none⟩))]) (#[true, true, true, true, true, true, true, true, true, true, true, true, true, true, true, true, true, true]) ([inI64 (n + (↑c.units[i].ins.length : Int)), inI64 (n + (↑c.units[i].ins.length : Int) + (↑c.units[i].vars.length : Int))]) (n := 0) (by kernel_rfl) (by kernel_rfl) (by kernel_rfl) ⟨by unfold inI64; omega, by unfold inI64; omega, trivial⟩ ?_
    refine wpa_done 0 (by kernel_rfl) ?_
    refine BN (NT (RG ?_))
    refine RV true [] .z (.i 4 (.int .i64 ((↑i : Int) + 1)) (.k (.d (.k .a)))) .a ([inI64 ((↑i : Int) + (1 : Int))]) ⟨by unfold inI64; omega, trivial⟩ ?_
    refine RZ ?_
    rw [← hca]
    exact fun a' w' hS' => ⟨⟨(i + 1, n + c.units[i].ins.length + c.units[i].vars.length), hlt, by dsimp only; omega, by dsimp only; omega⟩, by dsimp only; omega, ent_fr (by kernel_rfl) _ _ (ent_hp [0, 0, 0] rfl _ _ hS')⟩
  · refine SQ (SQ (RG ?_))
    refine RR [2] (.d (.d (.d (.d (.d (.d .a)))))) (.i 21 (.bool (decide ((↑i : Int) < (↑c.units.length : Int)))) .a) .a ?_
    refine wpr_join ⟨[(24, .bool false), (4, (.int .i64 (↑i : Int))), (3, (.int .i64 n)), (2, (.bool false)), (1, (.pointer (some ⟨g1, 0, none⟩)))], [ro c.ua (List.flatMap unC c.units), gUn c.units, .blk g1 26 [.slice c.sa c.strs.length c.sc, .slice c.ha c.shapes.length c.hc, .slice c.ua c.units.length c.uc, .int .i64 c.main]]⟩ (fun Q1 hQ1 hk => ?_) ?_
    · by_cases h : i < c.units.length
      · have h5 : ¬ n < 3000 := fun h5 => hlt ⟨h, h5⟩
        refine SR 21 (decide ((↑i : Int) < (↑c.units.length : Int))) true (decide_eq_true (by omega)) ?_
        refine RR [] .z (.i 24 (.bool (decide (n < (3000 : Int)))) (.d (.d (.k .a)))) .a ?_
        refine RZ ?_
        rw [decide_eq_false h5]
        exact nx_ent (ent_hp [0, 0, 0] rfl) (nx_ent (ent_fr (by kernel_rfl)) hk)
      · refine SR 21 (decide ((↑i : Int) < (↑c.units.length : Int))) false (decide_eq_false (by omega)) ?_
        refine RR [] .z (.i 24 (.bool false) (.d (.d (.k .a)))) .a ?_
        refine RZ ?_
        exact nx_ent (ent_hp [0, 0, 0] rfl) (nx_ent (ent_fr (by kernel_rfl)) hk)
    · refine NT (CF (EX (TE (TE (BH (NT (SQ (RG ?_))))))))
      refine RR [] .z (.i 2 (.bool (decide (n < (3000 : Int)))) .z) .a ?_
      refine RZ (NT (RE ?_))
      refine NE [] .z .a [] (.bool (decide (n < 3000))) ?_
      exact ⟨_, rfl, rfl⟩
/-! ### the example -/
def exU (gi : Nat) (I : List InP) : UnV := ⟨[109, 97, 105, 110], 0, 0, 1, false, some ⟨gi, 0, none⟩, 4, I, none, 0, []⟩
def exCo (gi gu : Nat) (I : List InP) : CoV := ⟨none, 0, [], none, 0, [], some ⟨gu, 0, none⟩, 1, [exU gi I], 0⟩
def exI : List InP := [(0, 1), (1, 2), (34, 1), (23, 0)]
def baI : List InP := [(0, 1), (1, 2), (6, 1), (23, 0)]
def exUP (I : List InP) : UnitP := ⟨[109, 97, 105, 110], 0, 0, 1, false, I, []⟩
def exP (I : List InP) : CodeP := ⟨[], [], [exUP I], 0⟩
theorem z64 : i64r 0 := ⟨by decide, by decide⟩
theorem o64 : i64r 1 := ⟨by decide, by decide⟩
theorem exCo_p (gi gu : Nat) (I : List InP) : (exCo gi gu I).p = exP I := rfl
theorem exCo_ok (gi gu : Nat) (I : List InP) (hl : I.length = 4) (h : ∀ x ∈ I, InP.ok x) : (exCo gi gu I).ok := by
  refine ⟨Nat.zero_le _, fun x hx => (List.not_mem_nil hx).elim, Nat.zero_le _, fun x hx => (List.not_mem_nil hx).elim, (by show 1 ≤ 1048576; omega), fun x hx => ?_, z64⟩
  rw [List.mem_singleton.1 hx]
  exact ⟨(by show 4 ≤ 1048576; omega), z64, z64, o64, (by show I.length ≤ 1048576; omega), Nat.zero_le _, h, fun v hv => (List.not_mem_nil hv).elim⟩
theorem exI_ok : ∀ x ∈ exI, InP.ok x := by
  intro x hx
  simp only [exI, List.mem_cons, List.not_mem_nil, or_false] at hx
  rcases hx with rfl | rfl | rfl | rfl <;> exact ⟨⟨by decide, by decide⟩, ⟨by decide, by decide⟩⟩
theorem baI_ok : ∀ x ∈ baI, InP.ok x := by
  intro x hx
  simp only [baI, List.mem_cons, List.not_mem_nil, or_false] at hx
  rcases hx with rfl | rfl | rfl | rfl <;> exact ⟨⟨by decide, by decide⟩, ⟨by decide, by decide⟩⟩
theorem ba_form : formB (exP baI) = false := by decide +kernel
theorem ba_right : rightC (exP baI) = false := by unfold rightC; rw [ba_form]; rfl
theorem ex_form : formB (exP exI) = true := by decide +kernel
def exG : Gr := gr (exP exI) (exUP exI)
theorem ex_rinv : RInv exG [0, 0, 1, 0] := by
  have r0 : Reach exG 0 0 := .zero
  have r1 : Reach exG 1 0 := Reach.step (j := 1) r0 (by decide +kernel)
  have r2 : Reach exG 2 1 := Reach.step (j := 2) r1 (by decide +kernel)
  have r3 : Reach exG 3 0 := Reach.step (j := 3) r2 (by decide +kernel)
  refine ⟨rfl, fun k hk h0 => ?_, fun k hk h0 => ?_, rfl⟩
  · have hk : k < 4 := hk
    obtain rfl | rfl | rfl | rfl : k = 0 ∨ k = 1 ∨ k = 2 ∨ k = 3 := by omega
    · exact r0
    · exact r1
    · exact r2
    · exact r3
  · have hk : k < 4 := hk
    obtain rfl | rfl | rfl | rfl : k = 0 ∨ k = 1 ∨ k = 2 ∨ k = 3 := by omega
    · exact absurd (show (0 : Int) ≤ 0 by decide) h0
    · exact absurd (show (0 : Int) ≤ 0 by decide) h0
    · exact absurd (show (0 : Int) ≤ 1 by decide) h0
    · exact absurd (show (0 : Int) ≤ 0 by decide) h0
theorem ex_shut : ∀ k, k < [0, 0, 1, 0].length → Shut exG ([0, 0, 1, 0] : List Int) k := fun k hk v hv h0 => by
  have hk : k < 4 := hk
  obtain rfl | rfl | rfl | rfl : k = 0 ∨ k = 1 ∨ k = 2 ∨ k = 3 := by omega
  all_goals (cases hv; exact ⟨by decide +kernel, by decide +kernel⟩)
theorem ex_fine : fineB exG = true := fineB_t (rinv_fine ex_rinv ex_shut)
theorem ex_hts : htsL exG = [0, 0, 1, 0] := (rinv_hts ex_rinv ex_shut).symm
theorem ex_right : rightC (exP exI) = true := by
  unfold rightC
  rw [ex_form, Bool.true_and]
  show (fineB exG && true) = true
  rw [ex_fine]; rfl
def exL : List Tx := [[102, 110, 32, 109, 97, 105, 110], [48, 32, 109, 97, 114, 107, 32, 49], [49, 32, 105, 110, 116, 32, 50], [50, 32, 112, 114, 105, 110, 116, 32, 49], [51, 32, 114, 101, 116, 117, 114, 110, 32, 48]]
theorem ex_list : listC (exP exI) = exL := by
  have d : ∀ n, n < 10 → Lib.decDigits n = [UInt8.ofNat (48 + n)] := fun n h => by rw [Lib.decDigits, dif_pos h]
  simp [listC, listU, lineI, exP, exUP, exI, exL, bareB, opName, opNames, Lib.itoa, d, List.range_succ]
end Go.Proofs.YtgcfomhlgipllaaGreatDoor
namespace Go.Proofs.YtgcfomhlgipllaaGreatDoor
open Go Go.Sx
theorem rtexts_spec (la : Option Addr) (lc : Nat) (l : List Tx) (hl : l.length ≤ 1048576) (ht : ∀ t ∈ l, okText t) (hB : (encTs l).length ≤ 549755813888) :
    Does Tryz.prog 104 [.slice la l.length lc] [ro la (strsC l)] (fun r hp' => r = .string (mkS (encTs l)) ∧ hp' = []) := by
  have hEl := encR_l encT l
  have hB : (encR encT l).length ≤ 549755813888 := hB
  refine fn_enter Tryz.func104 rfl 22 rfl fun w0 h0 => ?_
  refine SQ (RG ?_)
  refine RR [] .z (.i 2 (.string ⟨#[]⟩) .a) .a ?_
  refine RZ (NT (SQ (RG ?_)))
  refine RR [] (.d (.d .a)) (.i 6 (.int .i64 (↑l.length : Int)) .a) .a ?_
  refine RC (dst := some 7) [] .a (RInt_spec l.length (by omega) (by omega)) ?_
  rintro r _ ⟨rfl, rfl⟩
  obtain ⟨b0, hb0⟩ : ∃ b0, b0 = encI l.length := ⟨_, rfl⟩
  rw [← hb0] at hEl ⊢
  refine RR [] .z (.i 3 (.string (mkS b0)) (.d (.d (.k .a)))) .a ?_
  refine RZ (NT (SQ (SQ (RG ?_))))
  refine RR [] .z (.i 4 (.int .i64 0) .a) .a ?_
  refine RZ (NT (BK ?_))
  refine wpc_loop (X := {i : Nat // i ≤ l.length}) (fun x => St.mk [(4, .int .i64 (x.1 : Int)), (3, .string (mkS (b0 ++ (l.take x.1).flatMap encT))), (2, .string ⟨#[]⟩), (0, .slice la l.length lc)] [ro la (strsC l)]) (fun x => l.length - x.1) ⟨0, Nat.zero_le _⟩ ?_ ?_
  · show Ent _ _ (St.mk [_, (3, .string (mkS (b0 ++ []))), _, _] _)
    rw [List.append_nil]
    exact ent_fr (by kernel_rfl)
  rintro ⟨i, hi⟩
  dsimp only at hi ⊢
  by_cases hlt : i < l.length
  · have hme := flat_take_le encT hlt
    have hti := ht _ (List.getElem_mem hlt)
    unfold okText at hti
    obtain ⟨b2, hb2⟩ : ∃ b2, b2 = b0 ++ (l.take i).flatMap encT := ⟨_, rfl⟩
    have hbl : b2.length = b0.length + ((l.take i).flatMap encT).length := by rw [hb2, List.length_append]
    rw [← hb2]
    refine wpc_fact (fun w h => ro_addr h 0 rfl (by rw [strsC_len]; omega)) ?_
    rintro ⟨g0, o0, rfl⟩
    refine SQ (SQ (RG ?_))
    refine RR [] .z (.i 11 (.bool (decide ((↑i : Int) < (↑l.length : Int)))) .a) .a ?_
    refine RZ (NT ?_)
    refine SC 11 (decide ((↑i : Int) < (↑l.length : Int))) true (decide_eq_true (by omega)) ?_
    refine CT (SK (NT (SQ (BK (RG ?_)))))
    refine RV true [] (.d (.d (.d (.d .a)))) (.i 17 (.pointer (some ⟨g0, o0 + i * 1, none⟩)) (.i 14 (.string (mkS b2)) (.d (.d (.k .a))))) .a [(0 : Int) ≤ (↑i : Int) ∧ (↑i : Int) < (↑l.length : Int)] ⟨by omega, trivial⟩ ?_
    refine wpr_eq (ld (t := 9) (a := ⟨g0, o0 + i * 1, none⟩) (dst := some 18) (by kernel_rfl) false 1 (by kernel_rfl) (by simp) [.string (mkS l[i])] rfl (fun w h => ld_ro h 0 rfl (i * 1) (strs_at hlt))) ?_
    refine RC (dst := some 19) [] .a (RText_spec l[i] (by omega)) ?_
    rintro r _ ⟨rfl, rfl⟩
    refine RV true [] .z (.i 3 (.string (mkS (b2 ++ encT l[i]))) (.d (.d (.d (.d (.k (.d (.k .a)))))))) .a ([b2.length + (encT l[i]).length ≤ (9223372036854775807 : Nat)]) ⟨by omega, trivial⟩ ?_
    refine RZ (BN (NT (RG ?_)))
    refine RV true [] .z (.i 4 (.int .i64 ((↑i : Int) + 1)) (.k (.d (.k .a)))) .a ([inI64 ((↑i : Int) + (1 : Int))]) ⟨by unfold inI64; omega, trivial⟩ ?_
    refine RZ ?_
    rw [show b2 ++ encT l[i] = b0 ++ (l.take (i + 1)).flatMap encT from by rw [hb2, flat_take_succ encT hlt, List.append_assoc]]
    exact fun a' w' hS' => ⟨⟨i + 1, hlt⟩, by dsimp only; omega, ent_fr (by kernel_rfl) _ _ (ent_hp [0] rfl _ _ hS')⟩
  · obtain rfl : i = l.length := by omega
    refine SQ (SQ (RG ?_))
    refine RR [] .z (.i 11 (.bool (decide ((↑l.length : Int) < (↑l.length : Int)))) .a) .a ?_
    refine RZ (NT ?_)
    refine SC 11 (decide ((↑l.length : Int) < (↑l.length : Int))) false (by simp) ?_
    refine CF (EX (TE (TE (BH (NT (SQ (RG ?_)))))))
    refine RR [] .z (.i 2 (.string (mkS (b0 ++ List.flatMap encT (List.take l.length l)))) .z) .a ?_
    refine RZ (NT (RE ?_))
    refine NE [] .z .a [] (.string (mkS (b0 ++ List.flatMap encT (List.take l.length l)))) ?_
    exact ⟨by rw [List.take_length, hb0]; rfl, rfl⟩
set_option maxHeartbeats 16000000 in
theorem rput_spec (c : CoV) (hc : c.ok) (hB : (encCo c.p).length ≤ 549755813888) : Does Tryz.prog 50 [.agg (coC c).toArray] (coHp c) (fun r hp' => r = .string (mkS (encCo c.p)) ∧ hp' = []) := by
  obtain ⟨hs1, hs2, hh1, hh2, hu1, hu2, hm0, hm1⟩ := id hc
  have hCo : coC c = [.slice c.sa c.strs.length c.sc, .slice c.ha c.shapes.length c.hc, .slice c.ua c.units.length c.uc, .int .i64 c.main] := rfl
  rw [hCo]
  unfold coHp
  have hE0 : (encCo c.p).length = (encTs c.strs).length + (encR encSh (c.shapes.map ShV.p)).length + (encR encU (c.units.map UnV.p)).length + (encI c.main).length := by
    unfold encCo CoV.p; simp only [List.length_append]
  have hE1 := encR_l encSh (c.shapes.map ShV.p)
  have hE2 := encR_l encU (c.units.map UnV.p)
  rw [List.length_map] at hE1 hE2
  refine fn_enter Tryz.func50 rfl 150 rfl fun w0 h0 => ?_
  refine SQ (RG ?_)
  refine RP [] (.d .a) 1 .z .a 26 [.slice c.sa c.strs.length c.sc, .slice c.ha c.shapes.length c.hc, .slice c.ua c.units.length c.uc, .int .i64 c.main] fun g1 => ?_
  refine RR [] .z (.i 2 (.string ⟨#[]⟩) .a) .a ?_
  refine RZ (NT (SQ ?_))
  refine wpc_draw (by kernel_rfl) [ro c.sa (strsC c.strs), ro c.ha (List.flatMap shC c.shapes), .blk g1 26 [.slice c.sa c.strs.length c.sc, .slice c.ha c.shapes.length c.hc, .slice c.ua c.units.length c.uc, .int .i64 c.main]] (sub_of [0, 1, 5] (by kernel_rfl)) 9 (by kernel_rfl) ?_
  refine TK 4 [(0, []), (1, [2]), (3, []), (4, [2]), (5, [])] (.i 15 (.int .i64 (↑c.shapes.length : Int)) (.i 11 (.slice c.sa c.strs.length c.sc) .a)) (#[true, true, false, true, true, true, false, false, false]) ?_
  refine AC (dst := some 12) 3 2 .a (rtexts_spec c.sa c.sc c.strs hs1 hs2 (by omega)) (GV (GI []) 0 view_ro) [0, 1, 5] ?_
  rintro r _ ⟨rfl, rfl⟩
  refine AC (dst := some 16) 2 6 .a (RInt_spec c.shapes.length (by omega) (by omega)) (GI []) [0, 1, 5] ?_
  rintro r _ ⟨rfl, rfl⟩
  refine wpa_take true [(7, []), (8, [])] ([(3, .string (mkS (encTs c.strs ++ encI (↑c.shapes.length : Int)))), (2, .string ⟨#[]⟩), (1, .pointer (some ⟨g1, 0, none⟩))]) (#[true, true, true, true, true, true, true, true, true]) ([(encTs c.strs).length + (encI (↑c.shapes.length : Int)).length ≤ (9223372036854775807 : Nat)]) (n := 0) (by kernel_rfl) (by kernel_rfl) (by kernel_rfl) ⟨by omega, trivial⟩ ?_
  refine wpa_done 0 (by kernel_rfl) ?_
  refine NT (SQ (SQ (RG ?_)))
  refine RR [] .z (.i 4 (.int .i64 0) .a) .a ?_
  refine RZ (NT (BK ?_))
  obtain ⟨b1, hb1⟩ : ∃ b, b = encTs c.strs ++ encI c.shapes.length := ⟨_, rfl⟩
  have hbl1 : b1.length = (encTs c.strs).length + (encI c.shapes.length).length := by rw [hb1, List.length_append]
  rw [← hb1]
  refine wpc_loop (X := {i : Nat // i ≤ c.shapes.length}) (fun x => St.mk [(4, .int .i64 (x.1 : Int)), (3, .string (mkS (b1 ++ ((c.shapes.map ShV.p).take x.1).flatMap encSh))), (2, .string ⟨#[]⟩), (1, .pointer (some ⟨g1, 0, none⟩))] [ro c.ha (c.shapes.flatMap shC), gSh c.shapes, ro c.ua (c.units.flatMap unC), gUn c.units, .blk g1 26 [.slice c.sa c.strs.length c.sc, .slice c.ha c.shapes.length c.hc, .slice c.ua c.units.length c.uc, .int .i64 c.main]]) (fun x => c.shapes.length - x.1) ⟨0, Nat.zero_le _⟩ ?_ ?_
  · show Ent _ _ (St.mk [_, (3, .string (mkS (b1 ++ []))), _, _] _)
    rw [List.append_nil]
    exact Ent.trans (ent_hp [1, 1, 1, 1, 1] rfl) (ent_fr (by kernel_rfl))
  rintro ⟨i, hi⟩
  dsimp only at hi ⊢
  by_cases hlt : i < c.shapes.length
  · have hme := mp_take_le ShV.p encSh hlt
    obtain ⟨b2, hb2⟩ : ∃ b2, b2 = b1 ++ ((c.shapes.map ShV.p).take i).flatMap encSh := ⟨_, rfl⟩
    have hbl : b2.length = b1.length + (((c.shapes.map ShV.p).take i).flatMap encSh).length := by rw [hb2, List.length_append]
    have hxl : (encSh c.shapes[i].p).length = (encT c.shapes[i].name).length + (encTs c.shapes[i].fields).length := by unfold encSh ShV.p; rw [List.length_append]
    rw [← hb2]
    obtain ⟨x1, x2, x3⟩ := hh2 _ (List.getElem_mem hlt)
    unfold okText at x1
    refine wpc_fact (fun w h => ro_addr h 0 rfl (by rw [shs_len]; omega)) ?_
    rintro ⟨g0, o0, hha⟩
    rw [hha]
    refine SQ (SQ (RG ?_))
    refine RR [4] .z (.i 22 (.bool (decide ((↑i : Int) < (↑c.shapes.length : Int)))) .a) .a ?_
    refine RZ (NT ?_)
    refine SC 22 (decide ((↑i : Int) < (↑c.shapes.length : Int))) true (decide_eq_true (by omega)) ?_
    refine CT (SK (NT (SQ (BK ?_))))
    refine wpc_draw (by kernel_rfl) [ro (some ⟨g0, o0, none⟩) (List.flatMap shC c.shapes), .blk g1 26 [.slice c.sa c.strs.length c.sc, .slice (some ⟨g0, o0, none⟩) c.shapes.length c.hc, .slice c.ua c.units.length c.uc, .int .i64 c.main]] (sub_of [0, 4] (by kernel_rfl)) 18 (by kernel_rfl) ?_
    refine wpa_take true [(0, []), (1, []), (2, [1]), (3, []), (4, []), (5, []), (9, []), (10, [1]), (11, []), (12, []), (13, [])] ([(38, .pointer (some ⟨g0, o0 + i * 2 + 1, none⟩)), (30, .pointer (some ⟨g0, o0 + i * 2, none⟩)), (25, .string (mkS b2)), (4, .int .i64 (↑i : Int)), (3, .string (mkS b2)), (2, .string ⟨#[]⟩), (1, .pointer (some ⟨g1, 0, none⟩))]) (#[true, true, true, true, true, true, false, false, false, true, true, true, true, true, false, false, false, false]) [(0 : Int) ≤ (↑i : Int) ∧ (↑i : Int) < (↑c.shapes.length : Int), (0 : Int) ≤ (↑i : Int) ∧ (↑i : Int) < (↑c.shapes.length : Int)] (n := 7) (by kernel_rfl) (by kernel_rfl) (by kernel_rfl) ⟨by omega, by omega, trivial⟩ ?_
    refine wpa_qld (i := 6) (n := 6) (by kernel_rfl) (by kernel_rfl) (by kernel_rfl) (t := 9) (a := ⟨g0, o0 + i * 2, none⟩) (dst := some 31) (by kernel_rfl) false 1 (by kernel_rfl) (by simp) [.string (mkS c.shapes[i].name)] rfl (fun w h => ld_roL h 0 rfl (i * 2) (shs_fld hlt 0 1 (by decide))) ?_
    refine wpa_qld (i := 14) (n := 5) (by kernel_rfl) (by kernel_rfl) (by kernel_rfl) (t := 22) (a := ⟨g0, o0 + i * 2 + 1, none⟩) (dst := some 39) (by kernel_rfl) false 1 (by kernel_rfl) (by simp) [.slice c.shapes[i].fa c.shapes[i].fields.length c.shapes[i].fc] rfl (fun w h => ld_roL h 0 rfl (i * 2 + 1) (shs_fld hlt 1 1 (by decide))) ?_
    refine AC (dst := some 32) 4 7 .a (RText_spec c.shapes[i].name (by omega)) (GI []) [0, 4] ?_
    rintro r _ ⟨rfl, rfl⟩
    refine wpa_take true [(8, [])] ([(33, .string (mkS (b2 ++ encT c.shapes[i].name))), (39, .slice c.shapes[i].fa c.shapes[i].fields.length c.shapes[i].fc), (4, .int .i64 (↑i : Int)), (3, .string (mkS b2)), (2, .string ⟨#[]⟩), (1, .pointer (some ⟨g1, 0, none⟩))]) (#[true, true, true, true, true, true, true, true, true, true, true, true, true, true, true, false, false, false]) ([b2.length + (encT c.shapes[i].name).length ≤ (9223372036854775807 : Nat)]) (n := 3) (by kernel_rfl) (by kernel_rfl) (by kernel_rfl) ⟨by omega, trivial⟩ ?_
    refine wpa_ent (ent_copy 1 (ro c.shapes[i].fa (strsC c.shapes[i].fields)) rfl (fun h => h) (view_in (shRo_in hlt) view_ro)) ?_
    refine AC (dst := some 40) 2 15 .a (rtexts_spec c.shapes[i].fa c.shapes[i].fc c.shapes[i].fields x2 x3 (by omega)) (GV (GI []) 0 view_ro) [1, 5] ?_
    rintro r _ ⟨rfl, rfl⟩
    refine wpa_take true [(16, []), (17, [])] ([(3, .string (mkS (b2 ++ encT c.shapes[i].name ++ encTs c.shapes[i].fields))), (4, .int .i64 (↑i : Int)), (2, .string ⟨#[]⟩), (1, .pointer (some ⟨g1, 0, none⟩))]) (#[true, true, true, true, true, true, true, true, true, true, true, true, true, true, true, true, true, true]) ([(b2 ++ encT c.shapes[i].name).length + (encTs c.shapes[i].fields).length ≤ (9223372036854775807 : Nat)]) (n := 0) (by kernel_rfl) (by kernel_rfl) (by kernel_rfl) ⟨by simp only [List.length_append, List.length_cons, List.length_nil, show ∀ l : List UInt8, (ByteArray.mk l.toArray).size = l.length from fun _ => rfl]; omega, trivial⟩ ?_
    refine wpa_done 0 (by kernel_rfl) ?_
    refine BN (NT (RG ?_))
    refine RV true [] .z (.i 4 (.int .i64 ((↑i : Int) + 1)) (.k (.d (.k .a)))) .a ([inI64 ((↑i : Int) + (1 : Int))]) ⟨by unfold inI64; omega, trivial⟩ ?_
    refine RZ ?_
    rw [← hha, show b2 ++ encT c.shapes[i].name ++ encTs c.shapes[i].fields = b1 ++ ((c.shapes.map ShV.p).take (i + 1)).flatMap encSh from by rw [hb2, mp_take_succ ShV.p encSh hlt]; unfold encSh ShV.p; simp]
    exact fun a' w' hS' => ⟨⟨i + 1, hlt⟩, by dsimp only; omega, ent_fr (by kernel_rfl) _ _ (ent_hp [1, 1, 1, 1, 1] rfl _ _ hS')⟩
  obtain rfl : i = c.shapes.length := by omega
  rw [show (c.shapes.map ShV.p).take c.shapes.length = c.shapes.map ShV.p from List.take_of_length_le (by rw [List.length_map]; exact Nat.le_refl _)]
  obtain ⟨b2, hb2⟩ : ∃ b2, b2 = b1 ++ (c.shapes.map ShV.p).flatMap encSh := ⟨_, rfl⟩
  have hbl2 : b2.length = b1.length + ((c.shapes.map ShV.p).flatMap encSh).length := by rw [hb2, List.length_append]
  rw [← hb2]
  refine SQ (SQ (RG ?_))
  refine RR [4] .z (.i 22 (.bool (decide ((↑c.shapes.length : Int) < (↑c.shapes.length : Int)))) .a) .a ?_
  refine RZ (NT ?_)
  refine SC 22 (decide ((↑c.shapes.length : Int) < (↑c.shapes.length : Int))) false (by simp) ?_
  refine CF (EX (TE (TE (BH (NT (SQ (RG ?_)))))))
  refine RR [4] (.d (.d (.d (.d .a)))) (.i 45 (.int .i64 (↑c.units.length : Int)) (.i 42 (.string (mkS b2)) (.d (.d (.d (.k .a)))))) .a ?_
  refine RC (dst := some 46) [] .a (RInt_spec c.units.length (by omega) (by omega)) ?_
  rintro r _ ⟨rfl, rfl⟩
  refine RV true [] .z (.i 3 (.string (mkS (b2 ++ encI (↑c.units.length : Int)))) (.d (.d (.d (.d (.k .a)))))) .a ([b2.length + (encI (↑c.units.length : Int)).length ≤ (9223372036854775807 : Nat)]) ⟨by omega, trivial⟩ ?_
  refine RZ (NT (SQ (SQ (RG ?_))))
  refine RR [] .z (.i 5 (.int .i64 0) .a) .a ?_
  refine RZ (NT (BK ?_))
  obtain ⟨b3, hb3⟩ : ∃ b3, b3 = b2 ++ encI c.units.length := ⟨_, rfl⟩
  have hbl3 : b3.length = b2.length + (encI c.units.length).length := by rw [hb3, List.length_append]
  rw [← hb3]
  refine wpc_loop (X := {i : Nat // i ≤ c.units.length}) (fun x => St.mk [(5, .int .i64 (x.1 : Int)), (3, .string (mkS (b3 ++ ((c.units.map UnV.p).take x.1).flatMap encU))), (2, .string ⟨#[]⟩), (1, .pointer (some ⟨g1, 0, none⟩))] [ro c.ua (c.units.flatMap unC), gUn c.units, .blk g1 26 [.slice c.sa c.strs.length c.sc, .slice c.ha c.shapes.length c.hc, .slice c.ua c.units.length c.uc, .int .i64 c.main]]) (fun x => c.units.length - x.1) ⟨0, Nat.zero_le _⟩ ?_ ?_
  · show Ent _ _ (St.mk [_, (3, .string (mkS (b3 ++ []))), _, _] _)
    rw [List.append_nil]
    exact Ent.trans (ent_hp [2, 2, 2] rfl) (ent_fr (by kernel_rfl))
  rintro ⟨i, hi⟩
  dsimp only at hi ⊢
  by_cases hlt : i < c.units.length
  · have hme := mp_take_le UnV.p encU hlt
    obtain ⟨b4, hb4⟩ : ∃ b4, b4 = b3 ++ ((c.units.map UnV.p).take i).flatMap encU := ⟨_, rfl⟩
    have hbl4 : b4.length = b3.length + (((c.units.map UnV.p).take i).flatMap encU).length := by rw [hb4, List.length_append]
    obtain ⟨x1, ⟨p1, p2⟩, ⟨q1, q2⟩, ⟨k1, k2⟩, x5, x6, x7, x8⟩ := hu2 _ (List.getElem_mem hlt)
    unfold okText at x1
    have hxl : (encU c.units[i].p).length = (encT c.units[i].name).length + (encI c.units[i].params).length + (encI c.units[i].slots).length + (encI c.units[i].stack).length + (encB c.units[i].result).length + (encR encIn c.units[i].ins).length + (encR encVr c.units[i].vars).length := by unfold encU UnV.p; simp only [List.length_append]
    have hxi := encR_l encIn c.units[i].ins
    have hxv := encR_l encVr c.units[i].vars
    have hb1' : (encB c.units[i].result).length = 1 := rfl
    rw [← hb4]
    refine wpc_fact (fun w h => ro_addr h 0 rfl (by rw [uns_len]; omega)) ?_
    rintro ⟨g0, o0, hua⟩
    rw [hua]
    refine SQ (SQ (RG ?_))
    refine RR [2] .z (.i 52 (.bool (decide ((↑i : Int) < (↑c.units.length : Int)))) .a) .a ?_
    refine RZ (NT ?_)
    refine SC 52 (decide ((↑i : Int) < (↑c.units.length : Int))) true (decide_eq_true (by omega)) ?_
    refine CT (SK (NT (SQ (BK (SQ (RG ?_))))))
    refine RV true [2] (.d (.d (.d (.d .a)))) (.i 58 (.pointer (some ⟨g0, o0 + i * 7, none⟩)) (.d (.d (.k .a)))) .a [(0 : Int) ≤ (↑i : Int) ∧ (↑i : Int) < (↑c.units.length : Int)] ⟨by omega, trivial⟩ ?_
    refine wpr_eq (ld (t := 59) (a := ⟨g0, o0 + i * 7, none⟩) (dst := some 59) (by kernel_rfl) true 7 (by kernel_rfl) (by simp) (unC c.units[i]) rfl (fun w h => ld_ro h 0 rfl (i * 7) (uns_at hlt))) ?_
    refine RP [] (.d .a) 6 (.i 59 (.agg #[.string (mkS c.units[i].name), .int .i64 c.units[i].params, .int .i64 c.units[i].slots, .int .i64 c.units[i].stack, .bool c.units[i].result, .slice c.units[i].ia c.units[i].ins.length c.units[i].ic, .slice c.units[i].va c.units[i].vars.length c.units[i].vc]) (.d (.d (.k .a)))) .a 59 [.string ⟨#[]⟩, .int .i64 0, .int .i64 0, .int .i64 0, .bool false, .slice none 0 0, .slice none 0 0] fun g2 => ?_
    refine RR [3, 3, 3, 3, 3, 3, 3] .z (.k (.d (.k .a))) (.k (.k (.k (.u (.i (.string (mkS c.units[i].name)) (.i (.int .i64 c.units[i].params) (.i (.int .i64 c.units[i].slots) (.i (.int .i64 c.units[i].stack) (.i (.bool c.units[i].result) (.i (.slice c.units[i].ia c.units[i].ins.length c.units[i].ic) (.i (.slice c.units[i].va c.units[i].vars.length c.units[i].vc) .z))))))) .a)))) ?_
    refine RZ (NT (SQ ?_))
    refine wpc_draw (by kernel_rfl) [.blk g2 59 [.string (mkS c.units[i].name), .int .i64 c.units[i].params, .int .i64 c.units[i].slots, .int .i64 c.units[i].stack, .bool c.units[i].result, .slice c.units[i].ia c.units[i].ins.length c.units[i].ic, .slice c.units[i].va c.units[i].vars.length c.units[i].vc]] (sub_of [3] (by kernel_rfl)) 27 (by kernel_rfl) ?_
    refine TK 13 [(0, []), (1, []), (2, [0]), (5, []), (6, [0]), (9, []), (10, [0]), (13, []), (14, [0]), (17, []), (18, [0]), (21, []), (22, [0]), (23, [])] (.i 83 (.int .i64 (↑c.units[i].ins.length : Int)) (.i 78 (.bool c.units[i].result) (.i 74 (.int .i64 c.units[i].stack) (.i 70 (.int .i64 c.units[i].slots) (.i 66 (.int .i64 c.units[i].params) (.i 62 (.string (mkS c.units[i].name)) (.i 60 (.string (mkS b4)) .a))))))) (#[true, true, true, false, false, true, true, false, false, true, true, false, false, true, true, false, false, true, true, false, false, true, true, true, false, false, false]) ?_
    refine AC (dst := some 63) 12 3 .a (RText_spec c.units[i].name (by omega)) (GI []) [3] ?_
    rintro r _ ⟨rfl, rfl⟩
    refine wpa_take true [(4, [])] ([(64, .string (mkS (b4 ++ encT c.units[i].name))), (83, .int .i64 (↑c.units[i].ins.length : Int)), (78, .bool c.units[i].result), (74, .int .i64 c.units[i].stack), (70, .int .i64 c.units[i].slots), (66, .int .i64 c.units[i].params), (6, .pointer (some ⟨g2, 0, none⟩)), (5, .int .i64 (↑i : Int)), (3, .string (mkS b4)), (2, .string ⟨#[]⟩), (1, .pointer (some ⟨g1, 0, none⟩))]) (#[true, true, true, true, true, true, true, false, false, true, true, false, false, true, true, false, false, true, true, false, false, true, true, true, false, false, false]) ([b4.length + (encT c.units[i].name).length ≤ (9223372036854775807 : Nat)]) (n := 11) (by kernel_rfl) (by kernel_rfl) (by kernel_rfl) ⟨by omega, trivial⟩ ?_
    refine AC (dst := some 67) 10 7 .a (RInt_spec c.units[i].params p1 p2) (GI []) [3] ?_
    rintro r _ ⟨rfl, rfl⟩
    refine wpa_take true [(8, [])] ([(68, .string (mkS (b4 ++ encT c.units[i].name ++ encI c.units[i].params))), (83, .int .i64 (↑c.units[i].ins.length : Int)), (78, .bool c.units[i].result), (74, .int .i64 c.units[i].stack), (70, .int .i64 c.units[i].slots), (6, .pointer (some ⟨g2, 0, none⟩)), (5, .int .i64 (↑i : Int)), (3, .string (mkS b4)), (2, .string ⟨#[]⟩), (1, .pointer (some ⟨g1, 0, none⟩))]) (#[true, true, true, true, true, true, true, true, true, true, true, false, false, true, true, false, false, true, true, false, false, true, true, true, false, false, false]) ([(b4 ++ encT c.units[i].name).length + (encI c.units[i].params).length ≤ (9223372036854775807 : Nat)]) (n := 9) (by kernel_rfl) (by kernel_rfl) (by kernel_rfl) ⟨by simp only [List.length_append, List.length_cons, List.length_nil, show ∀ l : List UInt8, (ByteArray.mk l.toArray).size = l.length from fun _ => rfl]; omega, trivial⟩ ?_
    refine AC (dst := some 71) 8 11 .a (RInt_spec c.units[i].slots q1 q2) (GI []) [3] ?_
    rintro r _ ⟨rfl, rfl⟩
    refine wpa_take true [(12, [])] ([(72, .string (mkS (b4 ++ encT c.units[i].name ++ encI c.units[i].params ++ encI c.units[i].slots))), (83, .int .i64 (↑c.units[i].ins.length : Int)), (78, .bool c.units[i].result), (74, .int .i64 c.units[i].stack), (6, .pointer (some ⟨g2, 0, none⟩)), (5, .int .i64 (↑i : Int)), (3, .string (mkS b4)), (2, .string ⟨#[]⟩), (1, .pointer (some ⟨g1, 0, none⟩))]) (#[true, true, true, true, true, true, true, true, true, true, true, true, true, true, true, false, false, true, true, false, false, true, true, true, false, false, false]) ([(b4 ++ encT c.units[i].name ++ encI c.units[i].params).length + (encI c.units[i].slots).length ≤ (9223372036854775807 : Nat)]) (n := 7) (by kernel_rfl) (by kernel_rfl) (by kernel_rfl) ⟨by simp only [List.length_append, List.length_cons, List.length_nil, show ∀ l : List UInt8, (ByteArray.mk l.toArray).size = l.length from fun _ => rfl]; omega, trivial⟩ ?_
    refine AC (dst := some 75) 6 15 .a (RInt_spec c.units[i].stack k1 k2) (GI []) [3] ?_
    rintro r _ ⟨rfl, rfl⟩
    refine wpa_take true [(16, [])] ([(76, .string (mkS (b4 ++ encT c.units[i].name ++ encI c.units[i].params ++ encI c.units[i].slots ++ encI c.units[i].stack))), (83, .int .i64 (↑c.units[i].ins.length : Int)), (78, .bool c.units[i].result), (6, .pointer (some ⟨g2, 0, none⟩)), (5, .int .i64 (↑i : Int)), (3, .string (mkS b4)), (2, .string ⟨#[]⟩), (1, .pointer (some ⟨g1, 0, none⟩))]) (#[true, true, true, true, true, true, true, true, true, true, true, true, true, true, true, true, true, true, true, false, false, true, true, true, false, false, false]) ([(b4 ++ encT c.units[i].name ++ encI c.units[i].params ++ encI c.units[i].slots).length + (encI c.units[i].stack).length ≤ (9223372036854775807 : Nat)]) (n := 5) (by kernel_rfl) (by kernel_rfl) (by kernel_rfl) ⟨by simp only [List.length_append, List.length_cons, List.length_nil, show ∀ l : List UInt8, (ByteArray.mk l.toArray).size = l.length from fun _ => rfl]; omega, trivial⟩ ?_
    refine AC (dst := some 79) 4 19 .a (RBool_spec c.units[i].result) (GI []) [3] ?_
    rintro r _ ⟨rfl, rfl⟩
    refine wpa_take true [(20, [])] ([(80, .string (mkS (b4 ++ encT c.units[i].name ++ encI c.units[i].params ++ encI c.units[i].slots ++ encI c.units[i].stack ++ encB c.units[i].result))), (83, .int .i64 (↑c.units[i].ins.length : Int)), (6, .pointer (some ⟨g2, 0, none⟩)), (5, .int .i64 (↑i : Int)), (3, .string (mkS b4)), (2, .string ⟨#[]⟩), (1, .pointer (some ⟨g1, 0, none⟩))]) (#[true, true, true, true, true, true, true, true, true, true, true, true, true, true, true, true, true, true, true, true, true, true, true, true, false, false, false]) ([(b4 ++ encT c.units[i].name ++ encI c.units[i].params ++ encI c.units[i].slots ++ encI c.units[i].stack).length + (encB c.units[i].result).length ≤ (9223372036854775807 : Nat)]) (n := 3) (by kernel_rfl) (by kernel_rfl) (by kernel_rfl) ⟨by simp only [List.length_append, List.length_cons, List.length_nil, show ∀ l : List UInt8, (ByteArray.mk l.toArray).size = l.length from fun _ => rfl]; omega, trivial⟩ ?_
    refine AC (dst := some 84) 2 24 .a (RInt_spec c.units[i].ins.length (by omega) (by omega)) (GI []) [3] ?_
    rintro r _ ⟨rfl, rfl⟩
    refine wpa_take true [(25, []), (26, [])] ([(3, .string (mkS (b4 ++ encT c.units[i].name ++ encI c.units[i].params ++ encI c.units[i].slots ++ encI c.units[i].stack ++ encB c.units[i].result ++ encI (↑c.units[i].ins.length : Int)))), (6, .pointer (some ⟨g2, 0, none⟩)), (5, .int .i64 (↑i : Int)), (2, .string ⟨#[]⟩), (1, .pointer (some ⟨g1, 0, none⟩))]) (#[true, true, true, true, true, true, true, true, true, true, true, true, true, true, true, true, true, true, true, true, true, true, true, true, true, true, true]) ([(b4 ++ encT c.units[i].name ++ encI c.units[i].params ++ encI c.units[i].slots ++ encI c.units[i].stack ++ encB c.units[i].result).length + (encI (↑c.units[i].ins.length : Int)).length ≤ (9223372036854775807 : Nat)]) (n := 0) (by kernel_rfl) (by kernel_rfl) (by kernel_rfl) ⟨by simp only [List.length_append, List.length_cons, List.length_nil, show ∀ l : List UInt8, (ByteArray.mk l.toArray).size = l.length from fun _ => rfl]; omega, trivial⟩ ?_
    refine wpa_done 0 (by kernel_rfl) ?_
    refine NT (SQ (SQ (RG ?_)))
    refine RR [] .z (.i 7 (.int .i64 0) .a) .a ?_
    refine RZ (NT (BK ?_))
    obtain ⟨b6, hb6⟩ : ∃ b, b = b4 ++ encT c.units[i].name ++ encI c.units[i].params ++ encI c.units[i].slots ++ encI c.units[i].stack ++ encB c.units[i].result ++ encI c.units[i].ins.length := ⟨_, rfl⟩
    have hbl6 : b6.length = b4.length + (encT c.units[i].name).length + (encI c.units[i].params).length + (encI c.units[i].slots).length + (encI c.units[i].stack).length + 1 + (encI c.units[i].ins.length).length := by rw [hb6]; simp only [List.length_append, hb1']
    rw [← hb6]
    refine wpc_ent (ent_copy 1 (ro c.units[i].ia (c.units[i].ins.flatMap insC)) rfl (fun h => h) (view_in (unRo_in1 hlt) view_ro)) ?_
    refine wpc_ent (ent_copy 2 (ro c.units[i].va (c.units[i].vars.flatMap varC)) rfl (fun h => h) (view_in (unRo_in2 hlt) view_ro)) ?_
    refine wpc_loop (X := {m : Nat // m ≤ c.units[i].ins.length}) (fun x => St.mk [(7, .int .i64 (x.1 : Int)), (6, .pointer (some ⟨g2, 0, none⟩)), (5, .int .i64 (i : Int)), (3, .string (mkS (b6 ++ (c.units[i].ins.take x.1).flatMap encIn))), (2, .string ⟨#[]⟩), (1, .pointer (some ⟨g1, 0, none⟩))] [ro (some ⟨g0, o0, none⟩) (c.units.flatMap unC), gUn c.units, ro c.units[i].ia (c.units[i].ins.flatMap insC), ro c.units[i].va (c.units[i].vars.flatMap varC), .blk g1 26 [.slice c.sa c.strs.length c.sc, .slice c.ha c.shapes.length c.hc, .slice (some ⟨g0, o0, none⟩) c.units.length c.uc, .int .i64 c.main], .blk g2 59 [.string (mkS c.units[i].name), .int .i64 c.units[i].params, .int .i64 c.units[i].slots, .int .i64 c.units[i].stack, .bool c.units[i].result, .slice c.units[i].ia c.units[i].ins.length c.units[i].ic, .slice c.units[i].va c.units[i].vars.length c.units[i].vc]]) (fun x => c.units[i].ins.length - x.1) ⟨0, Nat.zero_le _⟩ ?_ ?_
    · show Ent _ _ (St.mk [_, _, _, (3, .string (mkS (b6 ++ []))), _, _] _)
      rw [List.append_nil]
      exact Ent.trans (ent_hp [2, 2, 1, 0, 0, 0] rfl) (ent_fr (by kernel_rfl))
    rintro ⟨m, hm⟩
    dsimp only at hm ⊢
    by_cases hmt : m < c.units[i].ins.length
    · have hme2 := flat_take_le encIn hmt
      obtain ⟨b7, hb7⟩ : ∃ b, b = b6 ++ (c.units[i].ins.take m).flatMap encIn := ⟨_, rfl⟩
      have hbl7 : b7.length = b6.length + ((c.units[i].ins.take m).flatMap encIn).length := by rw [hb7, List.length_append]
      rw [← hb7]
      obtain ⟨⟨y1, y2⟩, y3, y4⟩ := x7 _ (List.getElem_mem hmt)
      have e2 : (encIn c.units[i].ins[m]).length = (encI c.units[i].ins[m].1).length + (encI c.units[i].ins[m].2).length := by unfold encIn; rw [List.length_append]
      refine wpc_fact (fun w h => ro_addr h 2 rfl (by rw [ins_len]; omega)) ?_
      rintro ⟨g5, o5, hia⟩
      rw [hia]
      refine SQ (SQ (RG ?_))
      refine RR [5] .z (.i 90 (.bool (decide ((↑m : Int) < (↑c.units[i].ins.length : Int)))) .a) .a ?_
      refine RZ (NT ?_)
      refine SC 90 (decide ((↑m : Int) < (↑c.units[i].ins.length : Int))) true (decide_eq_true (by omega)) ?_
      refine CT (SK (NT (SQ (BK ?_))))
      refine wpc_draw (by kernel_rfl) [ro (some ⟨g5, o5, none⟩) (List.flatMap insC c.units[i].ins), .blk g2 59 [.string (mkS c.units[i].name), .int .i64 c.units[i].params, .int .i64 c.units[i].slots, .int .i64 c.units[i].stack, .bool c.units[i].result, .slice (some ⟨g5, o5, none⟩) c.units[i].ins.length c.units[i].ic, .slice c.units[i].va c.units[i].vars.length c.units[i].vc]] (sub_of [2, 5] (by kernel_rfl)) 18 (by kernel_rfl) ?_
      refine wpa_take true [(0, []), (1, []), (2, [1]), (3, []), (4, []), (5, []), (9, []), (10, [1]), (11, []), (12, []), (13, [])] ([(106, .pointer (some ⟨g5, o5 + m * 2 + 1, none⟩)), (98, .pointer (some ⟨g5, o5 + m * 2, none⟩)), (93, .string (mkS b7)), (7, .int .i64 (↑m : Int)), (6, .pointer (some ⟨g2, 0, none⟩)), (5, .int .i64 (↑i : Int)), (3, .string (mkS b7)), (2, .string ⟨#[]⟩), (1, .pointer (some ⟨g1, 0, none⟩))]) (#[true, true, true, true, true, true, false, false, false, true, true, true, true, true, false, false, false, false]) [(0 : Int) ≤ (↑m : Int) ∧ (↑m : Int) < (↑c.units[i].ins.length : Int), (0 : Int) ≤ (↑m : Int) ∧ (↑m : Int) < (↑c.units[i].ins.length : Int)] (n := 7) (by kernel_rfl) (by kernel_rfl) (by kernel_rfl) ⟨by omega, by omega, trivial⟩ ?_
      refine wpa_qld (i := 6) (n := 6) (by kernel_rfl) (by kernel_rfl) (by kernel_rfl) (t := 60) (a := ⟨g5, o5 + m * 2, none⟩) (dst := some 99) (by kernel_rfl) false 1 (by kernel_rfl) (by simp) [.int .i64 c.units[i].ins[m].1] rfl (fun w h => ld_roL h 0 rfl (m * 2) (ins_fld hmt 0 1 (by decide))) ?_
      refine wpa_qld (i := 14) (n := 5) (by kernel_rfl) (by kernel_rfl) (by kernel_rfl) (t := 3) (a := ⟨g5, o5 + m * 2 + 1, none⟩) (dst := some 107) (by kernel_rfl) false 1 (by kernel_rfl) (by simp) [.int .i64 c.units[i].ins[m].2] rfl (fun w h => ld_roL h 0 rfl (m * 2 + 1) (ins_fld hmt 1 1 (by decide))) ?_
      refine AC (dst := some 100) 4 7 .a (RInt_spec c.units[i].ins[m].1 y1 y2) (GI []) [2, 5] ?_
      rintro r _ ⟨rfl, rfl⟩
      refine wpa_take true [(8, [])] ([(101, .string (mkS (b7 ++ encI c.units[i].ins[m].fst))), (107, .int .i64 c.units[i].ins[m].snd), (7, .int .i64 (↑m : Int)), (6, .pointer (some ⟨g2, 0, none⟩)), (5, .int .i64 (↑i : Int)), (3, .string (mkS b7)), (2, .string ⟨#[]⟩), (1, .pointer (some ⟨g1, 0, none⟩))]) (#[true, true, true, true, true, true, true, true, true, true, true, true, true, true, true, false, false, false]) ([b7.length + (encI c.units[i].ins[m].fst).length ≤ (9223372036854775807 : Nat)]) (n := 3) (by kernel_rfl) (by kernel_rfl) (by kernel_rfl) ⟨by omega, trivial⟩ ?_
      refine AC (dst := some 108) 2 15 .a (RInt_spec c.units[i].ins[m].2 y3 y4) (GI []) [2, 5] ?_
      rintro r _ ⟨rfl, rfl⟩
      refine wpa_take true [(16, []), (17, [])] ([(3, .string (mkS (b7 ++ encI c.units[i].ins[m].fst ++ encI c.units[i].ins[m].snd))), (7, .int .i64 (↑m : Int)), (6, .pointer (some ⟨g2, 0, none⟩)), (5, .int .i64 (↑i : Int)), (2, .string ⟨#[]⟩), (1, .pointer (some ⟨g1, 0, none⟩))]) (#[true, true, true, true, true, true, true, true, true, true, true, true, true, true, true, true, true, true]) ([(b7 ++ encI c.units[i].ins[m].fst).length + (encI c.units[i].ins[m].snd).length ≤ (9223372036854775807 : Nat)]) (n := 0) (by kernel_rfl) (by kernel_rfl) (by kernel_rfl) ⟨by simp only [List.length_append, List.length_cons, List.length_nil, show ∀ l : List UInt8, (ByteArray.mk l.toArray).size = l.length from fun _ => rfl]; omega, trivial⟩ ?_
      refine wpa_done 0 (by kernel_rfl) ?_
      refine BN (NT (RG ?_))
      refine RV true [] .z (.i 7 (.int .i64 ((↑m : Int) + 1)) (.k (.d (.k .a)))) .a ([inI64 ((↑m : Int) + (1 : Int))]) ⟨by unfold inI64; omega, trivial⟩ ?_
      refine RZ ?_
      rw [← hia, show b7 ++ encI c.units[i].ins[m].1 ++ encI c.units[i].ins[m].2 = b6 ++ (c.units[i].ins.take (m + 1)).flatMap encIn from by rw [hb7, flat_take_succ encIn hmt]; unfold encIn; simp]
      exact fun a' w' hS' => ⟨⟨m + 1, hmt⟩, by dsimp only; omega, ent_fr (by kernel_rfl) _ _ (ent_hp [0, 0, 0, 0, 0, 0] rfl _ _ hS')⟩
    obtain rfl : m = c.units[i].ins.length := by omega
    rw [List.take_length]
    obtain ⟨b7, hb7⟩ : ∃ b, b = b6 ++ c.units[i].ins.flatMap encIn := ⟨_, rfl⟩
    have hbl7 : b7.length = b6.length + (c.units[i].ins.flatMap encIn).length := by rw [hb7, List.length_append]
    rw [← hb7]
    refine SQ (SQ (RG ?_))
    refine RR [5] .z (.i 90 (.bool (decide ((↑c.units[i].ins.length : Int) < (↑c.units[i].ins.length : Int)))) .a) .a ?_
    refine RZ (NT ?_)
    refine SC 90 (decide ((↑c.units[i].ins.length : Int) < (↑c.units[i].ins.length : Int))) false (by simp) ?_
    refine CF (EX (TE (TE (BH (NT (SQ (RG ?_)))))))
    refine RR [5] (.d (.d (.d (.d .a)))) (.i 113 (.int .i64 (↑c.units[i].vars.length : Int)) (.i 110 (.string (mkS b7)) (.d (.d (.d (.k .a)))))) .a ?_
    refine RC (dst := some 114) [] .a (RInt_spec c.units[i].vars.length (by omega) (by omega)) ?_
    rintro r _ ⟨rfl, rfl⟩
    refine RV true [] .z (.i 3 (.string (mkS (b7 ++ encI (↑c.units[i].vars.length : Int)))) (.d (.d (.d (.k (.k (.d (.k .a)))))))) .a ([b7.length + (encI (↑c.units[i].vars.length : Int)).length ≤ (9223372036854775807 : Nat)]) ⟨by omega, trivial⟩ ?_
    refine RZ (NT (SQ (RG ?_)))
    refine RR [] .z (.i 8 (.int .i64 0) .a) .a ?_
    refine RZ (NT (BK ?_))
    obtain ⟨b8, hb8⟩ : ∃ b, b = b7 ++ encI c.units[i].vars.length := ⟨_, rfl⟩
    have hbl8 : b8.length = b7.length + (encI c.units[i].vars.length).length := by rw [hb8, List.length_append]
    rw [← hb8]
    refine wpc_loop (X := {m : Nat // m ≤ c.units[i].vars.length}) (fun x => St.mk [(8, .int .i64 (x.1 : Int)), (6, .pointer (some ⟨g2, 0, none⟩)), (5, .int .i64 (i : Int)), (3, .string (mkS (b8 ++ (c.units[i].vars.take x.1).flatMap encVr))), (2, .string ⟨#[]⟩), (1, .pointer (some ⟨g1, 0, none⟩))] [ro (some ⟨g0, o0, none⟩) (c.units.flatMap unC), gUn c.units, ro c.units[i].va (c.units[i].vars.flatMap varC), .blk g1 26 [.slice c.sa c.strs.length c.sc, .slice c.ha c.shapes.length c.hc, .slice (some ⟨g0, o0, none⟩) c.units.length c.uc, .int .i64 c.main], .blk g2 59 [.string (mkS c.units[i].name), .int .i64 c.units[i].params, .int .i64 c.units[i].slots, .int .i64 c.units[i].stack, .bool c.units[i].result, .slice c.units[i].ia c.units[i].ins.length c.units[i].ic, .slice c.units[i].va c.units[i].vars.length c.units[i].vc]]) (fun x => c.units[i].vars.length - x.1) ⟨0, Nat.zero_le _⟩ ?_ ?_
    · show Ent _ _ (St.mk [_, _, _, (3, .string (mkS (b8 ++ []))), _, _] _)
      rw [List.append_nil]
      exact Ent.trans (ent_hp [0, 0, 1, 1, 1] rfl) (ent_fr (by kernel_rfl))
    rintro ⟨m, hm⟩
    dsimp only at hm ⊢
    by_cases hmt : m < c.units[i].vars.length
    · have hme2 := flat_take_le encVr hmt
      obtain ⟨b9, hb9⟩ : ∃ b, b = b8 ++ (c.units[i].vars.take m).flatMap encVr := ⟨_, rfl⟩
      have hbl9 : b9.length = b8.length + ((c.units[i].vars.take m).flatMap encVr).length := by rw [hb9, List.length_append]
      rw [← hb9]
      obtain ⟨y1, ⟨y2, y3⟩, ⟨y4, y5⟩, y6, y7⟩ := x8 _ (List.getElem_mem hmt)
      unfold okText at y1
      have e5 : (encVr c.units[i].vars[m]).length = (encT c.units[i].vars[m].name).length + (encI c.units[i].vars[m].slot).length + (encI c.units[i].vars[m].fr).length + (encI c.units[i].vars[m].to).length := by unfold encVr; simp only [List.length_append]
      refine wpc_fact (fun w h => ro_addr h 2 rfl (by rw [vars_len]; omega)) ?_
      rintro ⟨g5, o5, hia⟩
      rw [hia]
      refine SQ (SQ (RG ?_))
      refine RR [4] .z (.i 120 (.bool (decide ((↑m : Int) < (↑c.units[i].vars.length : Int)))) .a) .a ?_
      refine RZ (NT ?_)
      refine SC 120 (decide ((↑m : Int) < (↑c.units[i].vars.length : Int))) true (decide_eq_true (by omega)) ?_
      refine CT (SK (NT (SQ (BK (SQ (RG ?_))))))
      refine RV true [4] (.d (.d (.d (.d .a)))) (.i 126 (.pointer (some ⟨g5, o5 + m * 4, none⟩)) (.d (.d (.k .a)))) .a [(0 : Int) ≤ (↑m : Int) ∧ (↑m : Int) < (↑c.units[i].vars.length : Int)] ⟨by omega, trivial⟩ ?_
      refine wpr_eq (ld (t := 116) (a := ⟨g5, o5 + m * 4, none⟩) (dst := some 127) (by kernel_rfl) true 4 (by kernel_rfl) (by simp) (varC c.units[i].vars[m]) rfl (fun w h => ld_ro h 2 rfl (m * 4) (vars_at hmt))) ?_
      refine RP [] (.d .a) 9 (.i 127 (.agg #[.string (mkS c.units[i].vars[m].name), .int .i64 c.units[i].vars[m].slot, .int .i64 c.units[i].vars[m].fr, .int .i64 c.units[i].vars[m].to]) (.d (.d (.k .a)))) .a 116 [.string ⟨#[]⟩, .int .i64 0, .int .i64 0, .int .i64 0] fun g3 => ?_
      refine RR [5, 5, 5, 5] .z (.k (.d (.k .a))) (.k (.k (.k (.k (.k (.u (.i (.string (mkS c.units[i].vars[m].name)) (.i (.int .i64 c.units[i].vars[m].slot) (.i (.int .i64 c.units[i].vars[m].fr) (.i (.int .i64 c.units[i].vars[m].to) .z)))) .a)))))) ?_
      refine RZ (NT ?_)
      refine wpc_draw (by kernel_rfl) [.blk g3 116 [.string (mkS c.units[i].vars[m].name), .int .i64 c.units[i].vars[m].slot, .int .i64 c.units[i].vars[m].fr, .int .i64 c.units[i].vars[m].to]] (sub_of [5] (by kernel_rfl)) 18 (by kernel_rfl) ?_
      refine TK 9 [(0, []), (1, []), (2, [0]), (5, []), (6, [0]), (9, []), (10, [0]), (13, []), (14, [0])] (.i 142 (.int .i64 c.units[i].vars[m].to) (.i 138 (.int .i64 c.units[i].vars[m].fr) (.i 134 (.int .i64 c.units[i].vars[m].slot) (.i 130 (.string (mkS c.units[i].vars[m].name)) (.i 128 (.string (mkS b9)) (.d (.k .a))))))) (#[true, true, true, false, false, true, true, false, false, true, true, false, false, true, true, false, false, false]) ?_
      refine AC (dst := some 131) 8 3 .a (RText_spec c.units[i].vars[m].name (by omega)) (GI []) [5] ?_
      rintro r _ ⟨rfl, rfl⟩
      refine wpa_take true [(4, [])] ([(132, .string (mkS (b9 ++ encT c.units[i].vars[m].name))), (142, .int .i64 c.units[i].vars[m].to), (138, .int .i64 c.units[i].vars[m].fr), (134, .int .i64 c.units[i].vars[m].slot), (8, .int .i64 (↑m : Int)), (6, .pointer (some ⟨g2, 0, none⟩)), (5, .int .i64 (↑i : Int)), (3, .string (mkS b9)), (2, .string ⟨#[]⟩), (1, .pointer (some ⟨g1, 0, none⟩))]) (#[true, true, true, true, true, true, true, false, false, true, true, false, false, true, true, false, false, false]) ([b9.length + (encT c.units[i].vars[m].name).length ≤ (9223372036854775807 : Nat)]) (n := 7) (by kernel_rfl) (by kernel_rfl) (by kernel_rfl) ⟨by omega, trivial⟩ ?_
      refine AC (dst := some 135) 6 7 .a (RInt_spec c.units[i].vars[m].slot y2 y3) (GI []) [5] ?_
      rintro r _ ⟨rfl, rfl⟩
      refine wpa_take true [(8, [])] ([(136, .string (mkS (b9 ++ encT c.units[i].vars[m].name ++ encI c.units[i].vars[m].slot))), (142, .int .i64 c.units[i].vars[m].to), (138, .int .i64 c.units[i].vars[m].fr), (8, .int .i64 (↑m : Int)), (6, .pointer (some ⟨g2, 0, none⟩)), (5, .int .i64 (↑i : Int)), (3, .string (mkS b9)), (2, .string ⟨#[]⟩), (1, .pointer (some ⟨g1, 0, none⟩))]) (#[true, true, true, true, true, true, true, true, true, true, true, false, false, true, true, false, false, false]) ([(b9 ++ encT c.units[i].vars[m].name).length + (encI c.units[i].vars[m].slot).length ≤ (9223372036854775807 : Nat)]) (n := 5) (by kernel_rfl) (by kernel_rfl) (by kernel_rfl) ⟨by simp only [List.length_append, List.length_cons, List.length_nil, show ∀ l : List UInt8, (ByteArray.mk l.toArray).size = l.length from fun _ => rfl]; omega, trivial⟩ ?_
      refine AC (dst := some 139) 4 11 .a (RInt_spec c.units[i].vars[m].fr y4 y5) (GI []) [5] ?_
      rintro r _ ⟨rfl, rfl⟩
      refine wpa_take true [(12, [])] ([(140, .string (mkS (b9 ++ encT c.units[i].vars[m].name ++ encI c.units[i].vars[m].slot ++ encI c.units[i].vars[m].fr))), (142, .int .i64 c.units[i].vars[m].to), (8, .int .i64 (↑m : Int)), (6, .pointer (some ⟨g2, 0, none⟩)), (5, .int .i64 (↑i : Int)), (3, .string (mkS b9)), (2, .string ⟨#[]⟩), (1, .pointer (some ⟨g1, 0, none⟩))]) (#[true, true, true, true, true, true, true, true, true, true, true, true, true, true, true, false, false, false]) ([(b9 ++ encT c.units[i].vars[m].name ++ encI c.units[i].vars[m].slot).length + (encI c.units[i].vars[m].fr).length ≤ (9223372036854775807 : Nat)]) (n := 3) (by kernel_rfl) (by kernel_rfl) (by kernel_rfl) ⟨by simp only [List.length_append, List.length_cons, List.length_nil, show ∀ l : List UInt8, (ByteArray.mk l.toArray).size = l.length from fun _ => rfl]; omega, trivial⟩ ?_
      refine AC (dst := some 143) 2 15 .a (RInt_spec c.units[i].vars[m].to y6 y7) (GI []) [5] ?_
      rintro r _ ⟨rfl, rfl⟩
      refine wpa_take true [(16, []), (17, [])] ([(3, .string (mkS (b9 ++ encT c.units[i].vars[m].name ++ encI c.units[i].vars[m].slot ++ encI c.units[i].vars[m].fr ++ encI c.units[i].vars[m].to))), (8, .int .i64 (↑m : Int)), (6, .pointer (some ⟨g2, 0, none⟩)), (5, .int .i64 (↑i : Int)), (2, .string ⟨#[]⟩), (1, .pointer (some ⟨g1, 0, none⟩))]) (#[true, true, true, true, true, true, true, true, true, true, true, true, true, true, true, true, true, true]) ([(b9 ++ encT c.units[i].vars[m].name ++ encI c.units[i].vars[m].slot ++ encI c.units[i].vars[m].fr).length + (encI c.units[i].vars[m].to).length ≤ (9223372036854775807 : Nat)]) (n := 0) (by kernel_rfl) (by kernel_rfl) (by kernel_rfl) ⟨by simp only [List.length_append, List.length_cons, List.length_nil, show ∀ l : List UInt8, (ByteArray.mk l.toArray).size = l.length from fun _ => rfl]; omega, trivial⟩ ?_
      refine wpa_done 0 (by kernel_rfl) ?_
      refine BN (NT (RG ?_))
      refine RV true [] .z (.i 8 (.int .i64 ((↑m : Int) + 1)) (.k (.d (.k .a)))) .a ([inI64 ((↑m : Int) + (1 : Int))]) ⟨by unfold inI64; omega, trivial⟩ ?_
      refine RZ ?_
      rw [← hia, show b9 ++ encT c.units[i].vars[m].name ++ encI c.units[i].vars[m].slot ++ encI c.units[i].vars[m].fr ++ encI c.units[i].vars[m].to = b8 ++ (c.units[i].vars.take (m + 1)).flatMap encVr from by rw [hb9, flat_take_succ encVr hmt]; unfold encVr; simp]
      exact fun a' w' hS' => ⟨⟨m + 1, hmt⟩, by dsimp only; omega, ent_fr (by kernel_rfl) _ _ (ent_hp [0, 0, 0, 0, 0] rfl _ _ hS')⟩
    obtain rfl : m = c.units[i].vars.length := by omega
    rw [List.take_length]
    refine SQ (SQ (RG ?_))
    refine RR [4] .z (.i 120 (.bool (decide ((↑c.units[i].vars.length : Int) < (↑c.units[i].vars.length : Int)))) .a) .a ?_
    refine RZ (NT ?_)
    refine SC 120 (decide ((↑c.units[i].vars.length : Int) < (↑c.units[i].vars.length : Int))) false (by simp) ?_
    refine CF (EX (TE (TE (BH (BN (NT (RG ?_)))))))
    refine RV true [] .z (.i 5 (.int .i64 ((↑i : Int) + 1)) (.d (.d (.d (.d (.d (.k .a))))))) .a ([inI64 ((↑i : Int) + (1 : Int))]) ⟨by unfold inI64; omega, trivial⟩ ?_
    refine RZ ?_
    rw [← hua, show b8 ++ c.units[i].vars.flatMap encVr = b3 ++ ((c.units.map UnV.p).take (i + 1)).flatMap encU from by rw [hb8, hb7, hb6, hb4, mp_take_succ UnV.p encU hlt]; unfold encU encR UnV.p; simp]
    exact fun a' w' hS' => ⟨⟨i + 1, hlt⟩, by dsimp only; omega, ent_fr (by kernel_rfl) _ _ (ent_hp [0, 0, 1] rfl _ _ hS')⟩
  · obtain rfl : i = c.units.length := by omega
    rw [show (c.units.map UnV.p).take c.units.length = c.units.map UnV.p from List.take_of_length_le (by rw [List.length_map]; exact Nat.le_refl _)]
    obtain ⟨b4, hb4⟩ : ∃ b, b = b3 ++ (c.units.map UnV.p).flatMap encU := ⟨_, rfl⟩
    have hbl4 : b4.length = b3.length + ((c.units.map UnV.p).flatMap encU).length := by rw [hb4, List.length_append]
    rw [← hb4]
    refine SQ (SQ (RG ?_))
    refine RR [2] .z (.i 52 (.bool (decide ((↑c.units.length : Int) < (↑c.units.length : Int)))) .a) .a ?_
    refine RZ (NT ?_)
    refine SC 52 (decide ((↑c.units.length : Int) < (↑c.units.length : Int))) false (by simp) ?_
    refine CF (EX (TE (TE (BH (NT (SQ (RG ?_)))))))
    refine RR [2] (.d (.d (.d .a))) (.i 147 (.int .i64 c.main) (.i 145 (.string (mkS b4)) (.d (.d (.d (.d (.k .z))))))) .a ?_
    refine RC (dst := some 148) [] .a (RInt_spec c.main hm0 hm1) ?_
    rintro r _ ⟨rfl, rfl⟩
    refine RV true [] .z (.i 2 (.string (mkS (b4 ++ encI c.main))) .z) .a ([b4.length + (encI c.main).length ≤ (9223372036854775807 : Nat)]) ⟨by omega, trivial⟩ ?_
    refine RZ (NT (RE ?_))
    refine NE [] .z .a [] (.string (mkS (b4 ++ encI c.main))) ?_
    exact ⟨by rw [show b4 ++ encI c.main = encCo c.p from by rw [hb4, hb3, hb2, hb1]; unfold encCo encR CoV.p; simp], rfl⟩
theorem rSame_spec (c d : CoV) (hc : c.ok) (hd : d.ok) (hB : (encCo c.p).length ≤ 549755813888) (hD : (encCo d.p).length ≤ 549755813888) :
    Does Tryz.prog 28 [.agg (coC c).toArray, .agg (coC d).toArray] (coHp c ++ coHp d) (fun v hp' => v = .bool (decide (encCo c.p = encCo d.p)) ∧ hp' = []) := by
  have h1 := rput_spec c hc hB
  have h2 := rput_spec d hd hD
  rw [show coC c = [.slice c.sa c.strs.length c.sc, .slice c.ha c.shapes.length c.hc, .slice c.ua c.units.length c.uc, .int .i64 c.main] from rfl] at h1 ⊢
  rw [show coC d = [.slice d.sa d.strs.length d.sc, .slice d.ha d.shapes.length d.hc, .slice d.ua d.units.length d.uc, .int .i64 d.main] from rfl] at h2 ⊢
  unfold coHp at h1 h2 ⊢
  refine fn_enter Tryz.func28 rfl 10 rfl fun w0 h0 => ?_
  refine SQ (RG ?_)
  refine RP [] (.d .a) 2 (.d (.k .a)) .a 26 [.slice c.sa c.strs.length c.sc, .slice c.ha c.shapes.length c.hc, .slice c.ua c.units.length c.uc, .int .i64 c.main] fun g1 => ?_
  refine RP [] (.d .a) 3 (.k .z) .a 26 [.slice d.sa d.strs.length d.sc, .slice d.ha d.shapes.length d.hc, .slice d.ua d.units.length d.uc, .int .i64 d.main] fun g2 => ?_
  refine RR [] .z (.i 4 (.bool false) .a) .a ?_
  refine RZ (NT (SQ ?_))
  refine wpc_draw (by kernel_rfl) [.blk g1 26 [.slice c.sa c.strs.length c.sc, .slice c.ha c.shapes.length c.hc, .slice c.ua c.units.length c.uc, .int .i64 c.main], .blk g2 26 [.slice d.sa d.strs.length d.sc, .slice d.ha d.shapes.length d.hc, .slice d.ua d.units.length d.uc, .int .i64 d.main]] (sub_of [10, 11] (by kernel_rfl)) 6 (by kernel_rfl) ?_
  refine TK 4 [(0, [0, 0, 0, 0]), (2, [1, 1, 1, 1])] (.i 7 (.agg #[.slice d.sa d.strs.length d.sc, .slice d.ha d.shapes.length d.hc, .slice d.ua d.units.length d.uc, .int .i64 d.main]) (.i 5 (.agg #[.slice c.sa c.strs.length c.sc, .slice c.ha c.shapes.length c.hc, .slice c.ua c.units.length c.uc, .int .i64 c.main]) (.k .z))) (#[true, false, true, false, false, false]) ?_
  refine AC (dst := some 6) 3 1 .a (h1) (GV (GV (GV (GV (GV (GI []) 4 view_self) 3 view_ro) 2 view_self) 1 view_ro) 0 view_ro) [10, 11] ?_
  rintro v _ ⟨rfl, rfl⟩
  refine AC (dst := some 8) 2 3 .a (h2) (GV (GV (GV (GV (GV (GI []) 9 view_self) 8 view_ro) 7 view_self) 6 view_ro) 5 view_ro) [10, 11] ?_
  rintro v _ ⟨rfl, rfl⟩
  refine TK 0 [(4, []), (5, [])] (.i 4 (.bool (decide (encCo c.p = encCo d.p))) .z) (#[true, true, true, true, true, true]) ?_
  refine wpa_done 0 (by kernel_rfl) ?_
  refine NT (RE ?_)
  refine NE [] .z .a [] (.bool (decide (encCo c.p = encCo d.p))) ?_
  exact ⟨rfl, rfl⟩
end Go.Proofs.YtgcfomhlgipllaaGreatDoor
namespace Go.Proofs.YtgcfomhlgipllaaGreatDoor
open Go Go.Sx
theorem Does.ent {P : Program} {f : FuncId} {args : List Value} {pre pre' : Hp} {R R2 : Value → Hp → Prop} (h : Does P f args pre R) (e : ∀ Γ : Cx, Ent Γ ⟨[], pre'⟩ ⟨[], pre⟩)
    (k : ∀ v hp', R v hp' → ∃ hp2, R2 v hp2 ∧ (∀ Γ : Cx, Ent Γ ⟨[], hp'⟩ ⟨[], hp2⟩) ∧ ∀ c ∈ hp2, c.rw) : Does P f args pre' R2 := fun w hw => by
  have hS : Sat ⟨P, w, foot pre', 0, []⟩ ⟨[], pre'⟩ ⟨#[], []⟩ w := ⟨rfl, rfl, fun i v hi => (by cases hi), hw, Ext.refl _ _, Bd.self _ _⟩
  have h2 := e _ _ _ hS
  refine (h w h2.hs).mono ?_
  rintro e' w' ⟨v, hp', hR, rfl, h3, h4, h5, h6⟩
  obtain ⟨hp2, hR2, he2, hrw⟩ := k v hp' hR
  have hS' : Sat ⟨P, w, foot pre, 0, []⟩ ⟨[], hp'⟩ ⟨#[], []⟩ w' := ⟨rfl, rfl, fun i v hi => (by cases hi), h3, h4, h5⟩
  have h7 := he2 _ _ _ hS'
  have hsub : ∀ k, foot pre k → foot pre' k ∨ w.heap.size ≤ k := fun k ⟨c, hc, hcr, hk⟩ => h2.bd c hc hcr k hk
  refine ⟨v, hp2, hR2, rfl, h7.hs, ⟨h7.ext.os, h7.ext.tape, h7.ext.output, h7.ext.size, fun k hk hF => h7.ext.block k hk fun hF' => ?_⟩, fun c hc hcr k hk => ?_, hrw⟩
  · rcases hsub k hF' with h8 | h8
    · exact hF h8
    · omega
  · rcases h7.bd c hc hcr k hk with h8 | h8
    · exact hsub k h8
    · exact .inr h8
theorem ent_roz {Γ : Cx} {fr : Fr} {rest : Hp} : Ent Γ ⟨fr, rest⟩ ⟨fr, ro none ([] : List Value) :: rest⟩ := ent_ro (hp := []) (c' := ro none ([] : List Value)) (fun w h => ⟨fun u hu => (by cases hu), rfl⟩) (fun w h k hk => absurd rfl hk.2) (fun h => h)
theorem insL_one (I : List InP) : Sx.One (I.flatMap insC) := by
  intro v hv
  obtain ⟨x, _, hx⟩ := List.mem_flatMap.1 hv
  exact ins1 x v hx
theorem exEnt {Γ : Cx} {fr : Fr} {rest : Hp} (gi gu : Nat) (I : List InP) : Ent Γ ⟨fr, .blk gi 62 (I.flatMap insC) :: .blk gu 59 (unC (exU gi I)) :: rest⟩ ⟨fr, coHp (exCo gi gu I) ++ rest⟩ := by
  have e1 : Ent Γ ⟨fr, .blk gi 62 (I.flatMap insC) :: .blk gu 59 (unC (exU gi I)) :: rest⟩ ⟨fr, ro (some ⟨gi, 0, none⟩) (I.flatMap insC) :: .blk gu 59 (unC (exU gi I)) :: rest⟩ := ent_turn 0 _ rfl (turn_rblk (insL_one I)) rfl
  have e2 : Ent Γ ⟨fr, ro (some ⟨gi, 0, none⟩) (I.flatMap insC) :: .blk gu 59 (unC (exU gi I)) :: rest⟩ ⟨fr, ro (some ⟨gi, 0, none⟩) (I.flatMap insC) :: ro (some ⟨gu, 0, none⟩) (unC (exU gi I)) :: rest⟩ := ent_turn 1 _ rfl (turn_rblk (un1 _)) rfl
  have e3 : Ent Γ ⟨fr, ro (some ⟨gi, 0, none⟩) (I.flatMap insC) :: ro (some ⟨gu, 0, none⟩) (unC (exU gi I)) :: rest⟩ ⟨fr, ro none ([] : List Value) :: ro (some ⟨gi, 0, none⟩) (I.flatMap insC) :: ro (some ⟨gu, 0, none⟩) (unC (exU gi I)) :: rest⟩ := ent_roz
  have e4 : Ent Γ ⟨fr, ro none ([] : List Value) :: ro (some ⟨gi, 0, none⟩) (I.flatMap insC) :: ro (some ⟨gu, 0, none⟩) (unC (exU gi I)) :: rest⟩ ⟨fr, ro (some ⟨gi, 0, none⟩) (I.flatMap insC) :: ro none ([] : List Value) :: ro (some ⟨gu, 0, none⟩) (unC (exU gi I)) :: rest⟩ := ent_perm (List.Perm.swap _ _ _)
  have e5 : Ent Γ ⟨fr, ro (some ⟨gi, 0, none⟩) (I.flatMap insC) :: ro none ([] : List Value) :: ro (some ⟨gu, 0, none⟩) (unC (exU gi I)) :: rest⟩ ⟨fr, gUn [exU gi I] :: ro (some ⟨gu, 0, none⟩) (unC (exU gi I)) :: rest⟩ := ent_bag (hp := [ro (some ⟨gi, 0, none⟩) (I.flatMap insC), ro none ([] : List Value)])
  have e6 : Ent Γ ⟨fr, gUn [exU gi I] :: ro (some ⟨gu, 0, none⟩) (unC (exU gi I)) :: rest⟩ ⟨fr, ro (some ⟨gu, 0, none⟩) (unC (exU gi I)) :: gUn [exU gi I] :: rest⟩ := ent_perm (List.Perm.swap _ _ _)
  exact e1.trans (e2.trans (e3.trans (e4.trans (e5.trans (e6.trans (Ent.trans ent_bag_nil (Ent.trans ent_roz ent_roz)))))))
theorem example_spec : Does Tryz.prog 38 [] [] (fun v hp' => ∃ gi gu, v = .agg #[.slice none 0 0, .slice none 0 0, .slice (some ⟨gu, 0, none⟩) 1 1, .int .i64 0] ∧ hp' = [.blk gi 62 [.int .i64 0, .int .i64 1, .int .i64 1, .int .i64 2, .int .i64 34, .int .i64 1, .int .i64 23, .int .i64 0], .blk gu 59 [.string ⟨#[109, 97, 105, 110]⟩, .int .i64 0, .int .i64 0, .int .i64 1, .bool false, .slice (some ⟨gi, 0, none⟩) 4 4, .slice none 0 0]]) := by
  refine fn_enter Tryz.func38 rfl 9 rfl fun w0 h0 => ?_
  refine SQ (RG ?_)
  refine RP [] .z 0 .a .a 26 [.slice none 0 0, .slice none 0 0, .slice none 0 0, .int .i64 0] fun g1 => ?_
  refine RZ (NT (SQ (RG ?_)))
  refine RN [] (.d (.d (.d (.d (.d .a))))) 5 (fun g2 => (.slice (some ⟨g2, 0, none⟩) 4 4)) .a .a 62 [.int .i64 0, .int .i64 1, .int .i64 1, .int .i64 2, .int .i64 34, .int .i64 1, .int .i64 23, .int .i64 0] fun g2 => ?_
  refine RN [] (.d (.d .a)) 7 (fun g3 => (.slice (some ⟨g3, 0, none⟩) 1 1)) (.d (.k .a)) .a 59 [.string (ByteArray.mk #[109, 97, 105, 110]), .int .i64 0, .int .i64 0, .int .i64 1, .bool false, .slice (some ⟨g2, 0, none⟩) 4 4, .slice none 0 0] fun g3 => ?_
  refine RR [0, 0, 0, 0] .z (.d (.k .a)) (.u (.k (.k (.i (.slice (some ⟨g3, 0, none⟩) 1 1) (.d (.k .a))))) .a) ?_
  refine RZ (NT (RE ?_))
  refine NE [1, 1] (.d (.k .a)) (.k .z) [0, 0, 0, 0] (.agg #[.slice none 0 0, .slice none 0 0, .slice (some ⟨g3, 0, none⟩) 1 1, .int .i64 0]) ?_
  exact ⟨g2, g3, rfl, rfl⟩
theorem exHeights (gi gu : Nat) : Does Tryz.prog 16 [.agg #[.slice none 0 0, .slice none 0 0, .slice (some ⟨gu, 0, none⟩) 1 1, .int .i64 0], .int .i64 0] [.blk gi 62 [.int .i64 0, .int .i64 1, .int .i64 1, .int .i64 2, .int .i64 34, .int .i64 1, .int .i64 23, .int .i64 0], .blk gu 59 [.string ⟨#[109, 97, 105, 110]⟩, .int .i64 0, .int .i64 0, .int .i64 1, .bool false, .slice (some ⟨gi, 0, none⟩) 4 4, .slice none 0 0], gWords]
    (fun v hp' => ∃ a' c', v = .tuple #[.slice a' 4 c', .int .i64 0] ∧ hp' = [row 3 1 a' 4 c' (ints [0, 0, 1, 0])]) :=
  Does.ent (cHeights_spec (exCo gi gu exI) (exCo_ok gi gu exI rfl exI_ok) 0) (fun Γ => exEnt gi gu exI) (fun v hp' h => by
    rw [exCo_p, if_neg (by rw [ex_right]; decide), if_neg (by rw [show uptoB 0 ((exCo gi gu exI).units.length : Int) = true from rfl]; decide)] at h
    obtain ⟨k, hk, hk0, a', c', rfl, rfl⟩ := h
    have hk : k < 1 := hk
    obtain rfl : k = 0 := by omega
    have e : ∀ x : UnV, x = exU gi exI → htsL (gr (exP exI) x.p) = [0, 0, 1, 0] := fun x hx => by rw [hx]; exact ex_hts
    have e2 := e ((exCo gi gu exI).units[0]'hk) rfl
    refine ⟨_, ⟨a', c', ?_, rfl⟩, fun Γ a w h => ?_, fun c hc => by rw [List.mem_singleton.1 hc]; trivial⟩
    · exact congrArg (fun l : List Int => Value.tuple #[Value.slice a' l.length c', Value.int IntKind.i64 0]) e2
    · exact (congrArg (fun l : List Int => [row 3 1 a' l.length c' (ints l)]) e2) ▸ h)
theorem exList (gi gu : Nat) : Does Tryz.prog 23 [.agg #[.slice none 0 0, .slice none 0 0, .slice (some ⟨gu, 0, none⟩) 1 1, .int .i64 0]] [.blk gi 62 [.int .i64 0, .int .i64 1, .int .i64 1, .int .i64 2, .int .i64 34, .int .i64 1, .int .i64 23, .int .i64 0], .blk gu 59 [.string ⟨#[109, 97, 105, 110]⟩, .int .i64 0, .int .i64 0, .int .i64 1, .bool false, .slice (some ⟨gi, 0, none⟩) 4 4, .slice none 0 0], gWords, gPow, gNames]
    (fun v hp' => ∃ a' c', v = .tuple #[.slice a' 5 c', .int .i64 0] ∧ hp' = [row 9 1 a' 5 c' (strsC exL)]) :=
  Does.ent (cList_spec (exCo gi gu exI) (exCo_ok gi gu exI rfl exI_ok)) (fun Γ => exEnt gi gu exI) (fun v hp' h => by
    rw [exCo_p, if_pos ex_right, ex_list] at h
    obtain ⟨a', c', rfl, rfl⟩ := h
    exact ⟨_, ⟨a', c', rfl, rfl⟩, fun Γ a w h => h, fun c hc => by rw [List.mem_singleton.1 hc]; trivial⟩)
theorem ex_n : nCo (exP exI) := exCo_p 0 0 exI ▸ right_n (exCo_ok 0 0 exI rfl exI_ok) (by rw [exCo_p]; exact ex_right)
theorem exBytes (gi gu : Nat) : Does Tryz.prog 21 [.agg #[.slice none 0 0, .slice none 0 0, .slice (some ⟨gu, 0, none⟩) 1 1, .int .i64 0]] [.blk gi 62 [.int .i64 0, .int .i64 1, .int .i64 1, .int .i64 2, .int .i64 34, .int .i64 1, .int .i64 23, .int .i64 0], .blk gu 59 [.string ⟨#[109, 97, 105, 110]⟩, .int .i64 0, .int .i64 0, .int .i64 1, .bool false, .slice (some ⟨gi, 0, none⟩) 4 4, .slice none 0 0], gWords]
    (fun v hp' => ∃ a' c', v = .tuple #[.slice a' (encCo (exP exI)).length c', .int .i64 0] ∧ hp' = [row 5 1 a' (encCo (exP exI)).length c' (u8s (encCo (exP exI)))]) :=
  Does.ent (cBytes_spec (exCo gi gu exI) (exCo_ok gi gu exI rfl exI_ok)) (fun Γ => exEnt gi gu exI) (fun v hp' h => by
    rw [exCo_p, if_pos ex_right] at h
    obtain ⟨a', c', rfl, rfl⟩ := h
    exact ⟨_, ⟨a', c', rfl, rfl⟩, fun Γ a w h => h, fun c hc => by rw [List.mem_singleton.1 hc]; trivial⟩)
theorem exCheck (gi gu : Nat) : Does Tryz.prog 18 [.agg #[.slice none 0 0, .slice none 0 0, .slice (some ⟨gu, 0, none⟩) 1 1, .int .i64 0]] [.blk gi 62 [.int .i64 0, .int .i64 1, .int .i64 1, .int .i64 2, .int .i64 34, .int .i64 1, .int .i64 23, .int .i64 0], .blk gu 59 [.string ⟨#[109, 97, 105, 110]⟩, .int .i64 0, .int .i64 0, .int .i64 1, .bool false, .slice (some ⟨gi, 0, none⟩) 4 4, .slice none 0 0], gWords] (fun v hp' => v = .int .i64 0 ∧ hp' = []) :=
  Does.ent (ccheck_spec (exCo gi gu exI) (exCo_ok gi gu exI rfl exI_ok)) (fun Γ => exEnt gi gu exI) (fun v hp' h => by
    rw [exCo_p, if_pos ex_right] at h
    obtain ⟨rfl, rfl⟩ := h
    exact ⟨_, ⟨rfl, rfl⟩, fun Γ a w h => h, fun c hc => by cases hc⟩)
theorem baCheck (gi gu : Nat) : Does Tryz.prog 18 [.agg #[.slice none 0 0, .slice none 0 0, .slice (some ⟨gu, 0, none⟩) 1 1, .int .i64 0]] [.blk gi 62 [.int .i64 0, .int .i64 1, .int .i64 1, .int .i64 2, .int .i64 6, .int .i64 1, .int .i64 23, .int .i64 0], .blk gu 59 [.string ⟨#[109, 97, 105, 110]⟩, .int .i64 0, .int .i64 0, .int .i64 1, .bool false, .slice (some ⟨gi, 0, none⟩) 4 4, .slice none 0 0], gWords] (fun v hp' => v = .int .i64 2 ∧ hp' = []) :=
  Does.ent (ccheck_spec (exCo gi gu baI) (exCo_ok gi gu baI rfl baI_ok)) (fun Γ => exEnt gi gu baI) (fun v hp' h => by
    rw [exCo_p, if_neg (by rw [ba_right]; decide)] at h
    obtain ⟨rfl, rfl⟩ := h
    exact ⟨_, ⟨rfl, rfl⟩, fun Γ a w h => h, fun c hc => by cases hc⟩)
theorem ex_encl : (encCo (exP exI)).length ≤ 549755813888 := by
  have := encCo_l ex_n (right_head ex_right)
  omega
theorem exSame (s : CoV) (hs : s.ok) (he : s.p = exP exI) (gi gu : Nat) : Does Tryz.prog 28 [.agg #[.slice s.sa s.strs.length s.sc, .slice s.ha s.shapes.length s.hc, .slice s.ua s.units.length s.uc, .int .i64 s.main], .agg #[.slice none 0 0, .slice none 0 0, .slice (some ⟨gu, 0, none⟩) 1 1, .int .i64 0]]
    [ro s.sa (strsC s.strs), ro s.ha (s.shapes.flatMap shC), gSh s.shapes, ro s.ua (s.units.flatMap unC), gUn s.units, .blk gi 62 [.int .i64 0, .int .i64 1, .int .i64 1, .int .i64 2, .int .i64 34, .int .i64 1, .int .i64 23, .int .i64 0], .blk gu 59 [.string ⟨#[109, 97, 105, 110]⟩, .int .i64 0, .int .i64 0, .int .i64 1, .bool false, .slice (some ⟨gi, 0, none⟩) 4 4, .slice none 0 0]] (fun v hp' => v = .bool true ∧ hp' = []) :=
  Does.ent (rSame_spec s (exCo gi gu exI) hs (exCo_ok gi gu exI rfl exI_ok) (by rw [he]; exact ex_encl) (by rw [exCo_p]; exact ex_encl)) (fun Γ => by
    have p1 : Ent Γ ⟨[], coHp s ++ [.blk gi 62 [.int .i64 0, .int .i64 1, .int .i64 1, .int .i64 2, .int .i64 34, .int .i64 1, .int .i64 23, .int .i64 0], .blk gu 59 [.string ⟨#[109, 97, 105, 110]⟩, .int .i64 0, .int .i64 0, .int .i64 1, .bool false, .slice (some ⟨gi, 0, none⟩) 4 4, .slice none 0 0]]⟩ ⟨[], [.blk gi 62 [.int .i64 0, .int .i64 1, .int .i64 1, .int .i64 2, .int .i64 34, .int .i64 1, .int .i64 23, .int .i64 0], .blk gu 59 [.string ⟨#[109, 97, 105, 110]⟩, .int .i64 0, .int .i64 0, .int .i64 1, .bool false, .slice (some ⟨gi, 0, none⟩) 4 4, .slice none 0 0]] ++ coHp s⟩ := ent_perm List.perm_append_comm
    have p2 : Ent Γ ⟨[], [.blk gi 62 [.int .i64 0, .int .i64 1, .int .i64 1, .int .i64 2, .int .i64 34, .int .i64 1, .int .i64 23, .int .i64 0], .blk gu 59 [.string ⟨#[109, 97, 105, 110]⟩, .int .i64 0, .int .i64 0, .int .i64 1, .bool false, .slice (some ⟨gi, 0, none⟩) 4 4, .slice none 0 0]] ++ coHp s⟩ ⟨[], coHp (exCo gi gu exI) ++ coHp s⟩ := exEnt gi gu exI
    have p3 : Ent Γ ⟨[], coHp (exCo gi gu exI) ++ coHp s⟩ ⟨[], coHp s ++ coHp (exCo gi gu exI)⟩ := ent_perm List.perm_append_comm
    exact p1.trans (p2.trans p3)) (fun v hp' h => by
    obtain ⟨rfl, rfl⟩ := h
    exact ⟨_, ⟨by rw [he, exCo_p, decide_eq_true rfl], rfl⟩, fun Γ a w h => h, fun c hc => by cases hc⟩)
set_option maxHeartbeats 8000000 in
theorem lives7_spec : Does Tryz.prog 15 [] [gWords, gPow, gNames] (fun v hp' => v = .bool true ∧ hp' = []) := by
  refine fn_enter Tryz.func15 rfl 90 rfl fun w0 h0 => ?_
  refine SQ (RG ?_)
  refine RR [] .z (.i 0 (.bool false) .a) .a ?_
  refine RZ (NT (SQ (RG ?_)))
  refine RC (dst := some 11) [] .a (example_spec) ?_
  rintro v _ ⟨i1, u1, rfl, rfl⟩
  refine RCG (dst := some 12) (.d (.d (.k .a))) (exHeights i1 u1) (GO (GV (GJ [0, 0]) 0 view_ro) [1, 1, 0]) ?_
  rintro v _ ⟨a1, c1, rfl, rfl⟩
  refine RR [] .z (.i 2 (.int .i64 0) (.i 1 (.slice a1 4 c1) (.d (.d (.k .a))))) .a ?_
  refine RZ (NT (SQ (RG ?_)))
  refine RC (dst := some 16) [] .a (example_spec) ?_
  rintro v _ ⟨i2, u2, rfl, rfl⟩
  refine RCG (dst := some 17) (.d (.d (.k .a))) (exList i2 u2) (GO (GV (GV (GV (GJ [0, 0]) 3 view_ro) 2 view_gPow) 1 view_ro) [3, 3, 0, 0, 0]) ?_
  rintro v _ ⟨a2, c2, rfl, rfl⟩
  refine RR [] .z (.i 4 (.int .i64 0) (.i 3 (.slice a2 5 c2) (.d (.d (.k .a))))) .a ?_
  refine RZ (NT (SQ (RG ?_)))
  refine RC (dst := some 21) [] .a (example_spec) ?_
  rintro v _ ⟨i3, u3, rfl, rfl⟩
  refine RCG (dst := some 22) (.d (.d (.k .a))) (exBytes i3 u3) (GO (GV (GJ [0, 0]) 2 view_ro) [1, 1, 0]) ?_
  rintro v _ ⟨a3, c3, rfl, rfl⟩
  refine wpr_fact (fun w h => row_addr h 0 rfl (code_pos _ ex_n)) ?_
  rintro ⟨gb, ob, rfl⟩
  have hL := cLoad_spec (some ⟨gb, ob, none⟩) c3 (encCo (exP exI)) (fun h => nomatch h) (by have := encCo_l ex_n (right_head ex_right); omega)
  obtain ⟨hl1, hl2⟩ := code_back ex_n ex_right
  rw [hl1, hl2] at hL
  refine RR [] .z (.i 6 (.int .i64 0) (.i 5 (.slice (some ⟨gb, ob, none⟩) 23 c3) (.d (.d (.k .a))))) (.i (row 5 1 (some ⟨gb, ob, none⟩) 23 c3 (u8s (encCo (exP exI)))) (.d (.k .a))) ?_
  refine RZ (NT (SQ (RG ?_)))
  refine RR [] (.d .a) (.i 26 (.slice (some ⟨gb, ob, none⟩) 23 c3) (.k (.d (.k .a)))) .a ?_
  refine RCG (dst := some 27) .a (hL) (GV (GV (GI []) 3 view_ro) 0 view_row) ?_
  rintro v _ ⟨s, hs, hsok, rfl, rfl⟩
  rw [show coC s = [.slice s.sa s.strs.length s.sc, .slice s.ha s.shapes.length s.hc, .slice s.ua s.units.length s.uc, .int .i64 s.main] from rfl]
  unfold coH
  refine RP [] (.d (.d (.d (.d .a)))) 7 (.i 29 (.int .i64 0) (.i 28 (.agg #[.slice s.sa s.strs.length s.sc, .slice s.ha s.shapes.length s.hc, .slice s.ua s.units.length s.uc, .int .i64 s.main]) (.d (.d (.k .a))))) .a 26 [.slice none 0 0, .slice none 0 0, .slice none 0 0, .int .i64 0] fun g1 => ?_
  refine RR [11, 11, 11, 11] .z (.i 8 (.int .i64 0) (.k (.d (.d (.k .a))))) (.k (.k (.k (.k (.k (.k (.k (.k (.k (.k (.k (.u (.i (.slice s.sa s.strs.length s.sc) (.i (.slice s.ha s.shapes.length s.hc) (.i (.slice s.ua s.units.length s.uc) (.i (.int .i64 s.main) .z)))) .a)))))))))))) ?_
  refine RZ (NT (SQ (RG ?_)))
  refine RC (dst := some 30) [] .a (example_spec) ?_
  rintro v _ ⟨i4, u4, rfl, rfl⟩
  refine RP [] (.d .a) 9 .a .a 26 [.slice none 0 0, .slice none 0 0, .slice none 0 0, .int .i64 0] fun g2 => ?_
  refine RR [14, 14, 14, 14] .z (.k (.d (.k .a))) (.k (.k (.k (.k (.k (.k (.k (.k (.k (.k (.k (.k (.k (.k (.u (.k (.k (.i (.slice (some ⟨u4, 0, none⟩) 1 1) (.d (.k .a))))) .a))))))))))))))) ?_
  refine RZ (NT (SQ ?_))
  refine wpc_draw (by kernel_rfl) [.blk u4 59 [.string (ByteArray.mk #[109, 97, 105, 110]), .int .i64 0, .int .i64 0, .int .i64 1, .bool false, .slice (some ⟨i4, 0, none⟩) 4 4, .slice none 0 0], row 9 1 s.sa s.strs.length s.sc (strsC s.strs), row 111 2 s.ha s.shapes.length s.hc (List.flatMap shC s.shapes), star (List.flatMap shRows s.shapes), row 59 7 s.ua s.units.length s.uc (List.flatMap unC s.units), star (List.flatMap unRows s.units), row 5 1 (some ⟨gb, ob, none⟩) 23 c3 (u8s (encCo (exP exI))), row 9 1 a2 5 c2 (strsC exL), row 3 1 a1 4 c1 (ints [0, 0, 1, 0]), gWords, gPow, gNames, .blk g1 26 [.slice s.sa s.strs.length s.sc, .slice s.ha s.shapes.length s.hc, .slice s.ua s.units.length s.uc, .int .i64 s.main], .blk g2 26 [.slice none 0 0, .slice none 0 0, .slice (some ⟨u4, 0, none⟩) 1 1, .int .i64 0]] (sub_of [1, 2, 3, 4, 5, 6, 7, 8, 9, 10, 11, 12, 13, 14] (by kernel_rfl)) 16 (by kernel_rfl) ?_
  refine wpa_take true [(0, []), (1, [13]), (2, []), (3, []), (4, [0]), (5, []), (6, [13]), (7, []), (8, []), (9, [0]), (10, []), (11, [])] [(42, .pointer (some ⟨i4, 4, none⟩)), (40, .slice (some ⟨i4, 0, none⟩) 4 4), (9, .pointer (some ⟨g2, 0, none⟩)), (8, .int .i64 0), (7, .pointer (some ⟨g1, 0, none⟩)), (6, .int .i64 0), (4, .int .i64 0), (3, .slice a2 5 c2), (2, .int .i64 0), (1, .slice a1 4 c1), (0, .bool false)] (#[true, true, true, true, true, true, true, true, true, true, true, true, false, false, false, false]) [(0 : Int) ≤ (0 : Int) ∧ (0 : Int) < (↑(1 : Nat) : Int), (0 : Int) ≤ (0 : Int) ∧ (0 : Int) < (↑(1 : Nat) : Int), (0 : Int) ≤ (2 : Int) ∧ (2 : Int) < (↑(4 : Nat) : Int)] (n := 4) (by kernel_rfl) (by kernel_rfl) (by kernel_rfl) ⟨by omega, by omega, by omega, trivial⟩ ?_
  refine AO 3 12 [0] (.d (.k .a)) (.u (.k (.k (.k (.k (.i (.int .i64 6) (.d (.k .a))))))) .a) [1, 2, 3, 4, 5, 6, 7, 8, 9, 10, 11, 12, 13, 14] ?_
  refine wpa_take true [(13, []), (14, [])] [(44, .pointer (some ⟨i4, 5, none⟩)), (9, .pointer (some ⟨g2, 0, none⟩)), (8, .int .i64 0), (7, .pointer (some ⟨g1, 0, none⟩)), (6, .int .i64 0), (4, .int .i64 0), (3, .slice a2 5 c2), (2, .int .i64 0), (1, .slice a1 4 c1), (0, .bool false)] (#[true, true, true, true, true, true, true, true, true, true, true, true, true, true, true, false]) [(0 : Int) ≤ (2 : Int) ∧ (2 : Int) < (↑(4 : Nat) : Int)] (n := 1) (by kernel_rfl) (by kernel_rfl) (by kernel_rfl) ⟨by omega, trivial⟩ ?_
  refine AO 0 15 [0] (.d (.k .a)) .a [1, 2, 3, 4, 5, 6, 7, 8, 9, 10, 11, 12, 13, 14] ?_
  refine wpa_done 0 (by kernel_rfl) ?_
  refine NT (SQ ?_)
  refine wpc_draw (by kernel_rfl) [.blk g1 26 [.slice s.sa s.strs.length s.sc, .slice s.ha s.shapes.length s.hc, .slice s.ua s.units.length s.uc, .int .i64 s.main], .blk g2 26 [.slice none 0 0, .slice none 0 0, .slice (some ⟨u4, 0, none⟩) 1 1, .int .i64 0]] (sub_of [13, 14] (by kernel_rfl)) 46 (by kernel_rfl) ?_
  refine TK 45 [(0, [])] (.i 45 (.slice a1 4 c1) (.k (.k (.k (.k (.k (.k (.k (.d (.k .a)))))))))) (#[true, false, false, false, false, false, false, false, false, false, false, false, false, false, false, false, false, false, false, false, false, false, false, false, false, false, false, false, false, false, false, false, false, false, false, false, false, false, false, false, false, false, false, false, false, false]) ?_
  refine wpa_new (n := 44) true 1 [] (fun g3 => [(46, .slice (some ⟨g3, 0, none⟩) 4 4), (45, .slice a1 4 c1), (9, .pointer (some ⟨g2, 0, none⟩)), (8, .int .i64 0), (7, .pointer (some ⟨g1, 0, none⟩)), (6, .int .i64 0), (4, .int .i64 0), (3, .slice a2 5 c2), (2, .int .i64 0), (0, .bool false)]) (fun g3 => [.blk i4 62 [.int .i64 0, .int .i64 1, .int .i64 1, .int .i64 2, .int .i64 6, .int .i64 1, .int .i64 23, .int .i64 0], .blk u4 59 [.string (ByteArray.mk #[109, 97, 105, 110]), .int .i64 0, .int .i64 0, .int .i64 1, .bool false, .slice (some ⟨i4, 0, none⟩) 4 4, .slice none 0 0], row 9 1 s.sa s.strs.length s.sc (strsC s.strs), row 111 2 s.ha s.shapes.length s.hc (List.flatMap shC s.shapes), star (List.flatMap shRows s.shapes), row 59 7 s.ua s.units.length s.uc (List.flatMap unC s.units), star (List.flatMap unRows s.units), row 5 1 (some ⟨gb, ob, none⟩) 23 c3 (u8s (encCo (exP exI))), row 9 1 a2 5 c2 (strsC exL), row 3 1 a1 4 c1 (ints [0, 0, 1, 0]), gWords, gPow, gNames, .blk g1 26 [.slice s.sa s.strs.length s.sc, .slice s.ha s.shapes.length s.hc, .slice s.ua s.units.length s.uc, .int .i64 s.main], .blk g2 26 [.slice none 0 0, .slice none 0 0, .slice (some ⟨u4, 0, none⟩) 1 1, .int .i64 0], .blk g3 3 [.int .i64 0, .int .i64 0, .int .i64 1, .int .i64 0]]) (fun g3 => []) (by kernel_rfl) (fun g3 => by kernel_rfl) (fun g3 => by kernel_rfl) (fun g3 => trivial) (fun g3 => sub_of [13, 14] (by kernel_rfl)) fun g3 => ?_
  refine wpa_ent (ent_turn 15 (ro (some ⟨g3, 0, none⟩) (ints [0, 0, 1, 0])) rfl (turn_rints [0, 0, 1, 0] rfl) rfl) ?_
  refine AC (dst := some 47) 43 2 .a (sameNums_spec a1 c1 [0, 0, 1, 0] (some ⟨g3, 0, none⟩) 4 [0, 0, 1, 0] (by decide) (by decide)) (GV (GV (GI []) 15 view_ro) 9 view_row) [13, 14] ?_
  rintro v _ ⟨rfl, rfl⟩
  rw [decide_eq_true rfl]
  refine TK 37 [(3, []), (4, []), (5, []), (6, []), (7, []), (8, [])] (.i 53 (.slice a2 5 c2) (.i 52 (.bool true) (.d (.d (.d (.k (.k (.k (.k (.k (.d (.d (.k .a))))))))))))) (#[true, true, true, true, true, true, true, true, true, false, false, false, false, false, false, false, false, false, false, false, false, false, false, false, false, false, false, false, false, false, false, false, false, false, false, false, false, false, false, false, false, false, false, false, false, false]) ?_
  refine wpa_new (n := 36) true 9 [] (fun g4 => [(54, .slice (some ⟨g4, 0, none⟩) 5 5), (53, .slice a2 5 c2), (52, .bool true), (9, .pointer (some ⟨g2, 0, none⟩)), (8, .int .i64 0), (7, .pointer (some ⟨g1, 0, none⟩)), (6, .int .i64 0), (4, .int .i64 0), (0, .bool false)]) (fun g4 => [.blk i4 62 [.int .i64 0, .int .i64 1, .int .i64 1, .int .i64 2, .int .i64 6, .int .i64 1, .int .i64 23, .int .i64 0], .blk u4 59 [.string (ByteArray.mk #[109, 97, 105, 110]), .int .i64 0, .int .i64 0, .int .i64 1, .bool false, .slice (some ⟨i4, 0, none⟩) 4 4, .slice none 0 0], row 9 1 s.sa s.strs.length s.sc (strsC s.strs), row 111 2 s.ha s.shapes.length s.hc (List.flatMap shC s.shapes), star (List.flatMap shRows s.shapes), row 59 7 s.ua s.units.length s.uc (List.flatMap unC s.units), star (List.flatMap unRows s.units), row 5 1 (some ⟨gb, ob, none⟩) 23 c3 (u8s (encCo (exP exI))), row 9 1 a2 5 c2 (strsC exL), row 3 1 a1 4 c1 (ints [0, 0, 1, 0]), gWords, gPow, gNames, .blk g1 26 [.slice s.sa s.strs.length s.sc, .slice s.ha s.shapes.length s.hc, .slice s.ua s.units.length s.uc, .int .i64 s.main], .blk g2 26 [.slice none 0 0, .slice none 0 0, .slice (some ⟨u4, 0, none⟩) 1 1, .int .i64 0], ro (some ⟨g3, 0, none⟩) (ints [0, 0, 1, 0]), .blk g4 9 [.string (ByteArray.mk #[102, 110, 32, 109, 97, 105, 110]), .string (ByteArray.mk #[48, 32, 109, 97, 114, 107, 32, 49]), .string (ByteArray.mk #[49, 32, 105, 110, 116, 32, 50]), .string (ByteArray.mk #[50, 32, 112, 114, 105, 110, 116, 32, 49]), .string (ByteArray.mk #[51, 32, 114, 101, 116, 117, 114, 110, 32, 48])]]) (fun g4 => []) (by kernel_rfl) (fun g4 => by kernel_rfl) (fun g4 => by kernel_rfl) (fun g4 => trivial) (fun g4 => sub_of [13, 14] (by kernel_rfl)) fun g4 => ?_
  refine wpa_ent (ent_turn 16 (ro (some ⟨g4, 0, none⟩) (strsC exL)) rfl (turn_rblk (strs_one exL)) rfl) ?_
  refine AC (dst := some 55) 35 10 .a (sameTexts_spec a2 c2 exL (some ⟨g4, 0, none⟩) 5 exL (by decide) (by decide)) (GV (GV (GI []) 16 view_ro) 8 view_row) [13, 14] ?_
  rintro v _ ⟨rfl, rfl⟩
  rw [decide_eq_true rfl]
  refine TK 20 [(11, []), (12, []), (13, []), (14, []), (15, []), (16, []), (17, []), (18, []), (19, []), (20, []), (21, []), (22, []), (23, []), (24, []), (25, [0, 0, 0, 0])] (.i 70 (.agg #[.slice s.sa s.strs.length s.sc, .slice s.ha s.shapes.length s.hc, .slice s.ua s.units.length s.uc, .int .i64 s.main]) (.i 69 (.bool true) (.d (.d (.d (.d (.k (.d (.d (.d (.d (.k .a)))))))))))) (#[true, true, true, true, true, true, true, true, true, true, true, true, true, true, true, true, true, true, true, true, true, true, true, true, true, true, false, false, false, false, false, false, false, false, false, false, false, false, false, false, false, false, false, false, false, false]) ?_
  refine AC (dst := some 71) 19 26 .a (example_spec) (GI []) [13, 14] ?_
  rintro v _ ⟨i5, u5, rfl, rfl⟩
  refine AC (dst := some 72) 18 27 (.d (.d (.k .a))) (exSame s hsok hs i5 u5) (GV (GV (GV (GV (GV (GI [0, 0]) 6 view_gUn) 5 view_row) 4 view_gSh) 3 view_row) 2 view_row) [13, 14] ?_
  rintro v _ ⟨rfl, rfl⟩
  refine TK 15 [(28, []), (29, []), (30, [1, 1, 1, 1])] (.i 75 (.agg #[.slice none 0 0, .slice none 0 0, .slice (some ⟨u4, 0, none⟩) 1 1, .int .i64 0]) (.i 74 (.bool true) (.d (.d (.d (.d (.d (.k .a)))))))) (#[true, true, true, true, true, true, true, true, true, true, true, true, true, true, true, true, true, true, true, true, true, true, true, true, true, true, true, true, true, true, true, false, false, false, false, false, false, false, false, false, false, false, false, false, false, false]) ?_
  refine AC (dst := some 76) 14 31 (.d (.d (.k .a))) (baCheck i4 u4) (GO (GV (GJ [0, 0]) 8 view_ro) [1, 1, 0]) [11, 12] ?_
  rintro v _ ⟨rfl, rfl⟩
  refine TK 11 [(32, []), (33, []), (34, [])] (.i 79 (.bool true) (.d (.d (.d (.k .a))))) (#[true, true, true, true, true, true, true, true, true, true, true, true, true, true, true, true, true, true, true, true, true, true, true, true, true, true, true, true, true, true, true, true, true, true, true, false, false, false, false, false, false, false, false, false, false, false]) ?_
  refine AC (dst := some 80) 10 35 .a (example_spec) (GI []) [11, 12] ?_
  rintro v _ ⟨i6, u6, rfl, rfl⟩
  refine AC (dst := some 81) 9 36 (.d (.d (.k .a))) (exCheck i6 u6) (GO (GV (GJ [0, 0]) 8 view_ro) [1, 1, 0]) [11, 12] ?_
  rintro v _ ⟨rfl, rfl⟩
  refine TK 0 [(37, []), (38, []), (39, []), (40, []), (41, []), (42, []), (43, []), (44, []), (45, [])] (.i 0 (.bool true) .z) (#[true, true, true, true, true, true, true, true, true, true, true, true, true, true, true, true, true, true, true, true, true, true, true, true, true, true, true, true, true, true, true, true, true, true, true, true, true, true, true, true, true, true, true, true, true, true]) ?_
  refine wpa_done 0 (by kernel_rfl) ?_
  refine NT (RE ?_)
  refine NE [] .z .a [] (.bool true) ?_
  exact ⟨rfl, rfl⟩
end Go.Proofs.YtgcfomhlgipllaaGreatDoor
namespace Go.Proofs.YtgcfomhlgipllaaGreatDoor
open Go Go.Sx
theorem noC_len : (encCo noC).length = 4 := by decide +kernel
end Go.Proofs.YtgcfomhlgipllaaGreatDoor
namespace Go.Proofs.YtgcfomhlgipllaaGreatDoor
open Go Go.Sx
theorem hts_at' (c : CodeP) (u : UnitP) {i : Nat} (h : i < u.ins.length) : ((ints (htsL (gr c u))).drop (i * 1)).take 1 = [.int .i64 (hAt (gr c u) (i : Int))] := by
  rw [← htsL_at c u h]
  exact ints_at (by rw [htsL_len]; exact h)
set_option maxHeartbeats 16000000 in
theorem CodeHeights_spec (c : CoV) (hc : c.ok) :
    Does Tryz.prog 7 [.agg (coC c).toArray] (coHp c ++ [gWords, gPow, gNames]) (fun v hp' => v = .bool true ∧ hp' = []) := by
  have hli := light_spec c hc
  have hH := cHeights_spec c hc
  have hC := ccheck_spec c hc
  obtain ⟨hs1, hs2, hh1, hh2, hu1, hu2, hm⟩ := id hc
  rw [show coC c = [.slice c.sa c.strs.length c.sc, .slice c.ha c.shapes.length c.hc, .slice c.ua c.units.length c.uc, .int .i64 c.main] from rfl] at hli hH hC ⊢
  unfold coHp at hli hH hC ⊢
  refine fn_enter Tryz.func7 rfl 161 rfl fun w0 h0 => ?_
  refine SQ (RG ?_)
  refine RP [] (.d .a) 1 .z .a 26 [.slice c.sa c.strs.length c.sc, .slice c.ha c.shapes.length c.hc, .slice c.ua c.units.length c.uc, .int .i64 c.main] fun g1 => ?_
  refine RR [] .z (.i 2 (.bool false) .a) .a ?_
  refine RZ (NT (SQ (SQ (RG ?_))))
  refine RR [8, 8, 8, 8] (.d .a) (.i 8 (.agg #[.slice c.sa c.strs.length c.sc, .slice c.ha c.shapes.length c.hc, .slice c.ua c.units.length c.uc, .int .i64 c.main]) .a) .a ?_
  refine RCG (dst := some 9) .a (hli) (GV (GV (GV (GV (GV (GI []) 4 view_self) 3 view_ro) 2 view_self) 1 view_ro) 0 view_ro) ?_
  rintro v _ ⟨b, rfl, rfl⟩
  cases b with
  | false =>
    refine RR [] .z (.i 15 (.bool true) (.d (.d (.k .a)))) .a ?_
    refine RZ (NT (CT (SQ (RG ?_))))
    refine RCG (dst := some 16) .a (lives7_spec) (GV (GV (GV (GI []) 7 view_ro) 6 view_gPow) 5 view_ro) ?_
    rintro v _ ⟨rfl, rfl⟩
    refine RR [] .z (.i 2 (.bool true) (.d (.d (.d (.k .a))))) .a ?_
    refine RZ (NT (RE (TR ?_)))
    refine NE [] .z .a [] (.bool true) ?_
    exact ⟨rfl, rfl⟩
  | true =>
  refine RR [8, 8, 8, 8] (.d (.d (.d .a))) (.i 12 (.agg #[.slice c.sa c.strs.length c.sc, .slice c.ha c.shapes.length c.hc, .slice c.ua c.units.length c.uc, .int .i64 c.main]) (.i 11 (.bool false) (.d (.d (.k .a))))) .a ?_
  refine RCG (dst := some 13) .a (hC) (GV (GV (GV (GV (GV (GV (GI []) 5 view_ro) 4 view_self) 3 view_ro) 2 view_self) 1 view_ro) 0 view_ro) ?_
  rintro v _ ⟨rfl, rfl⟩
  by_cases hr : ¬ rightC c.p = true
  · rw [if_neg hr]
    refine RR [] .z (.i 15 (.bool true) (.d (.d (.d (.k .a))))) .a ?_
    refine RZ (NT (CT (SQ (RG ?_))))
    refine RCG (dst := some 16) .a (lives7_spec) (GV (GV (GV (GI []) 7 view_ro) 6 view_gPow) 5 view_ro) ?_
    rintro v _ ⟨rfl, rfl⟩
    refine RR [] .z (.i 2 (.bool true) (.d (.d (.d (.k .a))))) .a ?_
    refine RZ (NT (RE (TR ?_)))
    refine NE [] .z .a [] (.bool true) ?_
    exact ⟨rfl, rfl⟩
  rw [Decidable.not_not] at hr
  rw [if_pos hr]
  obtain ⟨hform, hfine⟩ := right_form hr
  refine RR [] .z (.i 15 (.bool false) (.d (.d (.d (.k .a))))) .a ?_
  refine RZ (NT (CF (SK (NT (SQ (SQ (RG ?_)))))))
  refine RR [] .z (.i 3 (.int .i64 0) (.d (.k .a))) .a ?_
  refine RZ (NT (BK ?_))
  refine wpc_loop (X := {k : Nat // k ≤ c.units.length}) (fun x => St.mk [(3, .int .i64 (x.1 : Int)), (2, .bool false), (1, .pointer (some ⟨g1, 0, none⟩))] [ro c.sa (strsC c.strs), ro c.ha (c.shapes.flatMap shC), gSh c.shapes, ro c.ua (c.units.flatMap unC), gUn c.units, gWords, gPow, gNames, .blk g1 26 [.slice c.sa c.strs.length c.sc, .slice c.ha c.shapes.length c.hc, .slice c.ua c.units.length c.uc, .int .i64 c.main]]) (fun x => c.units.length - x.1) ⟨0, Nat.zero_le _⟩ (ent_fr (by kernel_rfl)) ?_
  rintro ⟨k, hk⟩
  dsimp only at hk ⊢
  by_cases hlt : k < c.units.length
  · have hU := form_units hform _ (un_in hlt)
    have hF := hfine _ (un_in hlt)
    have hx := (hu2 _ (List.getElem_mem hlt)).2.2.2.2.1
    have hst := (unitB_head hU).2.2.2.2
    have hHk := hH (k : Int)
    refine wpc_fact (fun w h => ro_addr h 3 rfl (by rw [uns_len]; omega)) ?_
    rintro ⟨g0, o0, hua⟩
    rw [hua] at hHk ⊢
    refine SQ (SQ (RG ?_))
    refine RR [8] .z (.i 21 (.bool (decide ((↑k : Int) < (↑c.units.length : Int)))) .a) .a ?_
    refine RZ (NT ?_)
    refine SC 21 (decide ((↑k : Int) < (↑c.units.length : Int))) true (decide_eq_true (by omega)) ?_
    refine CT (SK (NT (SQ (BK (SQ (RG ?_))))))
    refine RV true [8] (.d (.d (.d (.d .a)))) (.i 27 (.pointer (some ⟨g0, o0 + k * 7, none⟩)) (.d (.d (.k .a)))) .a [(0 : Int) ≤ (↑k : Int) ∧ (↑k : Int) < (↑c.units.length : Int)] ⟨by omega, trivial⟩ ?_
    refine wpr_eq (ld (t := 59) (a := ⟨g0, o0 + k * 7, none⟩) (dst := some 28) (by kernel_rfl) true 7 (by kernel_rfl) (by simp) (unC c.units[k]) rfl (fun w h => ld_ro h 3 rfl (k * 7) (uns_at hlt))) ?_
    refine RP [] (.d .a) 4 (.i 28 (.agg #[.string (mkS c.units[k].name), .int .i64 c.units[k].params, .int .i64 c.units[k].slots, .int .i64 c.units[k].stack, .bool c.units[k].result, .slice c.units[k].ia c.units[k].ins.length c.units[k].ic, .slice c.units[k].va c.units[k].vars.length c.units[k].vc]) (.d (.d (.k .a)))) .a 59 [.string ⟨#[]⟩, .int .i64 0, .int .i64 0, .int .i64 0, .bool false, .slice none 0 0, .slice none 0 0] fun g2 => ?_
    refine RR [9, 9, 9, 9, 9, 9, 9] .z (.k (.d (.k .a))) (.k (.k (.k (.k (.k (.k (.k (.k (.k (.u (.i (.string (mkS c.units[k].name)) (.i (.int .i64 c.units[k].params) (.i (.int .i64 c.units[k].slots) (.i (.int .i64 c.units[k].stack) (.i (.bool c.units[k].result) (.i (.slice c.units[k].ia c.units[k].ins.length c.units[k].ic) (.i (.slice c.units[k].va c.units[k].vars.length c.units[k].vc) .z))))))) .a)))))))))) ?_
    refine RZ (NT (SQ (RG ?_)))
    refine RR [8, 8, 8, 8] (.d (.d .a)) (.i 31 (.int .i64 (↑k : Int)) (.i 30 (.agg #[.slice c.sa c.strs.length c.sc, .slice c.ha c.shapes.length c.hc, .slice (some ⟨g0, o0, none⟩) c.units.length c.uc, .int .i64 c.main]) .a)) .a ?_
    refine RCG (dst := some 32) .a (hHk) (GV (GV (GV (GV (GV (GV (GI []) 5 view_ro) 4 view_self) 3 view_ro) 2 view_self) 1 view_ro) 0 view_ro) ?_
    intro v hp' hv
    rw [if_neg (by rw [hr]; decide), if_neg (by rw [(uptoB_iff _ _).2 ⟨by omega, by omega⟩]; decide)] at hv
    obtain ⟨k2, hk2, hkk, a1, c1, rfl, rfl⟩ := hv
    obtain rfl : k = k2 := by omega
    obtain ⟨u, hu⟩ : ∃ u, u = c.units[k] := ⟨_, rfl⟩
    rw [← hu] at hU hF hx hst ⊢
    have hHl : (htsL (gr c.p u.p)).length = u.ins.length := htsL_len c.p u.p
    have hn1 : 1 ≤ u.ins.length := hst.2.2.1
    have hs0 : 0 ≤ u.stack := hst.1
    rw [hHl]
    have hFs : Fine (gr c.p u.p) := fineB_of hF
    have h0 := hts_at' c.p u.p (i := 0) hn1
    rw [show hAt (gr c.p u.p) ((0 : Nat) : Int) = 0 from hAt_zero hFs] at h0
    obtain ⟨H, hHd⟩ : ∃ H, H = htsL (gr c.p u.p) := ⟨_, rfl⟩
    have hat : ∀ i, i < u.ins.length → ((ints H).drop (i * 1)).take 1 = [.int .i64 (hAt (gr c.p u.p) (i : Int))] := fun i hi => by rw [hHd]; exact hts_at' c.p u.p hi
    rw [← hHd] at h0 hHl ⊢
    refine wpr_fact (fun w h => row_addr h 0 rfl (by omega)) ?_
    rintro ⟨gh, oh, rfl⟩
    refine RR [] .z (.i 6 (.int .i64 0) (.i 5 (.slice (some ⟨gh, oh, none⟩) u.ins.length c1) (.d (.d (.d (.k .a)))))) .a ?_
    refine RZ (NT (SQ (SQ (RG ?_))))
    refine RR [10] (.d (.d (.d (.d (.d (.d (.d (.d (.d (.d (.d .a))))))))))) (.i 45 (.bool ((↑u.ins.length : Int) != (↑u.ins.length : Int))) (.d (.k .a))) .a ?_
    refine SR 45 ((↑u.ins.length : Int) != (↑u.ins.length : Int)) false (by simp) ?_
    refine RV true [] (.d (.d .a)) (.i 47 (.pointer (some ⟨gh, oh, none⟩)) (.k (.d (.k .a)))) .a [(0 : Int) ≤ (0 : Int) ∧ (0 : Int) < (↑u.ins.length : Int)] ⟨by omega, trivial⟩ ?_
    refine wpr_eq (ld (t := 3) (a := ⟨gh, oh, none⟩) (dst := some 48) (by kernel_rfl) false 1 (by kernel_rfl) (by simp) [.int .i64 0] rfl (fun w h => ld_row h 0 rfl (0 * 1) h0)) ?_
    refine RR [] .z (.i 50 (.bool false) (.d (.d (.d (.k .a))))) .a ?_
    refine RZ (NT (CF (SK (NT (SQ (RG ?_))))))
    refine RR [] .z (.i 7 (.int .i64 0) (.d (.k .a))) .a ?_
    refine RZ (NT (BK ?_))
    refine wpc_ent (ent_copy 5 (ro u.ia (u.ins.flatMap insC)) rfl (fun h => h) (view_in (hu ▸ unRo_in1 hlt) view_ro)) ?_
    refine wpc_loop (X := {i : Nat // i ≤ u.ins.length}) (fun x => St.mk [(7, .int .i64 (x.1 : Int)), (5, .slice (some ⟨gh, oh, none⟩) u.ins.length c1), (4, .pointer (some ⟨g2, 0, none⟩)), (3, .int .i64 (k : Int)), (2, .bool false), (1, .pointer (some ⟨g1, 0, none⟩))]
      [row 3 1 (some ⟨gh, oh, none⟩) u.ins.length c1 (ints H), ro u.ia (u.ins.flatMap insC), ro c.sa (strsC c.strs), ro c.ha (c.shapes.flatMap shC), gSh c.shapes, ro (some ⟨g0, o0, none⟩) (c.units.flatMap unC), gUn c.units, gWords, gPow, gNames, .blk g1 26 [.slice c.sa c.strs.length c.sc, .slice c.ha c.shapes.length c.hc, .slice (some ⟨g0, o0, none⟩) c.units.length c.uc, .int .i64 c.main], .blk g2 59 [.string (mkS u.name), .int .i64 u.params, .int .i64 u.slots, .int .i64 u.stack, .bool u.result, .slice u.ia u.ins.length u.ic, .slice u.va u.vars.length u.vc]]) (fun x => u.ins.length - x.1) ⟨0, Nat.zero_le _⟩ (Ent.trans (ent_hp [1, 0, 0, 0, 0, 0, 0, 0, 0, 0, 0, 0] rfl) (ent_fr (by kernel_rfl))) ?_
    rintro ⟨i, hi⟩
    dsimp only at hi ⊢
    by_cases hlti : i < u.ins.length
    · obtain ⟨⟨op, ag⟩, hop⟩ : ∃ x, x = u.ins[i] := ⟨_, rfl⟩
      have hins : insAt u.p (i : Int) = (op, ag) := by rw [insAt_eq hlti, hop]
      have hfc := hts_facts hU hF (i := i) hlti hins
      have hati := hat i hlti
      obtain ⟨h, hh⟩ : ∃ h, h = hAt (gr c.p u.p) (i : Int) := ⟨_, rfl⟩
      rw [← hh] at hfc hati
      obtain ⟨f1, f2, f3, f4, f5⟩ := hfc
      have f2 : h ≤ u.stack := f2
      have hopt : ((u.ins.flatMap insC).drop (i * 2)).take 1 = [.int .i64 op] := by
        have := ins_fld hlti 0 1 (by decide)
        rw [← hop] at this
        exact this
      have hagt : ((u.ins.flatMap insC).drop (i * 2 + 1)).take 1 = [.int .i64 ag] := by
        have := ins_fld hlti 1 1 (by decide)
        rw [← hop] at this
        exact this
      refine wpc_fact (fun w h => ro_addr h 1 rfl (by rw [ins_len]; omega)) ?_
      rintro ⟨g5, o5, hia⟩
      rw [hia]
      refine SQ (SQ (RG ?_))
      refine RR [] .z (.i 54 (.bool (decide ((↑i : Int) < (↑u.ins.length : Int)))) .a) .a ?_
      refine RZ (NT ?_)
      refine SC 54 (decide ((↑i : Int) < (↑u.ins.length : Int))) true (decide_eq_true (by omega)) ?_
      refine CT (SK (NT (SQ (BK (SQ (SQ ?_))))))
      refine wpc_join ⟨[(86, .bool false), (7, (.int .i64 (↑i : Int))), (5, (.slice (some ⟨gh, oh, none⟩) u.ins.length c1)), (4, (.pointer (some ⟨g2, 0, none⟩))), (3, (.int .i64 (↑k : Int))), (2, (.bool false)), (1, (.pointer (some ⟨g1, 0, none⟩)))], [row 3 1 (some ⟨gh, oh, none⟩) u.ins.length c1 (ints H), ro (some ⟨g5, o5, none⟩) (List.flatMap insC u.ins), ro c.sa (strsC c.strs), ro c.ha (List.flatMap shC c.shapes), gSh c.shapes, ro (some ⟨g0, o0, none⟩) (List.flatMap unC c.units), gUn c.units, gWords, gPow, gNames, .blk g1 26 [.slice c.sa c.strs.length c.sc, .slice c.ha c.shapes.length c.hc, .slice (some ⟨g0, o0, none⟩) c.units.length c.uc, .int .i64 c.main], .blk g2 59 [.string (mkS u.name), .int .i64 u.params, .int .i64 u.slots, .int .i64 u.stack, .bool u.result, .slice (some ⟨g5, o5, none⟩) u.ins.length u.ic, .slice u.va u.vars.length u.vc]]⟩ (fun Q1 hQ1 hk13 => ?_) ?_
      · by_cases k0 : op = 0
        · have h3 := f3 k0
          subst k0
          refine wpc_draw (by kernel_rfl) [row 3 1 (some ⟨gh, oh, none⟩) u.ins.length c1 (ints H), ro (some ⟨g5, o5, none⟩) (List.flatMap insC u.ins), .blk g2 59 [.string (mkS u.name), .int .i64 u.params, .int .i64 u.slots, .int .i64 u.stack, .bool u.result, .slice (some ⟨g5, o5, none⟩) u.ins.length u.ic, .slice u.va u.vars.length u.vc]] (sub_of [0, 1, 11] (by kernel_rfl)) 30 (by kernel_rfl) ?_
          refine wpa_take true [(0, []), (1, []), (2, [])] ([(59, .pointer (some ⟨gh, oh + i * 1, none⟩)), (7, .int .i64 (↑i : Int)), (5, .slice (some ⟨gh, oh, none⟩) u.ins.length c1), (4, .pointer (some ⟨g2, 0, none⟩)), (3, .int .i64 (↑k : Int)), (2, .bool false), (1, .pointer (some ⟨g1, 0, none⟩))]) (#[true, true, true, false, false, false, false, false, false, false, false, false, false, false, false, false, false, false, false, false, false, false, false, false, false, false, false, false, false, false]) [(0 : Int) ≤ (↑i : Int) ∧ (↑i : Int) < (↑u.ins.length : Int)] (n := 27) (by kernel_rfl) (by kernel_rfl) (by kernel_rfl) ⟨by omega, trivial⟩ ?_
          refine wpa_qld (i := 3) (n := 26) (by kernel_rfl) (by kernel_rfl) (by kernel_rfl) (t := 3) (a := ⟨gh, oh + i * 1, none⟩) (dst := some 60) (by kernel_rfl) false 1 (by kernel_rfl) (by simp) [.int .i64 h] rfl (fun w hh => ld_rowL hh 0 rfl (i * 1) hati) ?_
          refine TK 24 [(4, []), (5, [])] (.i 62 (.bool (decide (h < (-1 : Int)))) (.d (.d (.k .a)))) (#[true, true, true, true, true, true, false, false, false, false, false, false, false, false, false, false, false, false, false, false, false, false, false, false, false, false, false, false, false, false]) ?_
          refine SA 62 (decide (h < (-1 : Int))) false (decide_eq_false (by omega)) ?_
          refine wpa_take true [(6, []), (7, []), (8, []), (10, []), (11, [2])] ([(68, .int .i64 u.stack), (65, .pointer (some ⟨gh, oh + i * 1, none⟩)), (62, .bool false), (7, .int .i64 (↑i : Int)), (5, .slice (some ⟨gh, oh, none⟩) u.ins.length c1), (4, .pointer (some ⟨g2, 0, none⟩)), (3, .int .i64 (↑k : Int)), (2, .bool false), (1, .pointer (some ⟨g1, 0, none⟩))]) (#[true, true, true, true, true, true, true, true, true, false, true, true, false, false, false, false, false, false, false, false, false, false, false, false, false, false, false, false, false, false]) [(0 : Int) ≤ (↑i : Int) ∧ (↑i : Int) < (↑u.ins.length : Int)] (n := 19) (by kernel_rfl) (by kernel_rfl) (by kernel_rfl) ⟨by omega, trivial⟩ ?_
          refine wpa_qld (i := 9) (n := 18) (by kernel_rfl) (by kernel_rfl) (by kernel_rfl) (t := 3) (a := ⟨gh, oh + i * 1, none⟩) (dst := some 66) (by kernel_rfl) false 1 (by kernel_rfl) (by simp) [.int .i64 h] rfl (fun w hh => ld_rowL hh 0 rfl (i * 1) hati) ?_
          refine TK 15 [(12, []), (13, []), (14, [])] (.i 71 (.bool (decide (h > u.stack))) (.d (.d (.d (.d (.k .a)))))) (#[true, true, true, true, true, true, true, true, true, true, true, true, true, true, true, false, false, false, false, false, false, false, false, false, false, false, false, false, false, false]) ?_
          refine SA 71 (decide (h > u.stack)) false (decide_eq_false (by omega)) ?_
          refine wpa_take true [(15, []), (16, [2]), (17, []), (18, []), (19, [])] ([(76, .pointer (some ⟨g5, o5 + i * 2, none⟩)), (71, .bool false), (7, .int .i64 (↑i : Int)), (5, .slice (some ⟨gh, oh, none⟩) u.ins.length c1), (4, .pointer (some ⟨g2, 0, none⟩)), (3, .int .i64 (↑k : Int)), (2, .bool false), (1, .pointer (some ⟨g1, 0, none⟩))]) (#[true, true, true, true, true, true, true, true, true, true, true, true, true, true, true, true, true, true, true, true, false, false, false, false, false, false, false, false, false, false]) [(0 : Int) ≤ (↑i : Int) ∧ (↑i : Int) < (↑u.ins.length : Int)] (n := 10) (by kernel_rfl) (by kernel_rfl) (by kernel_rfl) ⟨by omega, trivial⟩ ?_
          refine wpa_qld (i := 20) (n := 9) (by kernel_rfl) (by kernel_rfl) (by kernel_rfl) (t := 60) (a := ⟨g5, o5 + i * 2, none⟩) (dst := some 77) (by kernel_rfl) false 1 (by kernel_rfl) (by simp) [.int .i64 0] rfl (fun w hh => ld_roL hh 1 rfl (i * 2) hopt) ?_
          refine wpa_take true [(21, []), (22, []), (23, []), (24, []), (25, [])] ([(82, .pointer (some ⟨gh, oh + i * 1, none⟩)), (79, .bool true), (71, .bool false), (7, .int .i64 (↑i : Int)), (5, .slice (some ⟨gh, oh, none⟩) u.ins.length c1), (4, .pointer (some ⟨g2, 0, none⟩)), (3, .int .i64 (↑k : Int)), (2, .bool false), (1, .pointer (some ⟨g1, 0, none⟩))]) (#[true, true, true, true, true, true, true, true, true, true, true, true, true, true, true, true, true, true, true, true, true, true, true, true, true, true, false, false, false, false]) [(0 : Int) ≤ (↑i : Int) ∧ (↑i : Int) < (↑u.ins.length : Int)] (n := 4) (by kernel_rfl) (by kernel_rfl) (by kernel_rfl) ⟨by omega, trivial⟩ ?_
          refine wpa_qld (i := 26) (n := 3) (by kernel_rfl) (by kernel_rfl) (by kernel_rfl) (t := 3) (a := ⟨gh, oh + i * 1, none⟩) (dst := some 83) (by kernel_rfl) false 1 (by kernel_rfl) (by simp) [.int .i64 h] rfl (fun w hh => ld_rowL hh 0 rfl (i * 1) hati) ?_
          refine TK 0 [(27, []), (28, []), (29, [])] (.i 86 (.bool (decide (h > (0 : Int)))) (.d (.d (.d (.d (.k .a)))))) (#[true, true, true, true, true, true, true, true, true, true, true, true, true, true, true, true, true, true, true, true, true, true, true, true, true, true, true, true, true, true]) ?_
          refine wpa_done 0 (by kernel_rfl) ?_
          refine nx_ent (ent_set 86 (.bool (decide (h > 0))) (.bool false) (by kernel_rfl) (by rw [decide_eq_false h3])) ?_
          exact nx_ent (ent_hp [0, 0, 0, 0, 0, 0, 0, 0, 0, 0, 0, 0] rfl) (nx_ent (ent_fr (by kernel_rfl)) hk13)
        · refine wpc_draw (by kernel_rfl) [row 3 1 (some ⟨gh, oh, none⟩) u.ins.length c1 (ints H), ro (some ⟨g5, o5, none⟩) (List.flatMap insC u.ins), .blk g2 59 [.string (mkS u.name), .int .i64 u.params, .int .i64 u.slots, .int .i64 u.stack, .bool u.result, .slice (some ⟨g5, o5, none⟩) u.ins.length u.ic, .slice u.va u.vars.length u.vc]] (sub_of [0, 1, 11] (by kernel_rfl)) 30 (by kernel_rfl) ?_
          refine wpa_take true [(0, []), (1, []), (2, [])] ([(59, .pointer (some ⟨gh, oh + i * 1, none⟩)), (7, .int .i64 (↑i : Int)), (5, .slice (some ⟨gh, oh, none⟩) u.ins.length c1), (4, .pointer (some ⟨g2, 0, none⟩)), (3, .int .i64 (↑k : Int)), (2, .bool false), (1, .pointer (some ⟨g1, 0, none⟩))]) (#[true, true, true, false, false, false, false, false, false, false, false, false, false, false, false, false, false, false, false, false, false, false, false, false, false, false, false, false, false, false]) [(0 : Int) ≤ (↑i : Int) ∧ (↑i : Int) < (↑u.ins.length : Int)] (n := 27) (by kernel_rfl) (by kernel_rfl) (by kernel_rfl) ⟨by omega, trivial⟩ ?_
          refine wpa_qld (i := 3) (n := 26) (by kernel_rfl) (by kernel_rfl) (by kernel_rfl) (t := 3) (a := ⟨gh, oh + i * 1, none⟩) (dst := some 60) (by kernel_rfl) false 1 (by kernel_rfl) (by simp) [.int .i64 h] rfl (fun w hh => ld_rowL hh 0 rfl (i * 1) hati) ?_
          refine TK 24 [(4, []), (5, [])] (.i 62 (.bool (decide (h < (-1 : Int)))) (.d (.d (.k .a)))) (#[true, true, true, true, true, true, false, false, false, false, false, false, false, false, false, false, false, false, false, false, false, false, false, false, false, false, false, false, false, false]) ?_
          refine SA 62 (decide (h < (-1 : Int))) false (decide_eq_false (by omega)) ?_
          refine wpa_take true [(6, []), (7, []), (8, []), (10, []), (11, [2])] ([(68, .int .i64 u.stack), (65, .pointer (some ⟨gh, oh + i * 1, none⟩)), (62, .bool false), (7, .int .i64 (↑i : Int)), (5, .slice (some ⟨gh, oh, none⟩) u.ins.length c1), (4, .pointer (some ⟨g2, 0, none⟩)), (3, .int .i64 (↑k : Int)), (2, .bool false), (1, .pointer (some ⟨g1, 0, none⟩))]) (#[true, true, true, true, true, true, true, true, true, false, true, true, false, false, false, false, false, false, false, false, false, false, false, false, false, false, false, false, false, false]) [(0 : Int) ≤ (↑i : Int) ∧ (↑i : Int) < (↑u.ins.length : Int)] (n := 19) (by kernel_rfl) (by kernel_rfl) (by kernel_rfl) ⟨by omega, trivial⟩ ?_
          refine wpa_qld (i := 9) (n := 18) (by kernel_rfl) (by kernel_rfl) (by kernel_rfl) (t := 3) (a := ⟨gh, oh + i * 1, none⟩) (dst := some 66) (by kernel_rfl) false 1 (by kernel_rfl) (by simp) [.int .i64 h] rfl (fun w hh => ld_rowL hh 0 rfl (i * 1) hati) ?_
          refine TK 15 [(12, []), (13, []), (14, [])] (.i 71 (.bool (decide (h > u.stack))) (.d (.d (.d (.d (.k .a)))))) (#[true, true, true, true, true, true, true, true, true, true, true, true, true, true, true, false, false, false, false, false, false, false, false, false, false, false, false, false, false, false]) ?_
          refine SA 71 (decide (h > u.stack)) false (decide_eq_false (by omega)) ?_
          refine wpa_take true [(15, []), (16, [2]), (17, []), (18, []), (19, [])] ([(76, .pointer (some ⟨g5, o5 + i * 2, none⟩)), (71, .bool false), (7, .int .i64 (↑i : Int)), (5, .slice (some ⟨gh, oh, none⟩) u.ins.length c1), (4, .pointer (some ⟨g2, 0, none⟩)), (3, .int .i64 (↑k : Int)), (2, .bool false), (1, .pointer (some ⟨g1, 0, none⟩))]) (#[true, true, true, true, true, true, true, true, true, true, true, true, true, true, true, true, true, true, true, true, false, false, false, false, false, false, false, false, false, false]) [(0 : Int) ≤ (↑i : Int) ∧ (↑i : Int) < (↑u.ins.length : Int)] (n := 10) (by kernel_rfl) (by kernel_rfl) (by kernel_rfl) ⟨by omega, trivial⟩ ?_
          refine wpa_qld (i := 20) (n := 9) (by kernel_rfl) (by kernel_rfl) (by kernel_rfl) (t := 60) (a := ⟨g5, o5 + i * 2, none⟩) (dst := some 77) (by kernel_rfl) false 1 (by kernel_rfl) (by simp) [.int .i64 op] rfl (fun w hh => ld_roL hh 1 rfl (i * 2) hopt) ?_
          refine TK 7 [(21, []), (22, [])] (.i 79 (.bool (op == (0 : Int))) (.d (.d (.k .a)))) (#[true, true, true, true, true, true, true, true, true, true, true, true, true, true, true, true, true, true, true, true, true, true, true, false, false, false, false, false, false, false]) ?_
          refine SA 79 (op == (0 : Int)) false (by simp only [bne_eq_false_iff_eq, beq_eq_false_iff_ne, ne_eq]; omega) ?_
          refine TK 0 [(23, []), (24, []), (25, []), (26, []), (27, []), (28, []), (29, [])] (.i 86 (.bool false) (.d (.d (.d (.k .a))))) (#[true, true, true, true, true, true, true, true, true, true, true, true, true, true, true, true, true, true, true, true, true, true, true, true, true, true, true, true, true, true]) ?_
          refine wpa_done 0 (by kernel_rfl) ?_
          exact nx_ent (ent_hp [0, 0, 0, 0, 0, 0, 0, 0, 0, 0, 0, 0] rfl) (nx_ent (ent_fr (by kernel_rfl)) hk13)
      refine NT (CF (SK (NT (SQ (SQ (RG ?_))))))
      refine RV true [] (.d (.d (.d .a))) (.i 89 (.pointer (some ⟨gh, oh + i * 1, none⟩)) (.d (.k .a))) .a [(0 : Int) ≤ (↑i : Int) ∧ (↑i : Int) < (↑u.ins.length : Int)] ⟨by omega, trivial⟩ ?_
      refine wpr_join ⟨[(124, .bool false), (7, (.int .i64 (↑i : Int))), (5, (.slice (some ⟨gh, oh, none⟩) u.ins.length c1)), (4, (.pointer (some ⟨g2, 0, none⟩))), (3, (.int .i64 (↑k : Int))), (2, (.bool false)), (1, (.pointer (some ⟨g1, 0, none⟩)))], [row 3 1 (some ⟨gh, oh, none⟩) u.ins.length c1 (ints H), ro (some ⟨g5, o5, none⟩) (List.flatMap insC u.ins), ro c.sa (strsC c.strs), ro c.ha (List.flatMap shC c.shapes), gSh c.shapes, ro (some ⟨g0, o0, none⟩) (List.flatMap unC c.units), gUn c.units, gWords, gPow, gNames, .blk g1 26 [.slice c.sa c.strs.length c.sc, .slice c.ha c.shapes.length c.hc, .slice (some ⟨g0, o0, none⟩) c.units.length c.uc, .int .i64 c.main], .blk g2 59 [.string (mkS u.name), .int .i64 u.params, .int .i64 u.slots, .int .i64 u.stack, .bool u.result, .slice (some ⟨g5, o5, none⟩) u.ins.length u.ic, .slice u.va u.vars.length u.vc]]⟩ (fun Q1 hQ1 hk15 => ?_) ?_
      · by_cases hneg : h < 0
        · skip
          refine wpr_eq (ld (t := 3) (a := ⟨gh, oh + i * 1, none⟩) (dst := some 90) (by kernel_rfl) false 1 (by kernel_rfl) (by simp) [.int .i64 h] rfl (fun w hh => ld_row hh 0 rfl (i * 1) hati)) ?_
          refine RR [] (.d (.d .a)) (.i 92 (.bool (decide (h ≥ (0 : Int)))) (.d (.d (.k .a)))) .a ?_
          refine SR 92 (decide (h ≥ (0 : Int))) false (decide_eq_false (by omega)) ?_
          refine RR [] .z (.i 124 (.bool false) (.d (.d (.k .a)))) .a ?_
          refine RZ ?_
          exact nx_ent (ent_hp [0, 0, 0, 0, 0, 0, 0, 0, 0, 0, 0, 0] rfl) (nx_ent (ent_fr (by kernel_rfl)) hk15)
        by_cases k20 : op = 20
        · subst k20
          refine wpr_eq (ld (t := 3) (a := ⟨gh, oh + i * 1, none⟩) (dst := some 90) (by kernel_rfl) false 1 (by kernel_rfl) (by simp) [.int .i64 h] rfl (fun w hh => ld_row hh 0 rfl (i * 1) hati)) ?_
          refine RR [] (.d (.d .a)) (.i 92 (.bool (decide (h ≥ (0 : Int)))) (.d (.d (.k .a)))) .a ?_
          refine SR 92 (decide (h ≥ (0 : Int))) true (decide_eq_true (by omega)) ?_
          refine RV true [11] (.d (.d (.d (.d (.d .a))))) (.i 97 (.pointer (some ⟨g5, o5 + i * 2, none⟩)) (.k (.d (.k .a)))) .a [(0 : Int) ≤ (↑i : Int) ∧ (↑i : Int) < (↑u.ins.length : Int)] ⟨by omega, trivial⟩ ?_
          refine wpr_eq (ld (t := 60) (a := ⟨g5, o5 + i * 2, none⟩) (dst := some 98) (by kernel_rfl) false 1 (by kernel_rfl) (by simp) [.int .i64 20] rfl (fun w hh => ld_ro hh 1 rfl (i * 2) hopt)) ?_
          refine RR [] .z (.i 124 (.bool false) (.d (.d (.d (.k .a))))) .a ?_
          refine RZ ?_
          exact nx_ent (ent_hp [0, 0, 0, 0, 0, 0, 0, 0, 0, 0, 0, 0] rfl) (nx_ent (ent_fr (by kernel_rfl)) hk15)
        by_cases k23 : op = 23
        · subst k23
          refine wpr_eq (ld (t := 3) (a := ⟨gh, oh + i * 1, none⟩) (dst := some 90) (by kernel_rfl) false 1 (by kernel_rfl) (by simp) [.int .i64 h] rfl (fun w hh => ld_row hh 0 rfl (i * 1) hati)) ?_
          refine RR [] (.d (.d .a)) (.i 92 (.bool (decide (h ≥ (0 : Int)))) (.d (.d (.k .a)))) .a ?_
          refine SR 92 (decide (h ≥ (0 : Int))) true (decide_eq_true (by omega)) ?_
          refine RV true [11] (.d (.d (.d (.d (.d .a))))) (.i 97 (.pointer (some ⟨g5, o5 + i * 2, none⟩)) (.k (.d (.k .a)))) .a [(0 : Int) ≤ (↑i : Int) ∧ (↑i : Int) < (↑u.ins.length : Int)] ⟨by omega, trivial⟩ ?_
          refine wpr_eq (ld (t := 60) (a := ⟨g5, o5 + i * 2, none⟩) (dst := some 98) (by kernel_rfl) false 1 (by kernel_rfl) (by simp) [.int .i64 23] rfl (fun w hh => ld_ro hh 1 rfl (i * 2) hopt)) ?_
          refine RV true [11] (.d (.d (.d (.d (.d (.d (.d (.d .a)))))))) (.i 106 (.pointer (some ⟨g5, o5 + i * 2, none⟩)) (.i 101 (.bool true) (.d (.d (.d (.k .a)))))) .a [(0 : Int) ≤ (↑i : Int) ∧ (↑i : Int) < (↑u.ins.length : Int)] ⟨by omega, trivial⟩ ?_
          refine wpr_eq (ld (t := 60) (a := ⟨g5, o5 + i * 2, none⟩) (dst := some 107) (by kernel_rfl) false 1 (by kernel_rfl) (by simp) [.int .i64 23] rfl (fun w hh => ld_ro hh 1 rfl (i * 2) hopt)) ?_
          refine RR [] .z (.i 124 (.bool false) (.d (.d (.d (.k .a))))) .a ?_
          refine RZ ?_
          exact nx_ent (ent_hp [0, 0, 0, 0, 0, 0, 0, 0, 0, 0, 0, 0] rfl) (nx_ent (ent_fr (by kernel_rfl)) hk15)
        obtain ⟨g4a, g4b⟩ := f4 (by omega) k20 k23
        have g4a : i + 1 < u.ins.length := g4a
        have hat1 := hat (i + 1) g4a
        obtain ⟨hA, hhA⟩ : ∃ x, x = hAt (gr c.p u.p) ((i + 1 : Nat) : Int) := ⟨_, rfl⟩
        rw [← hhA] at hat1 g4b
        refine wpr_eq (ld (t := 3) (a := ⟨gh, oh + i * 1, none⟩) (dst := some 90) (by kernel_rfl) false 1 (by kernel_rfl) (by simp) [.int .i64 h] rfl (fun w hh => ld_row hh 0 rfl (i * 1) hati)) ?_
        refine RR [] (.d (.d .a)) (.i 92 (.bool (decide (h ≥ (0 : Int)))) (.d (.d (.k .a)))) .a ?_
        refine SR 92 (decide (h ≥ (0 : Int))) true (decide_eq_true (by omega)) ?_
        refine RV true [11] (.d (.d (.d (.d (.d .a))))) (.i 97 (.pointer (some ⟨g5, o5 + i * 2, none⟩)) (.k (.d (.k .a)))) .a [(0 : Int) ≤ (↑i : Int) ∧ (↑i : Int) < (↑u.ins.length : Int)] ⟨by omega, trivial⟩ ?_
        refine wpr_eq (ld (t := 60) (a := ⟨g5, o5 + i * 2, none⟩) (dst := some 98) (by kernel_rfl) false 1 (by kernel_rfl) (by simp) [.int .i64 op] rfl (fun w hh => ld_ro hh 1 rfl (i * 2) hopt)) ?_
        refine RR [] (.d (.d (.d .a))) (.i 101 (.bool (op != (20 : Int))) (.d (.d (.d (.k .a))))) .a ?_
        refine SR 101 (op != (20 : Int)) true (by simp only [bne_iff_ne, beq_iff_eq, ne_eq]; omega) ?_
        refine RV true [11] (.d (.d (.d (.d (.d .a))))) (.i 106 (.pointer (some ⟨g5, o5 + i * 2, none⟩)) (.k (.d (.k .a)))) .a [(0 : Int) ≤ (↑i : Int) ∧ (↑i : Int) < (↑u.ins.length : Int)] ⟨by omega, trivial⟩ ?_
        refine wpr_eq (ld (t := 60) (a := ⟨g5, o5 + i * 2, none⟩) (dst := some 107) (by kernel_rfl) false 1 (by kernel_rfl) (by simp) [.int .i64 op] rfl (fun w hh => ld_ro hh 1 rfl (i * 2) hopt)) ?_
        refine RR [] (.d (.d (.d .a))) (.i 110 (.bool (op != (23 : Int))) (.d (.d (.d (.k .a))))) .a ?_
        refine SR 110 (op != (23 : Int)) true (by simp only [bne_iff_ne, beq_iff_eq, ne_eq]; omega) ?_
        refine RV true [] (.d (.d (.d (.d (.d (.d .a)))))) (.i 116 (.bool ((↑i : Int) + (1 : Int) == (↑u.ins.length : Int))) (.k (.d (.k .a)))) .a ([inI64 ((↑i : Int) + (1 : Int))]) ⟨by unfold inI64; omega, trivial⟩ ?_
        refine SR 116 ((↑i : Int) + (1 : Int) == (↑u.ins.length : Int)) false (by simp only [bne_eq_false_iff_eq, beq_eq_false_iff_ne, ne_eq]; omega) ?_
        refine RV true [] (.d (.d (.d (.d .a)))) (.i 120 (.pointer (some (Addr.mk gh (oh + Int.toNat ((↑i : Int) + 1) * 1) none))) (.k (.d (.k .a)))) .a ([inI64 ((↑i : Int) + (1 : Int)), (0 : Int) ≤ (↑i : Int) + (1 : Int) ∧ (↑i : Int) + (1 : Int) < (↑u.ins.length : Int)]) ⟨by unfold inI64; omega, by omega, trivial⟩ ?_
        refine wpr_eq (ld (t := 3) (a := (Addr.mk gh (oh + Int.toNat ((↑i : Int) + 1) * 1) none)) (dst := some 121) (by kernel_rfl) false 1 (by kernel_rfl) (by simp) [.int .i64 hA] rfl (fun w hh => ld_row hh 0 rfl ((i + 1) * 1) hat1)) ?_
        refine RR [] .z (.i 124 (.bool (decide (hA < (0 : Int)))) (.d (.d (.d (.d (.k .a)))))) .a ?_
        refine RZ ?_
        refine nx_ent (ent_set 124 (.bool (decide (hA < 0))) (.bool false) (by kernel_rfl) (by rw [decide_eq_false (show ¬ hA < 0 by omega)])) ?_
        exact nx_ent (ent_hp [0, 0, 0, 0, 0, 0, 0, 0, 0, 0, 0, 0] rfl) (nx_ent (ent_fr (by kernel_rfl)) hk15)
      refine NT (CF (SK (NT (SQ (RG ?_)))))
      refine RV true [] (.d (.d (.d .a))) (.i 127 (.pointer (some ⟨gh, oh + i * 1, none⟩)) (.d (.k .a))) .a [(0 : Int) ≤ (↑i : Int) ∧ (↑i : Int) < (↑u.ins.length : Int)] ⟨by omega, trivial⟩ ?_
      refine wpr_join ⟨[(159, .bool false), (7, (.int .i64 (↑i : Int))), (5, (.slice (some ⟨gh, oh, none⟩) u.ins.length c1)), (4, (.pointer (some ⟨g2, 0, none⟩))), (3, (.int .i64 (↑k : Int))), (2, (.bool false)), (1, (.pointer (some ⟨g1, 0, none⟩)))], [row 3 1 (some ⟨gh, oh, none⟩) u.ins.length c1 (ints H), ro (some ⟨g5, o5, none⟩) (List.flatMap insC u.ins), ro c.sa (strsC c.strs), ro c.ha (List.flatMap shC c.shapes), gSh c.shapes, ro (some ⟨g0, o0, none⟩) (List.flatMap unC c.units), gUn c.units, gWords, gPow, gNames, .blk g1 26 [.slice c.sa c.strs.length c.sc, .slice c.ha c.shapes.length c.hc, .slice (some ⟨g0, o0, none⟩) c.units.length c.uc, .int .i64 c.main], .blk g2 59 [.string (mkS u.name), .int .i64 u.params, .int .i64 u.slots, .int .i64 u.stack, .bool u.result, .slice (some ⟨g5, o5, none⟩) u.ins.length u.ic, .slice u.va u.vars.length u.vc]]⟩ (fun Q1 hQ1 hk17 => ?_) ?_
      · by_cases hneg : h < 0
        · skip
          refine wpr_eq (ld (t := 3) (a := ⟨gh, oh + i * 1, none⟩) (dst := some 128) (by kernel_rfl) false 1 (by kernel_rfl) (by simp) [.int .i64 h] rfl (fun w hh => ld_row hh 0 rfl (i * 1) hati)) ?_
          refine RR [] (.d (.d .a)) (.i 130 (.bool (decide (h ≥ (0 : Int)))) (.d (.d (.k .a)))) .a ?_
          refine SR 130 (decide (h ≥ (0 : Int))) false (decide_eq_false (by omega)) ?_
          refine RR [] .z (.i 159 (.bool false) (.d (.d (.k .a)))) .a ?_
          refine RZ ?_
          exact nx_ent (ent_hp [0, 0, 0, 0, 0, 0, 0, 0, 0, 0, 0, 0] rfl) (nx_ent (ent_fr (by kernel_rfl)) hk17)
        by_cases k20 : op = 20
        · obtain ⟨g5a, g5b, g5c⟩ := f5 (by omega) (.inl k20)
          obtain ⟨an, rfl⟩ := Int.eq_ofNat_of_zero_le g5a
          have g5b : (an : Int) < u.ins.length := g5b
          have hata := hat an (by omega)
          obtain ⟨hA, hhA⟩ : ∃ x, x = hAt (gr c.p u.p) ((an : Nat) : Int) := ⟨_, rfl⟩
          rw [← hhA] at hata g5c
          subst k20
          refine wpr_eq (ld (t := 3) (a := ⟨gh, oh + i * 1, none⟩) (dst := some 128) (by kernel_rfl) false 1 (by kernel_rfl) (by simp) [.int .i64 h] rfl (fun w hh => ld_row hh 0 rfl (i * 1) hati)) ?_
          refine RR [] (.d (.d .a)) (.i 130 (.bool (decide (h ≥ (0 : Int)))) (.d (.d (.k .a)))) .a ?_
          refine SR 130 (decide (h ≥ (0 : Int))) true (decide_eq_true (by omega)) ?_
          refine RV true [11] (.d (.d (.d (.d (.d .a))))) (.i 135 (.pointer (some ⟨g5, o5 + i * 2, none⟩)) (.k (.d (.k .a)))) .a [(0 : Int) ≤ (↑i : Int) ∧ (↑i : Int) < (↑u.ins.length : Int)] ⟨by omega, trivial⟩ ?_
          refine wpr_eq (ld (t := 60) (a := ⟨g5, o5 + i * 2, none⟩) (dst := some 136) (by kernel_rfl) false 1 (by kernel_rfl) (by simp) [.int .i64 20] rfl (fun w hh => ld_ro hh 1 rfl (i * 2) hopt)) ?_
          refine RV true [11] (.d (.d (.d (.d (.d (.d (.d (.d (.d (.d (.d (.d (.d (.d (.d (.d (.d (.d .a)))))))))))))))))) (.i 154 (.pointer (some ⟨g5, o5 + i * 2 + 1, none⟩)) (.i 149 (.slice (some ⟨gh, oh, none⟩) u.ins.length c1) (.i 148 (.bool true) (.d (.d (.d (.k .a))))))) .a [(0 : Int) ≤ (↑i : Int) ∧ (↑i : Int) < (↑u.ins.length : Int)] ⟨by omega, trivial⟩ ?_
          refine wpr_eq (ld (t := 3) (a := ⟨g5, o5 + i * 2 + 1, none⟩) (dst := some 155) (by kernel_rfl) false 1 (by kernel_rfl) (by simp) [.int .i64 ((an : Nat) : Int)] rfl (fun w hh => ld_ro hh 1 rfl (i * 2 + 1) hagt)) ?_
          refine RV true [] (.d .a) (.i 156 (.pointer (some ⟨gh, oh + an * 1, none⟩)) (.d (.d (.d (.k .a))))) .a [(0 : Int) ≤ (↑an : Int) ∧ (↑an : Int) < (↑u.ins.length : Int)] ⟨by omega, trivial⟩ ?_
          refine wpr_eq (ld (t := 3) (a := ⟨gh, oh + an * 1, none⟩) (dst := some 157) (by kernel_rfl) false 1 (by kernel_rfl) (by simp) [.int .i64 hA] rfl (fun w hh => ld_row hh 0 rfl (an * 1) hata)) ?_
          refine RR [] .z (.i 159 (.bool (decide (hA < (0 : Int)))) (.d (.d (.d (.k .a))))) .a ?_
          refine RZ ?_
          refine nx_ent (ent_set 159 (.bool (decide (hA < 0))) (.bool false) (by kernel_rfl) (by rw [decide_eq_false (show ¬ hA < 0 by omega)])) ?_
          exact nx_ent (ent_hp [0, 0, 0, 0, 0, 0, 0, 0, 0, 0, 0, 0] rfl) (nx_ent (ent_fr (by kernel_rfl)) hk17)
        by_cases k21 : op = 21
        · obtain ⟨g5a, g5b, g5c⟩ := f5 (by omega) (.inr k21)
          obtain ⟨an, rfl⟩ := Int.eq_ofNat_of_zero_le g5a
          have g5b : (an : Int) < u.ins.length := g5b
          have hata := hat an (by omega)
          obtain ⟨hA, hhA⟩ : ∃ x, x = hAt (gr c.p u.p) ((an : Nat) : Int) := ⟨_, rfl⟩
          rw [← hhA] at hata g5c
          subst k21
          refine wpr_eq (ld (t := 3) (a := ⟨gh, oh + i * 1, none⟩) (dst := some 128) (by kernel_rfl) false 1 (by kernel_rfl) (by simp) [.int .i64 h] rfl (fun w hh => ld_row hh 0 rfl (i * 1) hati)) ?_
          refine RR [] (.d (.d .a)) (.i 130 (.bool (decide (h ≥ (0 : Int)))) (.d (.d (.k .a)))) .a ?_
          refine SR 130 (decide (h ≥ (0 : Int))) true (decide_eq_true (by omega)) ?_
          refine RV true [11] (.d (.d (.d (.d (.d .a))))) (.i 135 (.pointer (some ⟨g5, o5 + i * 2, none⟩)) (.k (.d (.k .a)))) .a [(0 : Int) ≤ (↑i : Int) ∧ (↑i : Int) < (↑u.ins.length : Int)] ⟨by omega, trivial⟩ ?_
          refine wpr_eq (ld (t := 60) (a := ⟨g5, o5 + i * 2, none⟩) (dst := some 136) (by kernel_rfl) false 1 (by kernel_rfl) (by simp) [.int .i64 21] rfl (fun w hh => ld_ro hh 1 rfl (i * 2) hopt)) ?_
          refine RV true [11] (.d (.d (.d (.d (.d (.d (.d .a))))))) (.i 143 (.pointer (some ⟨g5, o5 + i * 2, none⟩)) (.i 138 (.bool false) (.d (.d (.k .a))))) .a [(0 : Int) ≤ (↑i : Int) ∧ (↑i : Int) < (↑u.ins.length : Int)] ⟨by omega, trivial⟩ ?_
          refine wpr_eq (ld (t := 60) (a := ⟨g5, o5 + i * 2, none⟩) (dst := some 144) (by kernel_rfl) false 1 (by kernel_rfl) (by simp) [.int .i64 21] rfl (fun w hh => ld_ro hh 1 rfl (i * 2) hopt)) ?_
          refine RV true [11] (.d (.d (.d (.d (.d (.d (.d (.d (.d (.d .a)))))))))) (.i 154 (.pointer (some ⟨g5, o5 + i * 2 + 1, none⟩)) (.i 149 (.slice (some ⟨gh, oh, none⟩) u.ins.length c1) (.i 148 (.bool true) (.d (.d (.d (.d (.k .a)))))))) .a [(0 : Int) ≤ (↑i : Int) ∧ (↑i : Int) < (↑u.ins.length : Int)] ⟨by omega, trivial⟩ ?_
          refine wpr_eq (ld (t := 3) (a := ⟨g5, o5 + i * 2 + 1, none⟩) (dst := some 155) (by kernel_rfl) false 1 (by kernel_rfl) (by simp) [.int .i64 ((an : Nat) : Int)] rfl (fun w hh => ld_ro hh 1 rfl (i * 2 + 1) hagt)) ?_
          refine RV true [] (.d .a) (.i 156 (.pointer (some ⟨gh, oh + an * 1, none⟩)) (.d (.d (.d (.k .a))))) .a [(0 : Int) ≤ (↑an : Int) ∧ (↑an : Int) < (↑u.ins.length : Int)] ⟨by omega, trivial⟩ ?_
          refine wpr_eq (ld (t := 3) (a := ⟨gh, oh + an * 1, none⟩) (dst := some 157) (by kernel_rfl) false 1 (by kernel_rfl) (by simp) [.int .i64 hA] rfl (fun w hh => ld_row hh 0 rfl (an * 1) hata)) ?_
          refine RR [] .z (.i 159 (.bool (decide (hA < (0 : Int)))) (.d (.d (.d (.k .a))))) .a ?_
          refine RZ ?_
          refine nx_ent (ent_set 159 (.bool (decide (hA < 0))) (.bool false) (by kernel_rfl) (by rw [decide_eq_false (show ¬ hA < 0 by omega)])) ?_
          exact nx_ent (ent_hp [0, 0, 0, 0, 0, 0, 0, 0, 0, 0, 0, 0] rfl) (nx_ent (ent_fr (by kernel_rfl)) hk17)
        refine wpr_eq (ld (t := 3) (a := ⟨gh, oh + i * 1, none⟩) (dst := some 128) (by kernel_rfl) false 1 (by kernel_rfl) (by simp) [.int .i64 h] rfl (fun w hh => ld_row hh 0 rfl (i * 1) hati)) ?_
        refine RR [] (.d (.d .a)) (.i 130 (.bool (decide (h ≥ (0 : Int)))) (.d (.d (.k .a)))) .a ?_
        refine SR 130 (decide (h ≥ (0 : Int))) true (decide_eq_true (by omega)) ?_
        refine RV true [11] (.d (.d (.d (.d (.d .a))))) (.i 135 (.pointer (some ⟨g5, o5 + i * 2, none⟩)) (.k (.d (.k .a)))) .a [(0 : Int) ≤ (↑i : Int) ∧ (↑i : Int) < (↑u.ins.length : Int)] ⟨by omega, trivial⟩ ?_
        refine wpr_eq (ld (t := 60) (a := ⟨g5, o5 + i * 2, none⟩) (dst := some 136) (by kernel_rfl) false 1 (by kernel_rfl) (by simp) [.int .i64 op] rfl (fun w hh => ld_ro hh 1 rfl (i * 2) hopt)) ?_
        refine RR [] (.d (.d .a)) (.i 138 (.bool (op == (20 : Int))) (.d (.d (.k .a)))) .a ?_
        refine SR 138 (op == (20 : Int)) false (by simp only [bne_eq_false_iff_eq, beq_eq_false_iff_ne, ne_eq]; omega) ?_
        refine RV true [11] (.d (.d (.d (.d (.d .a))))) (.i 143 (.pointer (some ⟨g5, o5 + i * 2, none⟩)) (.k (.d (.k .a)))) .a [(0 : Int) ≤ (↑i : Int) ∧ (↑i : Int) < (↑u.ins.length : Int)] ⟨by omega, trivial⟩ ?_
        refine wpr_eq (ld (t := 60) (a := ⟨g5, o5 + i * 2, none⟩) (dst := some 144) (by kernel_rfl) false 1 (by kernel_rfl) (by simp) [.int .i64 op] rfl (fun w hh => ld_ro hh 1 rfl (i * 2) hopt)) ?_
        refine RR [] (.d (.d (.d (.d .a)))) (.i 148 (.bool (op == (21 : Int))) (.d (.d (.d (.d (.k .a)))))) .a ?_
        refine SR 148 (op == (21 : Int)) false (by simp only [bne_eq_false_iff_eq, beq_eq_false_iff_ne, ne_eq]; omega) ?_
        refine RR [] .z (.i 159 (.bool false) (.d (.d (.k .a)))) .a ?_
        refine RZ ?_
        exact nx_ent (ent_hp [0, 0, 0, 0, 0, 0, 0, 0, 0, 0, 0, 0] rfl) (nx_ent (ent_fr (by kernel_rfl)) hk17)
      refine NT (CF (SK (BN (NT (RG ?_)))))
      refine RV true [] .z (.i 7 (.int .i64 ((↑i : Int) + 1)) (.d (.d (.k .a)))) .a ([inI64 ((↑i : Int) + (1 : Int))]) ⟨by unfold inI64; omega, trivial⟩ ?_
      refine RZ ?_
      rw [← hia]
      exact fun a' w' hS' => ⟨⟨i + 1, hlti⟩, by dsimp only; omega, ent_fr (by kernel_rfl) _ _ (ent_hp [0, 0, 0, 0, 0, 0, 0, 0, 0, 0, 0, 0] rfl _ _ hS')⟩
    · obtain rfl : i = u.ins.length := by omega
      refine SQ (SQ (RG ?_))
      refine RR [] .z (.i 54 (.bool (decide ((↑u.ins.length : Int) < (↑u.ins.length : Int)))) .a) .a ?_
      refine RZ (NT ?_)
      refine SC 54 (decide ((↑u.ins.length : Int) < (↑u.ins.length : Int))) false (by simp) ?_
      refine CF (EX (TE (TE (BH (BN (NT (RG ?_)))))))
      refine RV true [] .z (.i 3 (.int .i64 ((↑k : Int) + 1)) (.d (.d (.d (.d (.d (.d (.k .a)))))))) .a ([inI64 ((↑k : Int) + (1 : Int))]) ⟨by unfold inI64; omega, trivial⟩ ?_
      refine RZ ?_
      rw [← hua]
      exact fun a' w' hS' => ⟨⟨k + 1, hlt⟩, by dsimp only; omega, ent_fr (by kernel_rfl) _ _ (ent_hp [2, 2, 2, 2, 2, 2, 2, 2, 2] rfl _ _ hS')⟩
  · obtain rfl : k = c.units.length := by omega
    refine SQ (SQ (RG ?_))
    refine RR [8] .z (.i 21 (.bool (decide ((↑c.units.length : Int) < (↑c.units.length : Int)))) .a) .a ?_
    refine RZ (NT ?_)
    refine SC 21 (decide ((↑c.units.length : Int) < (↑c.units.length : Int))) false (by simp) ?_
    refine CF (EX (TE (TE (BH (NT (SQ (RG ?_)))))))
    refine RCG (dst := some 160) .a (lives7_spec) (GV (GV (GV (GI []) 7 view_ro) 6 view_gPow) 5 view_ro) ?_
    rintro v _ ⟨rfl, rfl⟩
    refine RR [] .z (.i 2 (.bool true) .z) .a ?_
    refine RZ (NT (RE ?_))
    refine NE [] .z .a [] (.bool true) ?_
    exact ⟨rfl, rfl⟩
end Go.Proofs.YtgcfomhlgipllaaGreatDoor
namespace Go.Proofs.YtgcfomhlgipllaaGreatDoor
open Go Go.Sx
theorem zeroEnt {Γ : Cx} {fr : Fr} {rest : Hp} : Ent Γ ⟨fr, rest⟩ ⟨fr, ro none ([] : List Value) :: ro none ([] : List Value) :: bag [] :: ro none ([] : List Value) :: bag [] :: rest⟩ :=
  Ent.trans ent_bag_nil (Ent.trans ent_roz (Ent.trans ent_bag_nil (Ent.trans ent_roz ent_roz)))
theorem zeroSame (s : CoV) (hs : s.ok) (h : s.p = noC) : Does Tryz.prog 28 [.agg #[.slice s.sa s.strs.length s.sc, .slice s.ha s.shapes.length s.hc, .slice s.ua s.units.length s.uc, .int .i64 s.main], .agg #[.slice none 0 0, .slice none 0 0, .slice none 0 0, .int .i64 0]]
    [ro s.sa (strsC s.strs), ro s.ha (s.shapes.flatMap shC), gSh s.shapes, ro s.ua (s.units.flatMap unC), gUn s.units, ro none [], ro none [], bag [], ro none [], bag []] (fun v hp' => v = .bool true ∧ hp' = []) := by
  have h1 := rSame_spec s noCv hs noCv_ok (by rw [h, noC_len]; decide) (by rw [show noCv.p = noC from rfl, noC_len]; decide)
  rw [show noCv.p = noC from rfl, h, decide_eq_true rfl] at h1
  exact h1
set_option maxHeartbeats 16000000 in
theorem CodeBack_spec (c : CoV) (hc : c.ok) (a : Option Addr) (k : Nat) (bs : List UInt8) (ha : a = none → bs = []) (hl : bs.length ≤ 1048576) :
    Does Tryz.prog 6 [.agg (coC c).toArray, .slice a bs.length k] (coHp c ++ [ro a (u8s bs), gWords, gPow, gNames]) (fun v hp' => v = .bool true ∧ hp' = []) := by
  have hli := light_spec c hc
  have h1 := cBytes_spec c hc
  have hLb := cLoad_spec a k bs ha (by omega)
  rw [show coC c = [.slice c.sa c.strs.length c.sc, .slice c.ha c.shapes.length c.hc, .slice c.ua c.units.length c.uc, .int .i64 c.main] from rfl] at hli h1 ⊢
  unfold coHp at hli h1 ⊢
  refine fn_enter Tryz.func6 rfl 84 rfl fun w0 h0 => ?_
  refine SQ (RG ?_)
  refine RP [] (.d .a) 2 (.d (.k .a)) .a 26 [.slice c.sa c.strs.length c.sc, .slice c.ha c.shapes.length c.hc, .slice c.ua c.units.length c.uc, .int .i64 c.main] fun g1 => ?_
  refine RR [] .z (.i 4 (.bool false) .a) .a ?_
  refine RZ (NT (SQ (SQ (RG ?_))))
  refine RR [9, 9, 9, 9] (.d .a) (.i 13 (.agg #[.slice c.sa c.strs.length c.sc, .slice c.ha c.shapes.length c.hc, .slice c.ua c.units.length c.uc, .int .i64 c.main]) .a) .a ?_
  refine RCG (dst := some 14) .a (hli) (GV (GV (GV (GV (GV (GI []) 4 view_self) 3 view_ro) 2 view_self) 1 view_ro) 0 view_ro) ?_
  rintro v _ ⟨b, rfl, rfl⟩
  cases b with
  | false =>
    refine RR [] .z (.i 20 (.bool true) (.d (.d (.k .a)))) .a ?_
    refine RZ (NT (CT (SQ (RG ?_))))
    refine RCG (dst := some 21) .a (lives7_spec) (GV (GV (GV (GI []) 8 view_ro) 7 view_gPow) 6 view_ro) ?_
    rintro v _ ⟨rfl, rfl⟩
    refine RR [] .z (.i 4 (.bool true) (.d (.d (.d (.k .a))))) .a ?_
    refine RZ (NT (RE (TR ?_)))
    refine NE [] .z .a [] (.bool true) ?_
    exact ⟨rfl, rfl⟩
  | true =>
  by_cases hlen : bs.length > 20000
  · refine RR [] .z (.i 20 (.bool (decide ((↑bs.length : Int) > (20000 : Int)))) (.d (.d (.k .a)))) .a ?_
    refine RZ (NT ?_)
    refine SC 20 (decide ((↑bs.length : Int) > (20000 : Int))) true (decide_eq_true (by omega)) ?_
    refine CT (SQ (RG ?_))
    refine RCG (dst := some 21) .a (lives7_spec) (GV (GV (GV (GI []) 8 view_ro) 7 view_gPow) 6 view_ro) ?_
    rintro v _ ⟨rfl, rfl⟩
    refine RR [] .z (.i 4 (.bool true) (.d (.d (.d (.d (.k .a)))))) .a ?_
    refine RZ (NT (RE (TR ?_)))
    refine NE [] .z .a [] (.bool true) ?_
    exact ⟨rfl, rfl⟩
  refine RR [] .z (.i 20 (.bool (decide ((↑bs.length : Int) > (20000 : Int)))) (.d (.d (.k .a)))) .a ?_
  refine RZ (NT ?_)
  refine SC 20 (decide ((↑bs.length : Int) > (20000 : Int))) false (decide_eq_false (by omega)) ?_
  refine CF (SK (NT (SQ (SQ (RG ?_)))))
  refine RR [9, 9, 9, 9] (.d .a) (.i 23 (.agg #[.slice c.sa c.strs.length c.sc, .slice c.ha c.shapes.length c.hc, .slice c.ua c.units.length c.uc, .int .i64 c.main]) (.d (.d (.k .a)))) .a ?_
  refine RCG (dst := some 24) .a (h1) (GV (GV (GV (GV (GV (GV (GI []) 6 view_ro) 4 view_self) 3 view_ro) 2 view_self) 1 view_ro) 0 view_ro) ?_
  intro v hp' hv
  by_cases hm : rightC c.p = true
  · rw [if_pos hm] at hv
    obtain ⟨a1, c1, rfl, rfl⟩ := hv
    have hn := right_n hc hm
    have hB := encCo_l hn (right_head hm)
    obtain ⟨e1, e2⟩ := code_back hn hm
    refine wpr_fact (fun w h => row_addr h 0 rfl (code_pos _ hn)) ?_
    rintro ⟨gb, ob, rfl⟩
    have hL := cLoad_spec (some ⟨gb, ob, none⟩) c1 (encCo c.p) (fun h => nomatch h) (by omega)
    rw [e1, e2] at hL
    obtain ⟨B, hBd⟩ : ∃ B, B = encCo c.p := ⟨_, rfl⟩
    rw [← hBd] at hL ⊢
    refine RR [] .z (.i 6 (.int .i64 0) (.i 5 (.slice (some ⟨gb, ob, none⟩) B.length c1) (.d (.d (.k .a))))) .a ?_
    refine RZ (NT (SQ (RG ?_)))
    refine RR [] .z (.i 28 (.bool true) .a) .a ?_
    refine RZ (NT (CT (SQ (RG ?_))))
    refine RR [] (.d .a) (.i 30 (.slice (some ⟨gb, ob, none⟩) B.length c1) (.d (.d (.d (.k .a))))) .a ?_
    refine RCG (dst := some 31) .a (hL) (GV (GV (GI []) 7 view_ro) 0 view_row) ?_
    rintro v _ ⟨t, ht1, ht2, rfl, rfl⟩
    have hSt := rSame_spec c t hc ht2 (by omega) (by rw [ht1]; omega)
    rw [ht1, decide_eq_true rfl] at hSt
    rw [show coC c = [.slice c.sa c.strs.length c.sc, .slice c.ha c.shapes.length c.hc, .slice c.ua c.units.length c.uc, .int .i64 c.main] from rfl, show coC t = [.slice t.sa t.strs.length t.sc, .slice t.ha t.shapes.length t.hc, .slice t.ua t.units.length t.uc, .int .i64 t.main] from rfl] at hSt
    unfold coHp at hSt
    rw [show coC t = [.slice t.sa t.strs.length t.sc, .slice t.ha t.shapes.length t.hc, .slice t.ua t.units.length t.uc, .int .i64 t.main] from rfl]
    rw [show coH t = [row 9 1 t.sa t.strs.length t.sc (strsC t.strs), row 111 2 t.ha t.shapes.length t.hc (t.shapes.flatMap shC), star (t.shapes.flatMap shRows), row 59 7 t.ua t.units.length t.uc (t.units.flatMap unC), star (t.units.flatMap unRows)] from rfl]
    refine RP [] (.d (.d (.d (.d .a)))) 7 (.i 33 (.int .i64 0) (.i 32 (.agg #[.slice t.sa t.strs.length t.sc, .slice t.ha t.shapes.length t.hc, .slice t.ua t.units.length t.uc, .int .i64 t.main]) (.d (.d (.k .a))))) .a 26 [.slice none 0 0, .slice none 0 0, .slice none 0 0, .int .i64 0] fun g2 => ?_
    refine RR [16, 16, 16, 16] .z (.i 8 (.int .i64 0) (.k (.d (.d (.k .a))))) (.k (.k (.k (.k (.k (.k (.k (.k (.k (.k (.k (.k (.k (.k (.k (.k (.u (.i (.slice t.sa t.strs.length t.sc) (.i (.slice t.ha t.shapes.length t.hc) (.i (.slice t.ua t.units.length t.uc) (.i (.int .i64 t.main) .z)))) .a))))))))))))))))) ?_
    refine RZ (NT (SQ (RG ?_)))
    refine RR [15, 15, 15, 15, 16, 16, 16, 16] (.d (.d (.d (.d (.d .a))))) (.i 38 (.agg #[.slice t.sa t.strs.length t.sc, .slice t.ha t.shapes.length t.hc, .slice t.ua t.units.length t.uc, .int .i64 t.main]) (.i 37 (.agg #[.slice c.sa c.strs.length c.sc, .slice c.ha c.shapes.length c.hc, .slice c.ua c.units.length c.uc, .int .i64 c.main]) (.i 36 (.bool false) (.d (.d (.k (.d (.k .a)))))))) .a ?_
    refine RCG (dst := some 39) .a (hSt) (GV (GV (GV (GV (GV (GV (GV (GV (GV (GV (GI []) 4 view_gUn) 3 view_row) 2 view_gSh) 1 view_row) 0 view_row) 10 view_self) 9 view_ro) 8 view_self) 7 view_ro) 6 view_ro) ?_
    rintro v _ ⟨rfl, rfl⟩
    refine RR [] .z (.i 41 (.bool false) (.d (.d (.d (.d (.k .a)))))) .a ?_
    refine RZ (NT (CF (SK (NT (SQ (RG ?_))))))
    refine RR [] (.d .a) (.i 50 (.slice a bs.length k) (.d (.k .a))) .a ?_
    refine RCG (dst := some 51) .a (hLb) (GV (GV (GI []) 12 view_ro) 11 view_ro) ?_
    rintro v _ ⟨u, hu1, hu2, rfl, rfl⟩
    rw [show coC u = [.slice u.sa u.strs.length u.sc, .slice u.ha u.shapes.length u.hc, .slice u.ua u.units.length u.uc, .int .i64 u.main] from rfl]
    rw [show coH u = [row 9 1 u.sa u.strs.length u.sc (strsC u.strs), row 111 2 u.ha u.shapes.length u.hc (u.shapes.flatMap shC), star (u.shapes.flatMap shRows), row 59 7 u.ua u.units.length u.uc (u.units.flatMap unC), star (u.units.flatMap unRows)] from rfl]
    by_cases hE : ldE bs = 0
    · obtain ⟨f1, f2⟩ := code_form hE
      have hby := cBytes_spec u hu2
      have hck := ccheck_spec u hu2
      rw [hu1, f1] at hby
      rw [hu1, if_pos f2] at hck
      rw [show coC u = [.slice u.sa u.strs.length u.sc, .slice u.ha u.shapes.length u.hc, .slice u.ua u.units.length u.uc, .int .i64 u.main] from rfl] at hby hck
      unfold coHp at hby hck
      rw [hE]
      refine RP [] (.d (.d (.d (.d .a)))) 9 (.i 53 (.int .i64 0) (.i 52 (.agg #[.slice u.sa u.strs.length u.sc, .slice u.ha u.shapes.length u.hc, .slice u.ua u.units.length u.uc, .int .i64 u.main]) (.d (.d (.k .a))))) .a 26 [.slice none 0 0, .slice none 0 0, .slice none 0 0, .int .i64 0] fun g3 => ?_
      refine RR [22, 22, 22, 22] .z (.i 10 (.int .i64 0) (.k (.d (.d (.k .a))))) (.k (.k (.k (.k (.k (.k (.k (.k (.k (.k (.k (.k (.k (.k (.k (.k (.k (.k (.k (.k (.k (.k (.u (.i (.slice u.sa u.strs.length u.sc) (.i (.slice u.ha u.shapes.length u.hc) (.i (.slice u.ua u.units.length u.uc) (.i (.int .i64 u.main) .z)))) .a))))))))))))))))))))))) ?_
      refine RZ (NT (SQ (SQ (RG ?_))))
      refine RR [] .z (.i 55 (.bool false) (.d (.k .a))) .a ?_
      refine RZ (NT (CF (SK (NT (SQ (RG ?_))))))
      refine RR [22, 22, 22, 22] (.d .a) (.i 63 (.agg #[.slice u.sa u.strs.length u.sc, .slice u.ha u.shapes.length u.hc, .slice u.ua u.units.length u.uc, .int .i64 u.main]) (.d (.k .a))) .a ?_
      refine RCG (dst := some 64) .a (hby) (GV (GV (GV (GV (GV (GV (GI []) 17 view_ro) 4 view_gUn) 3 view_row) 2 view_gSh) 1 view_row) 0 view_row) ?_
      intro v hp' hv
      rw [if_pos f2] at hv
      obtain ⟨a9, c9, rfl, rfl⟩ := hv
      refine RR [] .z (.i 12 (.int .i64 0) (.i 11 (.slice a9 bs.length c9) (.d (.d (.k .a))))) .a ?_
      refine RZ (NT (SQ (RG ?_)))
      refine RR [] (.d (.d (.d (.d .a)))) (.i 70 (.slice a9 bs.length c9) (.i 69 (.bool true) (.d (.d (.k .a))))) .a ?_
      refine wpr_eq (b2s (a := 39) (b := 9) (ad := a9) (n := bs.length) (c := c9) (dst := some 71) (by kernel_rfl) (by kernel_rfl) bs (by first | rfl | simp) (fun w h => b2s_row h 0 rfl)) ?_
      refine RR [] (.d .a) (.i 72 (.slice a bs.length k) (.k (.d (.k (.k (.k .z)))))) .a ?_
      refine wpr_eq (b2s (a := 39) (b := 9) (ad := a) (n := bs.length) (c := k) (dst := some 73) (by kernel_rfl) (by kernel_rfl) bs (by first | rfl | simp) (fun w h => b2s_ro h 17 rfl)) ?_
      refine RR [] (.d (.d (.d .a))) (.i 76 (.bool (decide (bs = bs))) (.d (.d (.d (.d (.k .a)))))) .a ?_
      refine SR 76 (decide (bs = bs)) true (by simp) ?_
      refine RR [23, 23, 23, 23] (.d .a) (.i 77 (.agg #[.slice u.sa u.strs.length u.sc, .slice u.ha u.shapes.length u.hc, .slice u.ua u.units.length u.uc, .int .i64 u.main]) (.k (.d (.d (.k .a))))) .a ?_
      refine RCG (dst := some 78) .a (hck) (GV (GV (GV (GV (GV (GV (GI []) 18 view_ro) 5 view_gUn) 4 view_row) 3 view_gSh) 2 view_row) 1 view_row) ?_
      rintro v _ ⟨rfl, rfl⟩
      refine RR [] (.d (.d (.d .a))) (.i 81 (.bool true) (.d (.d (.d (.k .a))))) .a ?_
      refine RCG (dst := some 82) .a (lives7_spec) (GV (GV (GV (GI []) 20 view_ro) 19 view_gPow) 18 view_ro) ?_
      rintro v _ ⟨rfl, rfl⟩
      refine RR [] .z (.i 4 (.bool true) .z) .a ?_
      refine RZ (NT (RE ?_))
      refine NE [] .z .a [] (.bool true) ?_
      exact ⟨rfl, rfl⟩
    · have hz := zeroSame u hu2 (by rw [hu1]; exact ldC_bad hE)
      refine RP [] (.d (.d (.d (.d .a)))) 9 (.i 53 (.int .i64 (ldE bs)) (.i 52 (.agg #[.slice u.sa u.strs.length u.sc, .slice u.ha u.shapes.length u.hc, .slice u.ua u.units.length u.uc, .int .i64 u.main]) (.d (.d (.k .a))))) .a 26 [.slice none 0 0, .slice none 0 0, .slice none 0 0, .int .i64 0] fun g3 => ?_
      refine RR [22, 22, 22, 22] .z (.i 10 (.int .i64 (ldE bs)) (.k (.d (.d (.k .a))))) (.k (.k (.k (.k (.k (.k (.k (.k (.k (.k (.k (.k (.k (.k (.k (.k (.k (.k (.k (.k (.k (.k (.u (.i (.slice u.sa u.strs.length u.sc) (.i (.slice u.ha u.shapes.length u.hc) (.i (.slice u.ua u.units.length u.uc) (.i (.int .i64 u.main) .z)))) .a))))))))))))))))))))))) ?_
      refine RZ (NT (SQ (SQ (RG ?_))))
      refine RR [] .z (.i 55 (.bool (ldE bs != (0 : Int))) (.d (.k .a))) .a ?_
      refine RZ (NT ?_)
      refine SC 55 (ldE bs != (0 : Int)) true (by simp only [bne_iff_ne, beq_iff_eq, ne_eq]; omega) ?_
      refine CT (SQ (RG ?_))
      refine RR [22, 22, 22, 22] (.d (.d .a)) (.i 57 (.agg #[.slice none 0 0, .slice none 0 0, .slice none 0 0, .int .i64 0]) (.i 56 (.agg #[.slice u.sa u.strs.length u.sc, .slice u.ha u.shapes.length u.hc, .slice u.ua u.units.length u.uc, .int .i64 u.main]) (.d (.d (.k .a))))) .a ?_
      refine wpr_ent zeroEnt ?_
      refine RCG (dst := some 58) .a (hz) (GV (GV (GV (GV (GV (GV (GV (GV (GV (GV (GI []) 2 view_self) 0 view_ro) 2 view_self) 0 view_ro) 0 view_ro) 9 view_gUn) 8 view_row) 7 view_gSh) 6 view_row) 5 view_row) ?_
      rintro v _ ⟨rfl, rfl⟩
      refine RR [] (.d .a) (.i 59 (.bool true) (.d (.d (.d (.k .a))))) .a ?_
      refine RCG (dst := some 60) .a (lives7_spec) (GV (GV (GV (GI []) 24 view_ro) 23 view_gPow) 22 view_ro) ?_
      rintro v _ ⟨rfl, rfl⟩
      refine RR [] .z (.i 4 (.bool true) (.d (.d (.k (.d (.k .a)))))) .a ?_
      refine RZ (NT (RE (TR ?_)))
      refine NE [] .z .a [] (.bool true) ?_
      exact ⟨rfl, rfl⟩
  · rw [if_neg hm] at hv
    obtain ⟨rfl, rfl⟩ := hv
    refine RR [] .z (.i 6 (.int .i64 2) (.i 5 (.slice none 0 0) (.d (.d (.k .a))))) .a ?_
    refine RZ (NT (SQ (RG ?_)))
    refine RR [] .z (.i 28 (.bool false) .a) .a ?_
    refine RZ (NT (CF (SQ (RG ?_))))
    refine RR [] .z (.i 48 (.bool false) (.d (.d (.d (.k (.d (.k .a))))))) .a ?_
    refine RZ (NT (CF (SK (NT (SQ (RG ?_))))))
    refine RR [] (.d .a) (.i 50 (.slice a bs.length k) (.d (.k .a))) .a ?_
    refine RCG (dst := some 51) .a (hLb) (GV (GV (GI []) 6 view_ro) 5 view_ro) ?_
    rintro v _ ⟨u, hu1, hu2, rfl, rfl⟩
    rw [show coC u = [.slice u.sa u.strs.length u.sc, .slice u.ha u.shapes.length u.hc, .slice u.ua u.units.length u.uc, .int .i64 u.main] from rfl]
    rw [show coH u = [row 9 1 u.sa u.strs.length u.sc (strsC u.strs), row 111 2 u.ha u.shapes.length u.hc (u.shapes.flatMap shC), star (u.shapes.flatMap shRows), row 59 7 u.ua u.units.length u.uc (u.units.flatMap unC), star (u.units.flatMap unRows)] from rfl]
    by_cases hE : ldE bs = 0
    · obtain ⟨f1, f2⟩ := code_form hE
      have hby := cBytes_spec u hu2
      have hck := ccheck_spec u hu2
      rw [hu1, f1] at hby
      rw [hu1, if_pos f2] at hck
      rw [show coC u = [.slice u.sa u.strs.length u.sc, .slice u.ha u.shapes.length u.hc, .slice u.ua u.units.length u.uc, .int .i64 u.main] from rfl] at hby hck
      unfold coHp at hby hck
      rw [hE]
      refine RP [] (.d (.d (.d (.d .a)))) 9 (.i 53 (.int .i64 0) (.i 52 (.agg #[.slice u.sa u.strs.length u.sc, .slice u.ha u.shapes.length u.hc, .slice u.ua u.units.length u.uc, .int .i64 u.main]) (.d (.d (.k .a))))) .a 26 [.slice none 0 0, .slice none 0 0, .slice none 0 0, .int .i64 0] fun g2 => ?_
      refine RR [15, 15, 15, 15] .z (.i 10 (.int .i64 0) (.k (.d (.d (.k .a))))) (.k (.k (.k (.k (.k (.k (.k (.k (.k (.k (.k (.k (.k (.k (.k (.u (.i (.slice u.sa u.strs.length u.sc) (.i (.slice u.ha u.shapes.length u.hc) (.i (.slice u.ua u.units.length u.uc) (.i (.int .i64 u.main) .z)))) .a)))))))))))))))) ?_
      refine RZ (NT (SQ (SQ (RG ?_))))
      refine RR [] .z (.i 55 (.bool false) (.d (.k .a))) .a ?_
      refine RZ (NT (CF (SK (NT (SQ (RG ?_))))))
      refine RR [15, 15, 15, 15] (.d .a) (.i 63 (.agg #[.slice u.sa u.strs.length u.sc, .slice u.ha u.shapes.length u.hc, .slice u.ua u.units.length u.uc, .int .i64 u.main]) (.d (.k .a))) .a ?_
      refine RCG (dst := some 64) .a (hby) (GV (GV (GV (GV (GV (GV (GI []) 11 view_ro) 4 view_gUn) 3 view_row) 2 view_gSh) 1 view_row) 0 view_row) ?_
      intro v hp' hv
      rw [if_pos f2] at hv
      obtain ⟨a9, c9, rfl, rfl⟩ := hv
      refine RR [] .z (.i 12 (.int .i64 0) (.i 11 (.slice a9 bs.length c9) (.d (.d (.k .a))))) .a ?_
      refine RZ (NT (SQ (RG ?_)))
      refine RR [] (.d (.d (.d (.d .a)))) (.i 70 (.slice a9 bs.length c9) (.i 69 (.bool true) (.d (.d (.k .a))))) .a ?_
      refine wpr_eq (b2s (a := 39) (b := 9) (ad := a9) (n := bs.length) (c := c9) (dst := some 71) (by kernel_rfl) (by kernel_rfl) bs (by first | rfl | simp) (fun w h => b2s_row h 0 rfl)) ?_
      refine RR [] (.d .a) (.i 72 (.slice a bs.length k) (.k (.d (.k (.k (.k .z)))))) .a ?_
      refine wpr_eq (b2s (a := 39) (b := 9) (ad := a) (n := bs.length) (c := k) (dst := some 73) (by kernel_rfl) (by kernel_rfl) bs (by first | rfl | simp) (fun w h => b2s_ro h 11 rfl)) ?_
      refine RR [] (.d (.d (.d .a))) (.i 76 (.bool (decide (bs = bs))) (.d (.d (.d (.d (.k .a)))))) .a ?_
      refine SR 76 (decide (bs = bs)) true (by simp) ?_
      refine RR [16, 16, 16, 16] (.d .a) (.i 77 (.agg #[.slice u.sa u.strs.length u.sc, .slice u.ha u.shapes.length u.hc, .slice u.ua u.units.length u.uc, .int .i64 u.main]) (.k (.d (.d (.k .a))))) .a ?_
      refine RCG (dst := some 78) .a (hck) (GV (GV (GV (GV (GV (GV (GI []) 12 view_ro) 5 view_gUn) 4 view_row) 3 view_gSh) 2 view_row) 1 view_row) ?_
      rintro v _ ⟨rfl, rfl⟩
      refine RR [] (.d (.d (.d .a))) (.i 81 (.bool true) (.d (.d (.d (.k .a))))) .a ?_
      refine RCG (dst := some 82) .a (lives7_spec) (GV (GV (GV (GI []) 14 view_ro) 13 view_gPow) 12 view_ro) ?_
      rintro v _ ⟨rfl, rfl⟩
      refine RR [] .z (.i 4 (.bool true) .z) .a ?_
      refine RZ (NT (RE ?_))
      refine NE [] .z .a [] (.bool true) ?_
      exact ⟨rfl, rfl⟩
    · have hz := zeroSame u hu2 (by rw [hu1]; exact ldC_bad hE)
      refine RP [] (.d (.d (.d (.d .a)))) 9 (.i 53 (.int .i64 (ldE bs)) (.i 52 (.agg #[.slice u.sa u.strs.length u.sc, .slice u.ha u.shapes.length u.hc, .slice u.ua u.units.length u.uc, .int .i64 u.main]) (.d (.d (.k .a))))) .a 26 [.slice none 0 0, .slice none 0 0, .slice none 0 0, .int .i64 0] fun g2 => ?_
      refine RR [15, 15, 15, 15] .z (.i 10 (.int .i64 (ldE bs)) (.k (.d (.d (.k .a))))) (.k (.k (.k (.k (.k (.k (.k (.k (.k (.k (.k (.k (.k (.k (.k (.u (.i (.slice u.sa u.strs.length u.sc) (.i (.slice u.ha u.shapes.length u.hc) (.i (.slice u.ua u.units.length u.uc) (.i (.int .i64 u.main) .z)))) .a)))))))))))))))) ?_
      refine RZ (NT (SQ (SQ (RG ?_))))
      refine RR [] .z (.i 55 (.bool (ldE bs != (0 : Int))) (.d (.k .a))) .a ?_
      refine RZ (NT ?_)
      refine SC 55 (ldE bs != (0 : Int)) true (by simp only [bne_iff_ne, beq_iff_eq, ne_eq]; omega) ?_
      refine CT (SQ (RG ?_))
      refine RR [15, 15, 15, 15] (.d (.d .a)) (.i 57 (.agg #[.slice none 0 0, .slice none 0 0, .slice none 0 0, .int .i64 0]) (.i 56 (.agg #[.slice u.sa u.strs.length u.sc, .slice u.ha u.shapes.length u.hc, .slice u.ua u.units.length u.uc, .int .i64 u.main]) (.d (.d (.k .a))))) .a ?_
      refine wpr_ent zeroEnt ?_
      refine RCG (dst := some 58) .a (hz) (GV (GV (GV (GV (GV (GV (GV (GV (GV (GV (GI []) 2 view_self) 0 view_ro) 2 view_self) 0 view_ro) 0 view_ro) 9 view_gUn) 8 view_row) 7 view_gSh) 6 view_row) 5 view_row) ?_
      rintro v _ ⟨rfl, rfl⟩
      refine RR [] (.d .a) (.i 59 (.bool true) (.d (.d (.d (.k .a))))) .a ?_
      refine RCG (dst := some 60) .a (lives7_spec) (GV (GV (GV (GI []) 18 view_ro) 17 view_gPow) 16 view_ro) ?_
      rintro v _ ⟨rfl, rfl⟩
      refine RR [] .z (.i 4 (.bool true) (.d (.d (.k (.d (.k .a)))))) .a ?_
      refine RZ (NT (RE (TR ?_)))
      refine NE [] .z .a [] (.bool true) ?_
      exact ⟨rfl, rfl⟩
theorem view_u8 {a : Option Addr} (l : List UInt8) (k : Nat) : View (ro a (u8s l)) (ro a (u8s (l.take k))) := by
  have h := view_front (a := a) (xs := u8s l) k
  have e : (u8s l).take k = u8s (l.take k) := by simp [u8s, List.map_take]
  rwa [e] at h
set_option maxHeartbeats 16000000 in
theorem CodeCut_spec (c : CoV) (hc : c.ok) (n : Int) (hn : -9223372036854775808 ≤ n ∧ n ≤ 9223372036854775807) (m : UInt8) :
    Does Tryz.prog 8 [.agg (coC c).toArray, .int .i64 n, .int .u8 m.toNat] (coHp c ++ [gWords, gPow, gNames]) (fun v hp' => v = .bool true ∧ hp' = []) := by
  have hli := light_spec c hc
  have h1 := cBytes_spec c hc
  rw [show coC c = [.slice c.sa c.strs.length c.sc, .slice c.ha c.shapes.length c.hc, .slice c.ua c.units.length c.uc, .int .i64 c.main] from rfl] at hli h1 ⊢
  unfold coHp at hli h1 ⊢
  refine fn_enter Tryz.func8 rfl 81 rfl fun w0 h0 => ?_
  refine SQ (RG ?_)
  refine RP [] (.d .a) 3 (.d (.k .a)) .a 26 [.slice c.sa c.strs.length c.sc, .slice c.ha c.shapes.length c.hc, .slice c.ua c.units.length c.uc, .int .i64 c.main] fun g1 => ?_
  refine RR [] .z (.i 6 (.bool false) .a) .a ?_
  refine RZ (NT (SQ (SQ (RG ?_))))
  refine RR [8, 8, 8, 8] (.d .a) (.i 13 (.agg #[.slice c.sa c.strs.length c.sc, .slice c.ha c.shapes.length c.hc, .slice c.ua c.units.length c.uc, .int .i64 c.main]) .a) .a ?_
  refine RCG (dst := some 14) .a (hli) (GV (GV (GV (GV (GV (GI []) 4 view_self) 3 view_ro) 2 view_self) 1 view_ro) 0 view_ro) ?_
  rintro v _ ⟨b, rfl, rfl⟩
  cases b with
  | false =>
    refine RR [] .z (.i 15 (.bool true) (.d (.d (.k .a)))) .a ?_
    refine RZ (NT (CT (SQ (RG ?_))))
    refine RCG (dst := some 16) .a (lives7_spec) (GV (GV (GV (GI []) 7 view_ro) 6 view_gPow) 5 view_ro) ?_
    rintro v _ ⟨rfl, rfl⟩
    refine RR [] .z (.i 6 (.bool true) (.d (.d (.d (.k .a))))) .a ?_
    refine RZ (NT (RE (TR ?_)))
    refine NE [] .z .a [] (.bool true) ?_
    exact ⟨rfl, rfl⟩
  | true =>
  refine RR [] .z (.i 15 (.bool false) (.d (.d (.k .a)))) .a ?_
  refine RZ (NT (CF (SK (NT (SQ (RG ?_))))))
  refine RR [8, 8, 8, 8] (.d .a) (.i 18 (.agg #[.slice c.sa c.strs.length c.sc, .slice c.ha c.shapes.length c.hc, .slice c.ua c.units.length c.uc, .int .i64 c.main]) (.d (.k (.d (.k .a))))) .a ?_
  refine RCG (dst := some 19) .a (h1) (GV (GV (GV (GV (GV (GV (GI []) 5 view_ro) 4 view_self) 3 view_ro) 2 view_self) 1 view_ro) 0 view_ro) ?_
  intro v hp' hv
  by_cases hm : rightC c.p = true
  · rw [if_pos hm] at hv
    obtain ⟨a1, c1, rfl, rfl⟩ := hv
    have hnC := right_n hc hm
    have hB := encCo_l hnC (right_head hm)
    have hpos := code_pos _ hnC
    have hcutE := fun (k : Nat) (hk : k < (encCo c.p).length) => code_cut hnC hk
    have hmoreE := code_more hnC m
    obtain ⟨B, hBd⟩ : ∃ B, B = encCo c.p := ⟨_, rfl⟩
    rw [← hBd] at hB hpos hcutE hmoreE ⊢
    refine wpr_fact (fun w h => row_addr h 0 rfl hpos) ?_
    rintro ⟨gb, ob, rfl⟩
    refine wpr_fact (fun w h => row_cap h 0 rfl) fun hcap => ?_
    have hcap2 := hcap.2.1
    have hU : IntKind.u64.wrap (B.length : Int) = (B.length : Int) := by rw [u64_wrap]; omega
    obtain ⟨cut, hcl, hcut⟩ : ∃ cut : Nat, cut < B.length ∧ IntKind.i64.wrap ((IntKind.u64.wrap n).tmod (IntKind.u64.wrap (B.length : Int))) = (cut : Int) := by
      rw [hU]
      have h0 : 0 ≤ IntKind.u64.wrap n := by rw [u64_wrap]; omega
      rw [Int.tmod_eq_emod_of_nonneg h0]
      have h1 := Int.emod_nonneg (IntKind.u64.wrap n) (show (B.length : Int) ≠ 0 by omega)
      have h2 := Int.emod_lt_of_pos (IntKind.u64.wrap n) (show 0 < (B.length : Int) by omega)
      refine ⟨(IntKind.u64.wrap n % (B.length : Int)).toNat, by omega, ?_⟩
      rw [i64_wrap]
      split <;> omega
    refine RR [] .z (.i 8 (.int .i64 0) (.i 7 (.slice (some ⟨gb, ob, none⟩) B.length c1) (.d (.d (.k .a))))) .a ?_
    refine RZ (NT (SQ (SQ (RG ?_))))
    refine RR [] .z (.i 28 (.bool ((↑B.length : Int) == (0 : Int))) .a) .a ?_
    refine RZ (NT ?_)
    refine SC 28 ((↑B.length : Int) == (0 : Int)) false (by simp only [bne_eq_false_iff_eq, beq_eq_false_iff_ne, ne_eq]; omega) ?_
    refine CF (SK (NT (SQ (RG ?_))))
    refine RV true [] (.d (.d (.d (.d (.d (.d (.d (.d (.d .a))))))))) (.i 48 (.slice (some ⟨gb, ob, none⟩) (Int.toNat (IntKind.wrap IntKind.i64 (Int.tmod (IntKind.wrap IntKind.u64 n) (IntKind.wrap IntKind.u64 (↑(List.length B) : Int))))) c1) (.d (.d (.d (.k (.k (.d (.k .a)))))))) .a [IntKind.u64.wrap (↑B.length : Int) ≠ (0 : Int), (0 : Int) ≤ IntKind.i64.wrap ((IntKind.u64.wrap n).tmod (IntKind.u64.wrap (↑B.length : Int))) ∧ IntKind.i64.wrap ((IntKind.u64.wrap n).tmod (IntKind.u64.wrap (↑B.length : Int))) ≤ (↑c1 : Int)] ⟨by omega, by omega, trivial⟩ ?_
    have hcT : (B.take cut).length = cut := by rw [List.length_take]; omega
    refine wpr_ent (ent_set 48 (.slice (some ⟨gb, ob, none⟩) (Int.toNat (IntKind.wrap IntKind.i64 (Int.tmod (IntKind.wrap IntKind.u64 n) (IntKind.wrap IntKind.u64 (↑(List.length B) : Int))))) c1) (.slice (some ⟨gb, ob, none⟩) (B.take cut).length c1) (by kernel_rfl) (by rw [hcut, hcT]; rfl)) ?_
    refine wpr_ent (ent_turn 0 (ro (some ⟨gb, ob, none⟩) (u8s B)) rfl (turn_view view_row) rfl) ?_
    refine wpr_ent (ent_copy 0 (ro (some ⟨gb, ob, none⟩) (u8s (B.take cut))) rfl (fun h => h) (view_u8 B cut)) ?_
    have hL1 := cLoad_spec (some ⟨gb, ob, none⟩) c1 (B.take cut) (fun h => nomatch h) (by omega)
    have hE1 := hcutE cut hcl
    rw [hE1] at hL1
    refine RCG (dst := some 49) .a (hL1) (GV (GV (GI []) 7 view_ro) 0 view_ro) ?_
    rintro v _ ⟨u, hu1, hu2, rfl, rfl⟩
    have hz1 := zeroSame u hu2 (by rw [hu1]; exact ldC_bad (by rw [hE1]; decide))
    rw [show coC u = [.slice u.sa u.strs.length u.sc, .slice u.ha u.shapes.length u.hc, .slice u.ua u.units.length u.uc, .int .i64 u.main] from rfl]
    rw [show coH u = [row 9 1 u.sa u.strs.length u.sc (strsC u.strs), row 111 2 u.ha u.shapes.length u.hc (u.shapes.flatMap shC), star (u.shapes.flatMap shRows), row 59 7 u.ua u.units.length u.uc (u.units.flatMap unC), star (u.units.flatMap unRows)] from rfl]
    refine RP [] (.d (.d (.d (.d .a)))) 9 (.i 51 (.int .i64 3) (.i 50 (.agg #[.slice u.sa u.strs.length u.sc, .slice u.ha u.shapes.length u.hc, .slice u.ua u.units.length u.uc, .int .i64 u.main]) (.d (.d (.d (.k .a)))))) .a 26 [.slice none 0 0, .slice none 0 0, .slice none 0 0, .int .i64 0] fun g2 => ?_
    refine RR [16, 16, 16, 16] .z (.i 10 (.int .i64 3) (.k (.d (.d (.k .a))))) (.k (.k (.k (.k (.k (.k (.k (.k (.k (.k (.k (.k (.k (.k (.k (.k (.u (.i (.slice u.sa u.strs.length u.sc) (.i (.slice u.ha u.shapes.length u.hc) (.i (.slice u.ua u.units.length u.uc) (.i (.int .i64 u.main) .z)))) .a))))))))))))))))) ?_
    refine RZ (NT (SQ (RG ?_)))
    refine RN [] (.d .a) 53 (fun g3 => (.slice (some ⟨g3, 0, none⟩) 0 0)) .a .a 5 [] fun g3 => ?_
    refine RR [] (.d .a) (.i 54 (.slice (some ⟨gb, ob, none⟩) B.length c1) (.k (.k (.k (.d (.k .a)))))) .a ?_
    refine wpr_ent (ent_turn 17 (row 5 1 (some ⟨g3, 0, none⟩) 0 0 []) rfl (turn_blk rfl (by intro u hu; cases hu) (by simp)) rfl) ?_
    refine wpr_app (a := (some ⟨g3, 0, none⟩)) (n := 0) (cap := 0) (x := (.slice (some ⟨gb, ob, none⟩) B.length c1)) (t := 39) (xt := 39) (dst := some 55) (by kernel_rfl) (e := 5) (sz := 1) (bytes := 1) (by kernel_rfl) 17 (xs := []) (by kernel_rfl) (m := (B.length)) (news := (u8s B)) (fun w h => src_ro h 6 rfl (by simp [u8s_len]) (fun e => by cases e)) (by unfold maxLen; omega) (by omega) ?_
    intro a2 c2 hn2
    simp only [List.nil_append, Nat.zero_add]
    refine RN [] (.d (.d .a)) 57 (fun g4 => (.slice (some ⟨g4, 0, none⟩) 1 1)) (.k (.d (.d (.k (.k (.k .z)))))) .a 5 [.int .u8 (↑m.toNat : Int)] fun g4 => ?_
    refine wpr_ent (ent_turn 18 (ro (some ⟨g4, 0, none⟩) (u8s [m])) rfl (turn_rblk (l := u8s [m]) (by intro v hv; rw [List.mem_singleton.1 hv]; rfl)) rfl) ?_
    refine wpr_app (a := a2) (n := B.length) (cap := c2) (x := (.slice (some ⟨g4, 0, none⟩) 1 1)) (t := 39) (xt := 39) (dst := some 58) (by kernel_rfl) (e := 5) (sz := 1) (bytes := 1) (by kernel_rfl) 17 (xs := (u8s B)) (by kernel_rfl) (m := 1) (news := (u8s [m])) (fun w h => src_ro h 18 rfl rfl (fun e => by cases e)) (by unfold maxLen; omega) (by omega) ?_
    intro a3 c3 hn3
    rw [show B.length + 1 = (B ++ [m]).length by simp, show u8s B ++ u8s [m] = u8s (B ++ [m]) by simp [u8s]]
    have hL2 := cLoad_spec a3 c3 (B ++ [m]) (fun e => by cases (hn2.1 (hn3.1 e).1).1) (by rw [List.length_append, List.length_singleton]; omega)
    rw [hmoreE] at hL2
    refine RCG (dst := some 59) .a (hL2) (GV (GV (GI []) 12 view_ro) 17 view_row) ?_
    rintro v _ ⟨x, hx1, hx2, rfl, rfl⟩
    have hz2 := zeroSame x hx2 (by rw [hx1]; exact ldC_bad (by rw [hmoreE]; decide))
    rw [show coC x = [.slice x.sa x.strs.length x.sc, .slice x.ha x.shapes.length x.hc, .slice x.ua x.units.length x.uc, .int .i64 x.main] from rfl]
    rw [show coH x = [row 9 1 x.sa x.strs.length x.sc (strsC x.strs), row 111 2 x.ha x.shapes.length x.hc (x.shapes.flatMap shC), star (x.shapes.flatMap shRows), row 59 7 x.ua x.units.length x.uc (x.units.flatMap unC), star (x.units.flatMap unRows)] from rfl]
    refine RP [] (.d (.d (.d (.d .a)))) 11 (.i 61 (.int .i64 5) (.i 60 (.agg #[.slice x.sa x.strs.length x.sc, .slice x.ha x.shapes.length x.hc, .slice x.ua x.units.length x.uc, .int .i64 x.main]) (.d (.d (.d (.d (.k .a))))))) .a 26 [.slice none 0 0, .slice none 0 0, .slice none 0 0, .int .i64 0] fun g5 => ?_
    refine RR [24, 24, 24, 24] .z (.i 12 (.int .i64 5) (.k (.d (.d (.k .a))))) (.k (.k (.k (.k (.k (.k (.k (.k (.k (.k (.k (.k (.k (.k (.k (.k (.k (.k (.k (.k (.k (.k (.k (.k (.u (.i (.slice x.sa x.strs.length x.sc) (.i (.slice x.ha x.shapes.length x.hc) (.i (.slice x.ua x.units.length x.uc) (.i (.int .i64 x.main) .z)))) .a))))))))))))))))))))))))) ?_
    refine RZ (NT (SQ (RG ?_)))
    refine RR [21, 21, 21, 21] (.d (.d .a)) (.i 63 (.agg #[.slice none 0 0, .slice none 0 0, .slice none 0 0, .int .i64 0]) (.i 62 (.agg #[.slice u.sa u.strs.length u.sc, .slice u.ha u.shapes.length u.hc, .slice u.ua u.units.length u.uc, .int .i64 u.main]) (.k (.k (.k (.d (.k .a))))))) .a ?_
    refine wpr_ent zeroEnt ?_
    refine RCG (dst := some 64) .a (hz1) (GV (GV (GV (GV (GV (GV (GV (GV (GV (GV (GI []) 2 view_self) 0 view_ro) 2 view_self) 0 view_ro) 0 view_ro) 14 view_gUn) 13 view_row) 12 view_gSh) 11 view_row) 10 view_row) ?_
    rintro v _ ⟨rfl, rfl⟩
    refine RR [29, 29, 29, 29] (.d (.d (.d (.d (.d (.d (.d .a))))))) (.i 71 (.agg #[.slice none 0 0, .slice none 0 0, .slice none 0 0, .int .i64 0]) (.i 70 (.agg #[.slice x.sa x.strs.length x.sc, .slice x.ha x.shapes.length x.hc, .slice x.ua x.units.length x.uc, .int .i64 x.main]) (.i 69 (.bool true) (.d (.d (.d (.k (.d (.d (.k .a)))))))))) .a ?_
    refine wpr_ent zeroEnt ?_
    refine RCG (dst := some 72) .a (hz2) (GV (GV (GV (GV (GV (GV (GV (GV (GV (GV (GI []) 2 view_self) 0 view_ro) 2 view_self) 0 view_ro) 0 view_ro) 14 view_gUn) 13 view_row) 12 view_gSh) 11 view_row) 10 view_row) ?_
    rintro v _ ⟨rfl, rfl⟩
    refine RR [] (.d (.d (.d (.d (.d (.d .a)))))) (.i 78 (.bool true) (.d (.d (.d (.d (.d (.k .a))))))) .a ?_
    refine RCG (dst := some 79) .a (lives7_spec) (GV (GV (GV (GI []) 29 view_ro) 28 view_gPow) 27 view_ro) ?_
    rintro v _ ⟨rfl, rfl⟩
    refine RR [] .z (.i 6 (.bool true) .z) .a ?_
    refine RZ (NT (RE ?_))
    refine NE [] .z .a [] (.bool true) ?_
    exact ⟨rfl, rfl⟩
  · rw [if_neg hm] at hv
    obtain ⟨rfl, rfl⟩ := hv
    refine RR [] .z (.i 8 (.int .i64 2) (.i 7 (.slice none 0 0) (.d (.d (.k .a))))) .a ?_
    refine RZ (NT (SQ (SQ (RG ?_))))
    refine RR [] .z (.i 28 (.bool true) .a) .a ?_
    refine RZ (NT (CT (SQ (RG ?_))))
    refine RR [] (.d (.d (.d (.d (.d (.d (.d (.d .a)))))))) (.i 36 (.bool true) (.d (.d (.k .a)))) .a ?_
    refine RCG (dst := some 37) .a (lives7_spec) (GV (GV (GV (GI []) 7 view_ro) 6 view_gPow) 5 view_ro) ?_
    rintro v _ ⟨rfl, rfl⟩
    refine RR [] .z (.i 6 (.bool true) (.d (.d (.k (.d (.k .a)))))) .a ?_
    refine RZ (NT (RE (TR ?_)))
    refine NE [] .z .a [] (.bool true) ?_
    exact ⟨rfl, rfl⟩
end Go.Proofs.YtgcfomhlgipllaaGreatDoor
namespace Go.Proofs.YtgcfomhlgipllaaGreatDoor
open Go Go.Sx
/-! What the row's list lays: the words, the powers of ten, the ops' names. Codes that come in. -/
abbrev laidL : List (String × DataW Unit) := [("math/bits.deBruijn32tab", Rows.laid_math_bits_deBruijn32tab), ("math/bits.deBruijn64tab", Rows.laid_math_bits_deBruijn64tab), ("internal/strconv.uint64pow10", Rows.laid_internal_strconv_uint64pow10), ("hindcast/lex.words", Rows.laid_hindcast_lex_words), ("hindcast/lex.signs", Rows.laid_hindcast_lex_signs), ("hindcast/code.names", Rows.laid_hindcast_code_names)]
theorem pow_in {W : World} (h : laidMet Tryz.prog laidL W) : gPow.holds W := by
  have h2 := h.tail.tail
  exact Lib.tabIs_of_head (g := 3) (t := 289) (e := 178) (n := 20) (by kernel_rfl) (by kernel_rfl) (by kernel_rfl) (by kernel_rfl) (by kernel_rfl) (by kernel_rfl) h2
def strData {H : Type} (l : List (List UInt8)) : DataW H := .agg (l.map fun s => .lit (.string s))
theorem cells_of_strs {H : Type} {enc : TypeId × Value → H} {P : Program} {w : World} {base : Nat} {sp : Nat → Bool} {held : Bool} {fuel : Nat} {t e : TypeId} {n : Nat} {cs : List Value} {zs : List (List UInt8)} {p : List MemPlace}
    (ht : P.underlying t = some (.array n e)) (he : P.underlying e = some .string) (hce : P.cellsOf e = 1) (hct : P.cellsOf t = n)
    (h : DataW.trod enc P w base sp held fuel t cs = some (strData zs, p)) : cs = zs.map strV := by
  cases fuel with
  | zero => simp [DataW.trod] at h
  | succ fuel =>
    simp only [DataW.trod, ht, hce, hct, Nat.mul_one] at h
    split at h
    · rename_i hl
      obtain ⟨xs, hm, hx⟩ := Option.map_eq_some_iff.1 h
      have hxs : xs.map (·.1) = zs.map fun z => (DataW.lit (.string z) : DataW H) := by
        have := congrArg Prod.fst hx
        simpa [strData] using this
      have hxl : xs.length = n := by simpa using Lib.mapM_length hm
      have hzl : zs.length = n := by
        have := congrArg List.length hxs
        simp at this
        omega
      apply List.ext_getElem?
      intro i
      by_cases hi : i < n
      · obtain ⟨b, hb, hf⟩ := Lib.mapM_at hm i i (by simp [hi])
        obtain ⟨z, hc, rfl, _⟩ := DataW.trod_string he hf
        have h1 : cs[i]? = some (.string z) := by
          have := congrArg (·[0]?) hc
          simpa [List.getElem?_take, List.getElem?_drop] using this
        have h2 : (xs.map (·.1))[i]? = some (DataW.lit (.string z.data.toList) : DataW H) := by simp [hb]
        rw [hxs] at h2
        simp only [List.getElem?_map, Option.map_eq_some_iff, DataW.lit.injEq, Lit.string.injEq] at h2
        obtain ⟨z', hz', rfl⟩ := h2
        simp [h1, hz', strV, mkS]
      · rw [List.getElem?_eq_none (by omega), List.getElem?_eq_none (by simp; omega)]
    · cases h
theorem strs_of_head {P : Program} {W : World} {name : String} {zs : List (List UInt8)} {rest : List (String × DataW Unit)} {g : Nat} {t e : TypeId} {n : Nat}
    (hg : P.globalNamed name = some g) (hty : (P.globals[g]?).map (·.type) = some t) (ht : P.underlying t = some (.array n e)) (he : P.underlying e = some .string) (hce : P.cellsOf e = 1) (hct : P.cellsOf t = n)
    (h : laidMet P ((name, strData zs) :: rest) W) : W.var? P name = some (zs.map strV).toArray := by
  obtain ⟨ps, ⟨g', t', cs, fuel, p, q, hg', ht', hvar, hd, _, _⟩, _⟩ := h
  obtain rfl := Option.some.inj (hg.symm.trans hg')
  obtain rfl := Option.some.inj (hty.symm.trans ht')
  rw [hvar, ← cells_of_strs ht he hce hct hd]
theorem cells_of_var {W : World} {name : String} {g : Nat} {zs : List (List UInt8)} (hg : Tryz.prog.globalNamed name = some g) (h3 : W.var? Tryz.prog name = some (zs.map strV).toArray) : (ro (some ⟨g, 0, none⟩) (zs.map strV)).holds W := by
  refine ⟨fun u hu => (by obtain ⟨x, _, rfl⟩ := List.mem_map.1 hu; rfl), ?_⟩
  show cellsAt W _ _
  intro j u hj
  have h4 := World.var?_cell (i := j) hg h3
  have hadd : (⟨g, 0, none⟩ : Addr).add j = ⟨g, 0 + j, none⟩ := by unfold Addr.add; split <;> simp_all
  rw [hadd, Nat.zero_add, h4]
  simpa using hj
theorem words_in {W : World} (h : laidMet Tryz.prog laidL W) : gWords.holds W := by
  have h2 := h.tail.tail.tail
  have h3 := strs_of_head (g := 2) (t := 250) (e := 9) (n := 10) (zs := wordsL) (by kernel_rfl) (by kernel_rfl) (by kernel_rfl) (by kernel_rfl) (by kernel_rfl) (by kernel_rfl) h2
  exact cells_of_var (by kernel_rfl) h3
theorem names_in {W : World} (h : laidMet Tryz.prog laidL W) : gNames.holds W := by
  have h2 := h.tail.tail.tail.tail.tail
  have h3 := strs_of_head (g := 0) (t := 119) (e := 9) (n := 35) (zs := opNames) (by kernel_rfl) (by kernel_rfl) (by kernel_rfl) (by kernel_rfl) (by kernel_rfl) (by kernel_rfl) h2
  exact cells_of_var (by kernel_rfl) h3
/-! ### shapes -/
abbrev Sh2 := List UInt8 × Sl (List UInt8)
def shS : Shape Sh2 := upS (pairS strS (sliceS strS))
theorem opens_sh : Opens Tryz.prog 111 2 shS :=
  opens_struct Tryz.underlying111 (by kernel_rfl) (opensFs_cons (off := 0) (k := 1) (m := 1) (opens_str Tryz.underlying9 (by kernel_rfl)) rfl (by kernel_rfl)
    (opensFs_one (opens_slice Tryz.underlying22 (by kernel_rfl) (opens_str Tryz.underlying9 (by kernel_rfl))) rfl))
def inS : Shape (Int × Int) := upS (pairS (intS .i64) (intS .i64))
theorem opens_in : Opens Tryz.prog 62 2 inS :=
  opens_struct Tryz.underlying62 (by kernel_rfl) (opensFs_cons (off := 0) (k := 1) (m := 1) (opens_int Tryz.underlying60 (by kernel_rfl)) rfl (by kernel_rfl)
    (opensFs_one (opens_int Tryz.underlying3 (by kernel_rfl)) rfl))
abbrev Vr2 := List UInt8 × Int × Int × Int
def vrS : Shape Vr2 := upS (pairS strS (pairS (intS .i64) (pairS (intS .i64) (intS .i64))))
theorem opens_vr : Opens Tryz.prog 116 4 vrS :=
  opens_struct Tryz.underlying116 (by kernel_rfl) (opensFs_cons (off := 0) (k := 1) (m := 3) (opens_str Tryz.underlying9 (by kernel_rfl)) rfl (by kernel_rfl)
    (opensFs_cons (off := 1) (k := 1) (m := 2) (opens_int Tryz.underlying3 (by kernel_rfl)) rfl (by kernel_rfl)
    (opensFs_cons (off := 2) (k := 1) (m := 1) (opens_int Tryz.underlying3 (by kernel_rfl)) rfl (by kernel_rfl)
    (opensFs_one (opens_int Tryz.underlying3 (by kernel_rfl)) rfl))))
abbrev Un2 := List UInt8 × Int × Int × Int × Bool × Sl (Int × Int) × Sl Vr2
def unS : Shape Un2 := upS (pairS strS (pairS (intS .i64) (pairS (intS .i64) (pairS (intS .i64) (pairS boolS (pairS (sliceS inS) (sliceS vrS)))))))
theorem opens_un : Opens Tryz.prog 59 7 unS :=
  opens_struct Tryz.underlying59 (by kernel_rfl) (opensFs_cons (off := 0) (k := 1) (m := 6) (opens_str Tryz.underlying9 (by kernel_rfl)) rfl (by kernel_rfl)
    (opensFs_cons (off := 1) (k := 1) (m := 5) (opens_int Tryz.underlying3 (by kernel_rfl)) rfl (by kernel_rfl)
    (opensFs_cons (off := 2) (k := 1) (m := 4) (opens_int Tryz.underlying3 (by kernel_rfl)) rfl (by kernel_rfl)
    (opensFs_cons (off := 3) (k := 1) (m := 3) (opens_int Tryz.underlying3 (by kernel_rfl)) rfl (by kernel_rfl)
    (opensFs_cons (off := 4) (k := 1) (m := 2) (opens_bool Tryz.underlying4 (by kernel_rfl)) rfl (by kernel_rfl)
    (opensFs_cons (off := 5) (k := 1) (m := 1) (opens_slice Tryz.underlying56 (by kernel_rfl) opens_in) rfl (by kernel_rfl)
    (opensFs_one (opens_slice Tryz.underlying57 (by kernel_rfl) opens_vr) rfl)))))))
abbrev Co2 := Sl (List UInt8) × Sl Sh2 × Sl Un2 × Int
def coS : Shape Co2 := upS (pairS (sliceS strS) (pairS (sliceS shS) (pairS (sliceS unS) (intS .i64))))
theorem opens_co : Opens Tryz.prog 26 4 coS :=
  opens_struct Tryz.underlying26 (by kernel_rfl) (opensFs_cons (off := 0) (k := 1) (m := 3) (opens_slice Tryz.underlying22 (by kernel_rfl) (opens_str Tryz.underlying9 (by kernel_rfl))) rfl (by kernel_rfl)
    (opensFs_cons (off := 1) (k := 1) (m := 2) (opens_slice Tryz.underlying23 (by kernel_rfl) opens_sh) rfl (by kernel_rfl)
    (opensFs_cons (off := 2) (k := 1) (m := 1) (opens_slice Tryz.underlying24 (by kernel_rfl) opens_un) rfl (by kernel_rfl)
    (opensFs_one (opens_int Tryz.underlying3 (by kernel_rfl)) rfl))))
def toSh (x : Sh2) : ShV := ⟨x.1, x.2.1, x.2.2.1, x.2.2.2⟩
def toVr (x : Vr2) : VarP := ⟨x.1, x.2.1, x.2.2.1, x.2.2.2⟩
def toUn (x : Un2) : UnV := ⟨x.1, x.2.1, x.2.2.1, x.2.2.2.1, x.2.2.2.2.1, x.2.2.2.2.2.1.1, x.2.2.2.2.2.1.2.1, x.2.2.2.2.2.1.2.2, x.2.2.2.2.2.2.1, x.2.2.2.2.2.2.2.1, x.2.2.2.2.2.2.2.2.map toVr⟩
def toCo (x : Co2) : CoV := ⟨x.1.1, x.1.2.1, x.1.2.2, x.2.1.1, x.2.1.2.1, x.2.1.2.2.map toSh, x.2.2.1.1, x.2.2.1.2.1, x.2.2.1.2.2.map toUn, x.2.2.2⟩
theorem strS_C : ∀ l : List (List UInt8), l.flatMap strS.C = strsC l
  | [] => rfl
  | x :: l => by rw [List.flatMap_cons, strS_C l]; rfl
theorem inS_C : ∀ l : List (Int × Int), l.flatMap inS.C = l.flatMap insC
  | [] => rfl
  | x :: l => by rw [List.flatMap_cons, List.flatMap_cons, inS_C l]; rfl
theorem vrS_C : ∀ l : List Vr2, l.flatMap vrS.C = (l.map toVr).flatMap varC
  | [] => rfl
  | x :: l => by rw [List.flatMap_cons, vrS_C l]; rfl
theorem shS_C : ∀ l : List Sh2, l.flatMap shS.C = (l.map toSh).flatMap shC
  | [] => rfl
  | x :: l => by rw [List.flatMap_cons, shS_C l]; rfl
theorem unS_C1 (x : Un2) : unS.C x = unC (toUn x) := by
  show [Value.string (mkS x.1)] ++ ([Value.int .i64 x.2.1] ++ ([Value.int .i64 x.2.2.1] ++ ([Value.int .i64 x.2.2.2.1] ++ ([Value.bool x.2.2.2.2.1] ++ ([Value.slice x.2.2.2.2.2.1.1 x.2.2.2.2.2.1.2.2.length x.2.2.2.2.2.1.2.1] ++ [Value.slice x.2.2.2.2.2.2.1 x.2.2.2.2.2.2.2.2.length x.2.2.2.2.2.2.2.1]))))) = _
  simp [unC, toUn]
theorem unS_C : ∀ l : List Un2, l.flatMap unS.C = (l.map toUn).flatMap unC
  | [] => rfl
  | x :: l => by rw [List.flatMap_cons, unS_C l, unS_C1]; rfl
theorem coS_C (x : Co2) : coS.C x = coC (toCo x) := by
  show [Value.slice x.1.1 x.1.2.2.length x.1.2.1] ++ ([Value.slice x.2.1.1 x.2.1.2.2.length x.2.1.2.1] ++ ([Value.slice x.2.2.1.1 x.2.2.1.2.2.length x.2.2.1.2.1] ++ [Value.int .i64 x.2.2.2])) = _
  simp [coC, toCo]
theorem co_hold {x : Co2} {w : World} (h : (deep coS x).holds w) : ∀ c ∈ coHp (toCo x), c.holds w := by
  have h1 : (deep (sliceS strS) x.1).holds w := h.1
  have h2 : (deep (sliceS shS) x.2.1).holds w := h.2.1
  have h3 : (deep (sliceS unS) x.2.2.1).holds w := h.2.2.1
  have f1 := view_flat.holds w h1
  have f2 := view_flat.holds w h2
  have f3 := view_flat.holds w h3
  rw [strS_C] at f1
  rw [shS_C] at f2
  rw [unS_C] at f3
  intro c hc
  simp only [coHp, List.mem_cons, List.not_mem_nil, or_false] at hc
  rcases hc with rfl | rfl | rfl | rfl | rfl
  · exact f1
  · exact f2
  · intro d hd
    obtain ⟨t, ht, rfl⟩ := List.mem_map.1 hd
    obtain ⟨z, hz, rfl⟩ := List.mem_map.1 ht
    have h4 : (deep shS z).holds w := (view_elem hz).holds w h2
    have h5 : (deep (sliceS strS) z.2).holds w := h4.2
    have f5 := view_flat.holds w h5
    rw [strS_C] at f5
    exact f5
  · exact f3
  · intro d hd
    obtain ⟨t, ht, hd⟩ := List.mem_flatMap.1 hd
    obtain ⟨z, hz, rfl⟩ := List.mem_map.1 ht
    have h4 : (deep unS z).holds w := (view_elem hz).holds w h3
    have h5 : (deep (sliceS inS) z.2.2.2.2.2.1).holds w := h4.2.2.2.2.2.1
    have h6 : (deep (sliceS vrS) z.2.2.2.2.2.2).holds w := h4.2.2.2.2.2.2
    have f5 := view_flat.holds w h5
    have f6 := view_flat.holds w h6
    rw [inS_C] at f5
    rw [vrS_C] at f6
    simp only [unRo, List.mem_cons, List.not_mem_nil, or_false] at hd
    rcases hd with rfl | rfl
    · exact f5
    · exact f6
theorem strS_B (x : List UInt8) : strS.B x = x.length + 1 := rfl
theorem shS_B (x : Sh2) : shS.B x = (x.1.length + 1) + (sumB strS x.2.2.2 + 1) + 1 := rfl
theorem inS_B (x : Int × Int) : inS.B x = 3 := rfl
theorem vrS_B (x : Vr2) : vrS.B x = (x.1.length + 1) + (1 + (1 + 1)) + 1 := rfl
theorem unS_B (x : Un2) : unS.B x = (x.1.length + 1) + (1 + (1 + (1 + (1 + ((sumB inS x.2.2.2.2.2.1.2.2 + 1) + (sumB vrS x.2.2.2.2.2.2.2.2 + 1)))))) + 1 := rfl
theorem coS_B (x : Co2) : coS.B x = (sumB strS x.1.2.2 + 1) + ((sumB shS x.2.1.2.2 + 1) + ((sumB unS x.2.2.1.2.2 + 1) + 1)) + 1 := rfl
theorem sh_ok {x : Sh2} (hB : shS.B x ≤ 1048576) : (toSh x).ok := by
  rw [shS_B] at hB
  have l1 := le_sumB strS (fun y => by rw [strS_B]; omega) x.2.2.2
  refine ⟨by show x.1.length ≤ _; omega, by show x.2.2.2.length ≤ _; omega, fun t ht => ?_⟩
  have h1 : t ∈ x.2.2.2 := ht
  have := mem_sumB strS x.2.2.2 t h1
  rw [strS_B] at this
  show t.length ≤ _
  omega
theorem un_ok {x : Un2} (hV : unS.V x) (hB : unS.B x ≤ 1048576) : (toUn x).ok := by
  rw [unS_B] at hB
  obtain ⟨-, v1, v2, v3, -, v5, v6⟩ := hV
  have l1 := le_sumB inS (fun y => by rw [inS_B]; omega) x.2.2.2.2.2.1.2.2
  have l2 := le_sumB vrS (fun y => by rw [vrS_B]; omega) x.2.2.2.2.2.2.2.2
  refine ⟨by show x.1.length ≤ _; omega, wf_i64 v1, wf_i64 v2, wf_i64 v3, by show x.2.2.2.2.2.1.2.2.length ≤ _; omega, by show (x.2.2.2.2.2.2.2.2.map toVr).length ≤ _; rw [List.length_map]; omega, fun y hy => ?_, fun v hv => ?_⟩
  · have h1 : y ∈ x.2.2.2.2.2.1.2.2 := hy
    have hy2 := v5.2.2.2 y h1
    exact ⟨wf_i64 hy2.1, wf_i64 hy2.2⟩
  · obtain ⟨z, hz, rfl⟩ := List.mem_map.1 hv
    have hz2 := v6.2.2.2 z hz
    have := mem_sumB vrS x.2.2.2.2.2.2.2.2 z hz
    rw [vrS_B] at this
    exact ⟨by show z.1.length ≤ _; omega, wf_i64 hz2.2.1, wf_i64 hz2.2.2.1, wf_i64 hz2.2.2.2⟩
theorem coI_ok {x : Co2} (hV : coS.V x) (hB : coS.B x ≤ 1048576) : (toCo x).ok := by
  rw [coS_B] at hB
  obtain ⟨v1, v2, v3, v4⟩ := hV
  have l1 := le_sumB strS (fun y => by rw [strS_B]; omega) x.1.2.2
  have l2 := le_sumB shS (fun y => by rw [shS_B]; omega) x.2.1.2.2
  have l3 := le_sumB unS (fun y => by rw [unS_B]; omega) x.2.2.1.2.2
  refine ⟨by show x.1.2.2.length ≤ _; omega, fun t ht => ?_, by show (x.2.1.2.2.map toSh).length ≤ _; rw [List.length_map]; omega, fun y hy => ?_, by show (x.2.2.1.2.2.map toUn).length ≤ _; rw [List.length_map]; omega, fun y hy => ?_, wf_i64 v4⟩
  · have h1 : t ∈ x.1.2.2 := ht
    have := mem_sumB strS x.1.2.2 t h1
    rw [strS_B] at this
    show t.length ≤ _
    omega
  · obtain ⟨z, hz, rfl⟩ := List.mem_map.1 hy
    exact sh_ok (by have := mem_sumB shS x.2.1.2.2 z hz; omega)
  · obtain ⟨z, hz, rfl⟩ := List.mem_map.1 hy
    exact un_ok (v3.2.2.2 z hz) (by have := mem_sumB unS x.2.2.1.2.2 z hz; omega)
theorem opens_u8s : Opens Tryz.prog 39 1 (sliceS (intS .u8)) := opens_slice Tryz.underlying39 (by kernel_rfl) (opens_int Tryz.underlying5 (by kernel_rfl))
def toB (l : List Int) : List UInt8 := l.map fun n => UInt8.ofNat n.toNat
theorem wf_u8 {n : Int} (h1 : (Lit.int .u8 n).wf = true) : ((UInt8.ofNat n.toNat).toNat : Int) = n := by
  simp [Lit.wf, IntKind.min, IntKind.max, IntKind.signed, IntKind.bits] at h1
  rw [UInt8.toNat_ofNat']; omega
theorem toB_flat : ∀ (l : List Int), (∀ n ∈ l, (intS .u8).V n) → l.flatMap (intS .u8).C = u8s (toB l)
  | [], _ => rfl
  | n :: l, h => by
    have h2 := wf_u8 (h n (List.mem_cons_self ..))
    have ih := toB_flat l (fun m hm => h m (List.mem_cons_of_mem _ hm))
    rw [List.flatMap_cons, ih]
    show [Value.int .u8 n] ++ u8s (toB l) = Value.int .u8 ((UInt8.ofNat n.toNat).toNat : Int) :: u8s (toB l)
    rw [h2]; rfl
theorem toB_len (l : List Int) : (toB l).length = l.length := List.length_map ..
theorem does_ro {P : Program} {f : FuncId} {args : List Value} {pre pre' : Hp} {R : Value → Hp → Prop} (h : Does P f args pre R) (hold : ∀ w, HS pre' w → ∀ c ∈ pre, c.holds w) (hn : ∀ c ∈ pre, ¬ c.rw) : Does P f args pre' R :=
  h.pre (fun w hw => Go.Sx.hs_ro (hold w hw) hn) (fun k ⟨d, hd, hr, _⟩ => (hn d hd hr).elim)
theorem bytes_hold {x : Sl Int} (hV : (sliceS (intS .u8)).V x) {w : World} (h : (deep (sliceS (intS .u8)) x).holds w) : (ro x.1 (u8s (toB x.2.2))).holds w := by
  have h3 := view_flat.holds w h
  rwa [toB_flat x.2.2 hV.2.2.2] at h3
theorem bytes_len {x : Sl Int} (hB : (sliceS (intS .u8)).B x ≤ 1048576) : x.2.2.length ≤ 1048576 := by
  have hl2 := le_sumB (intS .u8) (fun _ => Nat.le_refl 1) x.2.2
  have hb : (sliceS (intS .u8)).B x = sumB (intS .u8) x.2.2 + 1 := rfl
  omega
theorem coHp_ro (c : CoV) : ∀ d ∈ coHp c, ¬ d.rw := by
  intro d hd
  simp only [coHp, List.mem_cons, List.not_mem_nil, or_false] at hd
  rcases hd with rfl | rfl | rfl | rfl | rfl <;> exact fun h => h
theorem g3_ro : ∀ d ∈ [gWords, gPow, gNames], ¬ d.rw := by
  intro d hd
  simp only [List.mem_cons, List.not_mem_nil, or_false] at hd
  rcases hd with rfl | rfl | rfl <;> exact fun h => h
theorem CodeHeights_in (x0 : Co2) (hV : coS.V x0) (hB : coS.B x0 ≤ 1048576) :
    Does Tryz.prog 7 [.agg (coS.C x0).toArray] [deep coS x0, gWords, gPow, gNames] (fun v hp' => v = .bool true ∧ hp' = []) := by
  have h := CodeHeights_spec (toCo x0) (coI_ok hV hB)
  rw [coS_C]
  refine does_ro h (fun w hw c hc => ?_) (fun c hc => ?_)
  · rcases List.mem_append.1 hc with hc | hc
    · exact co_hold (hw.holds (deep coS x0) (by simp)) c hc
    · exact hw.holds c (by simp only [List.mem_cons, List.not_mem_nil, or_false] at hc ⊢; rcases hc with rfl | rfl | rfl <;> simp)
  · rcases List.mem_append.1 hc with hc | hc
    · exact coHp_ro _ c hc
    · exact g3_ro c hc
theorem CodeBack_in (x0 : Co2) (x1 : Sl Int) (hV : coS.V x0) (hB : coS.B x0 ≤ 1048576) (hV1 : (sliceS (intS .u8)).V x1) (hB1 : (sliceS (intS .u8)).B x1 ≤ 1048576) :
    Does Tryz.prog 6 [.agg (coS.C x0).toArray, .slice x1.1 x1.2.2.length x1.2.1] [deep coS x0, deep (sliceS (intS .u8)) x1, gWords, gPow, gNames] (fun v hp' => v = .bool true ∧ hp' = []) := by
  have hl := bytes_len hB1
  have h := CodeBack_spec (toCo x0) (coI_ok hV hB) x1.1 x1.2.1 (toB x1.2.2) (fun e => by rw [hV1.1 e]; rfl) (by rw [toB_len]; omega)
  rw [toB_len] at h
  rw [coS_C]
  refine does_ro h (fun w hw c hc => ?_) (fun c hc => ?_)
  · rcases List.mem_append.1 hc with hc | hc
    · exact co_hold (hw.holds (deep coS x0) (by simp)) c hc
    · rcases List.mem_cons.1 hc with rfl | hc
      · exact bytes_hold hV1 (hw.holds (deep (sliceS (intS .u8)) x1) (by simp))
      · exact hw.holds c (by simp only [List.mem_cons, List.not_mem_nil, or_false] at hc ⊢; rcases hc with rfl | rfl | rfl <;> simp)
  · rcases List.mem_append.1 hc with hc | hc
    · exact coHp_ro _ c hc
    · rcases List.mem_cons.1 hc with rfl | hc
      · exact fun h => h
      · exact g3_ro c hc
theorem CodeCut_in (x0 : Co2) (x1 x2 : Int) (hV : coS.V x0) (hB : coS.B x0 ≤ 1048576) (hV1 : (intS .i64).V x1) (hV2 : (intS .u8).V x2) :
    Does Tryz.prog 8 [.agg (coS.C x0).toArray, .int .i64 x1, .int .u8 x2] [deep coS x0, deep (intS .i64) x1, deep (intS .u8) x2, gWords, gPow, gNames] (fun v hp' => v = .bool true ∧ hp' = []) := by
  have h := CodeCut_spec (toCo x0) (coI_ok hV hB) x1 (wf_i64 hV1) (UInt8.ofNat x2.toNat)
  rw [wf_u8 hV2] at h
  rw [coS_C]
  refine does_ro h (fun w hw c hc => ?_) (fun c hc => ?_)
  · rcases List.mem_append.1 hc with hc | hc
    · exact co_hold (hw.holds (deep coS x0) (by simp)) c hc
    · exact hw.holds c (by simp only [List.mem_cons, List.not_mem_nil, or_false] at hc ⊢; rcases hc with rfl | rfl | rfl <;> simp)
  · rcases List.mem_append.1 hc with hc | hc
    · exact coHp_ro _ c hc
    · exact g3_ro c hc
end Go.Proofs.YtgcfomhlgipllaaGreatDoor
