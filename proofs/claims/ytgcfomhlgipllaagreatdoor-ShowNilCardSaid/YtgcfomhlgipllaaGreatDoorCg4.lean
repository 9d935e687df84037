import Derived.Lib.LaidTab
import Derived.Stop.LaidErr
import Derived.Test.YtgcfomhlgipllaaGreatDoorCg3
set_option linter.unusedVariables false
set_option linter.unusedSimpArgs false
namespace Go.Proofs.YtgcfomhlgipllaaGreatDoor
open Go Go.Sx
theorem show0 (L : List O) : showT L ⟨0, 0, []⟩ ≠ [] := by
  have h := txt_pos (L := L) (d := 2) (v := ⟨0, 0, []⟩)
  have hr : rightB ⟨0, 0, []⟩ L.length = true := rfl
  unfold showT cutT
  rw [if_pos hr]
  split
  · intro e
    have := congrArg List.length e
    rw [List.length_append] at this
    simp at this
  · exact txt_ne' h
theorem split_le : ∀ (t x : Tx), x ∈ splitT t → x.length ≤ t.length
  | [], x, h => by
    simp [splitT] at h; rw [h]; exact Nat.le_refl _
  | b :: t, x, h => by
    unfold splitT at h
    by_cases hb : b = 10
    · rw [if_pos hb] at h
      rcases List.mem_cons.1 h with rfl | h
      · exact Nat.zero_le _
      · have := split_le t x h
        rw [List.length_cons]; omega
    · rw [if_neg hb] at h
      split at h
      · rename_i e; exact absurd e (split_ne t)
      · rename_i y r e
        rcases List.mem_cons.1 h with rfl | h
        · have := split_le t y (by rw [e]; exact List.mem_cons_self ..)
          rw [List.length_cons, List.length_cons]; omega
        · have := split_le t x (by rw [e]; exact List.mem_cons_of_mem _ h)
          rw [List.length_cons]; omega
theorem tail_le {t x : Tx} (h : x ∈ tailT t) : x.length ≤ t.length := split_le t x (List.dropLast_subset _ (List.mem_of_mem_drop h))
theorem tail_four (t : Tx) : (tailT t).length ≤ 4 := by unfold tailT; dsimp only; rw [List.length_drop]; omega
def lfT (s : Tx) : Tx := lineT [[124, 32], s]
theorem viewB_fst {m : Nat} {v : ViV} (h : statusB v.status v.fault = false) : viewB m v = false := by unfold viewB; rw [h]; rfl
set_option maxHeartbeats 8000000 in
theorem Lines_spec (g : Nat) (most : Int) (used : Nat) (ao : Option Addr) (c : Nat) (l : List Ob) (hl4 : l.length ≤ 4096) (hL : okHeap (l.map Ob.o)) (v : ViV) (hv : v.ok) :
    Does Tryz.prog 32 [.agg (viC v).toArray, .pointer (some ⟨g, 0, none⟩)] [ro (some ⟨g, 0, none⟩) [.bool true, .int .i64 most, .int .i64 used, .slice ao l.length c], ro ao (l.flatMap objC), gBag l, gPow, ro v.fa (v.frames.flatMap frC), gFr v.frames, ro v.sa (v.stops.flatMap spC)]
      (fun r hp' => if viewB l.length v = true then ∃ a' c', r = .tuple #[.slice a' (linesT (l.map Ob.o) v).length c', .int .i64 0] ∧ hp' = [row 9 1 a' (linesT (l.map Ob.o) v).length c' (strsC (linesT (l.map Ob.o) v))] else r = .tuple #[.slice none 0 0, .int .i64 2] ∧ hp' = []) := by
  obtain ⟨v1, v2, v3, v4, v5, v6, v7, v8, v9, v10, v11, v12⟩ := id hv
  unfold okText at v6 v12
  have hS0 := Show_spec g most used ao c l hl4 hL ⟨0, 0, []⟩ (Nat.zero_le _) ⟨by decide, by decide⟩
  have hS1 := show0 (l.map Ob.o)
  unfold valV at hS0
  dsimp only at hS0
  obtain ⟨S, hS⟩ : ∃ S, S = showT (l.map Ob.o) ⟨0, 0, []⟩ := ⟨_, rfl⟩
  rw [← hS] at hS0 hS1
  have hSt := status_spec v
  rw [show lkC v = [.int .i64 v.pos, .int .i64 v.status, .int .i64 v.fault, .slice v.fa v.frames.length v.fc, .string (mkS v.out)] from rfl] at hSt
  have hI := Itoa_spec v.pos v1.1 v1.2
  have hIl := itoa_len20 v1
  obtain ⟨I, hIe⟩ : ∃ I, I = Lib.itoa v.pos := ⟨_, rfl⟩
  rw [← hIe] at hI hIl
  have hst := statusT_len v.status v.fault
  obtain ⟨ST, hSTe⟩ : ∃ I, I = statusT v.status v.fault := ⟨_, rfl⟩
  rw [← hSTe] at hSt hst
  refine fn_enter_m2 (fn := Tryz.f32) (by kernel_rfl) rfl 96 (by kernel_rfl) fun w0 h0 => ?_
  rw [show viC v = [.int .i64 v.pos, .int .i64 v.status, .int .i64 v.fault, .slice v.fa v.frames.length v.fc, .string (mkS v.out), .int .i64 v.sel, .slice v.sa v.stops.length v.sc, .int .i64 v.err, .int .i64 v.n, .string (mkS v.says)] from rfl]
  refine SQ (RG ?_)
  refine RP [] (.d .a) 2 (.d (.k .a)) .a 76 [.int .i64 v.pos, .int .i64 v.status, .int .i64 v.fault, .slice v.fa v.frames.length v.fc, .string (mkS v.out), .int .i64 v.sel, .slice v.sa v.stops.length v.sc, .int .i64 v.err, .int .i64 v.n, .string (mkS v.says)] fun g1 => ?_
  refine RP [] (.d .a) 3 (.k .z) .a 84 [.pointer (some ⟨g, 0, none⟩)] fun g2 => ?_
  refine RP [] (.d .a) 4 .a .a 22 [.slice none 0 0] fun g3 => ?_
  refine RP [] .z 5 .a .a 30 [.int .i64 0] fun g4 => ?_
  refine RZ (NT (SQ (SQ (RG ?_))))
  refine RR [8] (.d (.d .a)) (.i 19 (.agg #[.int .i64 0, .int .i64 0, .string ⟨#[]⟩]) (.i 18 (.pointer (some ⟨g, 0, none⟩)) .a)) .a ?_
  refine RCG (dst := some 20) .a (hS0) (GV (GV (GV (GV (GI []) 3 view_gPow) 2 view_self) 1 view_ro) 0 view_ro) ?_
  rintro r _ ⟨rfl, rfl⟩
  refine RR [] .z (.i 21 (.bool (decide (S = []))) (.d (.d (.d (.k .a))))) .a ?_
  refine RZ (NT ?_)
  refine SC 21 (decide (S = [])) false (decide_eq_false (by omega)) ?_
  refine CF (SK (NT (SQ (RG ?_))))
  refine RR [7, 7, 7, 7, 7] (.d (.d .a)) (.i 24 (.agg #[.int .i64 v.pos, .int .i64 v.status, .int .i64 v.fault, .slice v.fa v.frames.length v.fc, .string (mkS v.out)]) (.d (.d (.k .a)))) .a ?_
  refine RC (dst := some 25) [] .a (hSt) ?_
  rintro r _ ⟨rfl, rfl⟩
  cases hb : statusB v.status v.fault with
  | false =>
    refine RR [] .z (.i 7 (.bool false) (.i 6 (.string (mkS ST)) (.d (.d (.k .a))))) .a ?_
    refine RZ (NT (SQ (SQ (RG ?_))))
    refine RR [] .z (.i 29 (.bool true) (.d (.k .a))) .a ?_
    refine RZ (NT (CT (SQ (RG ?_))))
    refine RR [9, 10] .z (.d (.k .a)) (.k (.k (.k (.k (.k (.k (.k (.k (.k (.k (.u (.i (.int .i64 2) .z) .a))))))))))) ?_
    refine RZ (NT (RE (TR ?_)))
    refine nx_end0 (hp' := []) [] [9, 10] (.tuple #[.slice none 0 0, .int .i64 2]) ?_
    rw [viewB_fst hb, if_neg (by decide)]
    exact ⟨rfl, rfl⟩
  | true =>
    refine RR [] .z (.i 7 (.bool true) (.i 6 (.string (mkS ST)) (.d (.d (.k .a))))) .a ?_
    refine RZ (NT (SQ (SQ (RG ?_))))
    refine RR [] .z (.i 29 (.bool false) (.d (.k .a))) .a ?_
    refine RZ (NT (CF (SK (NT (SQ (RG ?_))))))
    refine RR [7] (.d (.d (.d .a))) (.i 32 (.int .i64 v.pos) (.d (.k .a))) .a ?_
    refine RCG (dst := some 33) .a (hI) (GV (GI []) 3 view_gPow) ?_
    rintro r _ ⟨rfl, rfl⟩
    refine RN [] (.d (.d .a)) 35 (fun g5 => (.slice (some ⟨g5, 0, none⟩) 3 3)) (.d (.d (.d (.k .a)))) .a 9 [.string (ByteArray.mk #[97, 116, 32]), .string (mkS I), .string (mkS ST)] fun g5 => ?_
    refine wpr_ent (ent_turn 11 (ro (some ⟨g5, 0, none⟩) (strsC [[97, 116, 32], I, ST])) rfl (turn_rblk (strs_one [[97, 116, 32], I, ST])) rfl) ?_
    refine RCG (dst := some 36) .a (line_spec (some ⟨g5, 0, none⟩) 3 [[97, 116, 32], I, ST] (by simp) (by simp) (by simp; omega)) (GV (GI []) 11 view_ro) ?_
    rintro r _ ⟨rfl, rfl⟩
    obtain ⟨P0, hP0⟩ : ∃ P, P = lineT [[97, 116, 32], I, ST] := ⟨_, rfl⟩
    rw [← hP0]
    refine RN [] (.d .a) 37 (fun g6 => (.slice (some ⟨g6, 0, none⟩) 1 1)) (.d (.d (.k .a))) .a 9 [.string (mkS P0)] fun g6 => ?_
    refine RP [] (.d .a) 8 .a .a 22 [.slice none 0 0] fun g7 => ?_
    refine RR [13] .z (.k (.d (.k .a))) (.k (.k (.k (.k (.k (.k (.k (.k (.k (.k (.k (.k (.k (.u (.i (.slice (some ⟨g6, 0, none⟩) 1 1) .z) .a)))))))))))))) ?_
    refine RZ (NT (SQ (SQ (RG ?_))))
    refine RR [7] (.d (.d (.d .a))) (.i 40 (.slice v.fa v.frames.length v.fc) .a) .a ?_
    refine RC (dst := some 41) [] .a (inward_spec v.fa v.frames.length v.fc) ?_
    rintro r _ ⟨gb, rfl, rfl⟩
    refine RZ (NT (BK ?_))
    refine wpc_ent (ent_turn 13 (row 9 1 (some ⟨g6, 0, none⟩) 1 1 (strsC [P0])) rfl (turn_blk rfl (strs_one [P0]) (by decide)) rfl) ?_
    have hVB : viewB l.length v = v.frames.all (frameB l.length) := by unfold viewB; rw [hb, Bool.true_and]
    rw [hVB]
    obtain ⟨N, hN⟩ : ∃ N, N = v.frames.length := ⟨_, rfl⟩
    refine wpc_range2 41 rfl rfl (by kernel_rfl) rfl fun act hsz hfr fn y D => ?_
    have hD := inward1_spec y gb g most used ao c l v.fa v.fc v.frames v4 (fun s i => CC2 y D fn act.tmps g7 g3 g4 g1 g2 g (viC v) (frT (l.map Ob.o) v.sel v.frames P0 i) s) (fun _ => EE2 y D fn act.tmps g3 g4) (fun _ _ => trivial) (fun _ => trivial) (some ⟨g6, 0, none⟩, 1)
      (fun s i hi hf => by
        have h := round2_spec y D fn act.tmps hsz g7 g3 g4 g1 g2 g (hfr 8 _ rfl) (hfr 4 _ rfl) (hfr 5 _ rfl) (hfr 2 _ rfl) (hfr 3 _ rfl) most used ao c l hl4 hL v hv P0 i hi s true hf
        simpa only [if_true] using h)
      (fun s i hi hf => by
        have h := round2_spec y D fn act.tmps hsz g7 g3 g4 g1 g2 g (hfr 8 _ rfl) (hfr 4 _ rfl) (hfr 5 _ rfl) (hfr 2 _ rfl) (hfr 3 _ rfl) most used ao c l hl4 hL v hv P0 i hi s false hf
        exact fun w hw => by
          obtain ⟨f1, f2, f3, f4, f5, f6⟩ := h w hw
          refine ⟨f1, f2, f3, f4, f5, f6.mono ?_⟩
          rintro e w' ⟨r, hp', hq, hr⟩
          rw [if_neg (by decide)] at hq
          exact ⟨r, hp', ⟨hq.1, (none, 0), hq.2⟩, hr⟩)
    obtain ⟨T, hT⟩ : ∃ T : Nat → List Tx, T = frT (l.map Ob.o) v.sel v.frames P0 := ⟨_, rfl⟩
    have hT0 : T 0 = [P0] := by rw [hT]; rfl
    have hTl : ∀ i, (T i).length = i + 1 := fun i => by rw [hT]; exact frT_len _ _ _ _ _
    refine ⟨fun r hp' => ∃ s : Option Addr × Nat, if v.frames.all (frameB l.length) then hp' = [ob y (.loop (rec0 .ready fn act.tmps #[42, 43] asg2 bdy2 D)), ob D (.deferred (some [])), .blk g7 22 [.slice s.1 (T v.frames.length).length s.2], row 9 1 s.1 (T v.frames.length).length s.2 (strsC (T v.frames.length)), .blk g3 22 [.slice none 0 0], .blk g4 30 [.int .i64 0], .blk g1 76 (viC v), .blk g2 84 [.pointer (some ⟨g, 0, none⟩)], .blk gb 69 [.slice v.fa v.frames.length v.fc]] else hp' = [ob y (.loop (recL fn act.tmps #[42, 43] asg2 bdy2 D)), ob D (.deferred (some [])), .blk g3 22 [.slice none 0 0], .blk g4 30 [.int .i64 2], .blk gb 69 [.slice v.fa v.frames.length v.fc]],
      [ro (some ⟨g, 0, none⟩) [.bool true, .int .i64 most, .int .i64 used, .slice ao l.length c], ro ao (l.flatMap objC), gBag l, gPow, ro v.fa (v.frames.flatMap frC), gFr v.frames, ob y (.loop (rec0 .ready fn act.tmps #[42, 43] asg2 bdy2 D)), ob D (.deferred (some [])), .blk g7 22 [.slice (some ⟨g6, 0, none⟩) 1 1], row 9 1 (some ⟨g6, 0, none⟩) 1 1 (strsC [P0]), .blk g3 22 [.slice none 0 0], .blk g4 30 [.int .i64 0], .blk g1 76 (viC v), .blk g2 84 [.pointer (some ⟨g, 0, none⟩)], .blk gb 69 [.slice v.fa v.frames.length v.fc]], [ro (some ⟨g, 0, none⟩) [.bool true, .int .i64 most, .int .i64 used, .slice ao l.length c], ro ao (l.flatMap objC), gBag l, gPow, ro v.fa (v.frames.flatMap frC), gFr v.frames, ro v.sa (v.stops.flatMap spC), ro (some ⟨g5, 0, none⟩) (strsC [[97, 116, 32], I, ST])], Does.ent2 hD (fun Γ => ?_) ?_, ?_, ?_⟩
    · intro a' w' hS'
      have hr : AllRw [ob y (.loop (rec0 .ready fn act.tmps #[42, 43] asg2 bdy2 D)), ob D (.deferred (some [])), .blk g7 22 [.slice (some ⟨g6, 0, none⟩) 1 1], row 9 1 (some ⟨g6, 0, none⟩) 1 1 (strsC [P0]), .blk g3 22 [.slice none 0 0], .blk g4 30 [.int .i64 0], .blk g1 76 (viC v), .blk g2 84 [.pointer (some ⟨g, 0, none⟩)]] := ⟨trivial, trivial, trivial, trivial, trivial, trivial, trivial, trivial, trivial⟩
      have h1 := ent_hp [6, 6, 6, 6, 6, 6, 6, 6, 6, 0, 0, 0, 0, 0, 0] rfl _ _ hS'
      exact ent_star (hp := [ob y (.loop (rec0 .ready fn act.tmps #[42, 43] asg2 bdy2 D)), ob D (.deferred (some [])), .blk g7 22 [.slice (some ⟨g6, 0, none⟩) 1 1], row 9 1 (some ⟨g6, 0, none⟩) 1 1 (strsC [P0]), .blk g3 22 [.slice none 0 0], .blk g4 30 [.int .i64 0], .blk g1 76 (viC v), .blk g2 84 [.pointer (some ⟨g, 0, none⟩)]]) (rest := [.blk gb 69 [.slice v.fa v.frames.length v.fc], ro (some ⟨g, 0, none⟩) [.bool true, .int .i64 most, .int .i64 used, .slice ao l.length c], ro ao (l.flatMap objC), gBag l, gPow, ro v.fa (v.frames.flatMap frC), gFr v.frames]) (allRw_mem hr) _ _ h1
    · rintro r hp' ⟨s, hs⟩
      cases hall : v.frames.all (frameB l.length) with
      | true =>
        rw [hall, if_pos rfl] at hs
        subst hs
        refine ⟨_, ⟨s, rfl⟩, fun Γ => ?_, ?_⟩
        · rw [hT]; exact ent_unstar
        · exact allRw_mem ⟨trivial, trivial, trivial, trivial, trivial, trivial, trivial, trivial, trivial, trivial⟩
      | false =>
        rw [hall, if_neg (by decide)] at hs
        subst hs
        refine ⟨_, ⟨s, rfl⟩, fun Γ => ?_, ?_⟩
        · exact ent_unstar
        · exact allRw_mem ⟨trivial, trivial, trivial, trivial, trivial, trivial⟩
    · exact GV (GV (GV (GV (GV (GV (GI [0, 0, 14, 13, 10, 10, 8, 8, 0] rfl) 5 view_self) 4 view_ro) 3 view_gPow) 2 view_self) 1 view_ro) 0 view_ro
    · rintro r hp' ⟨s, hs⟩
      cases hall : v.frames.all (frameB l.length) with
      | true =>
        rw [hall, if_pos rfl] at hs
        subst hs
        refine .inl ⟨_, rfl, ?_⟩
        have hTail := tail_spec v.out v6
        obtain ⟨TL, hTL⟩ : ∃ TL, TL = tailT v.out := ⟨_, rfl⟩
        rw [← hTL] at hTail
        obtain ⟨sa1, sc1⟩ := s
        dsimp only [List.cons_append, List.nil_append]
        obtain ⟨T0, hT00⟩ : ∃ T0, T0 = T v.frames.length := ⟨_, rfl⟩
        have hT0l : T0.length = v.frames.length + 1 := by rw [hT00]; exact hTl _
        rw [← hT00]
        refine BN (NT (SQ (SQ (RG ?_))))
        refine RR [5] (.d (.d (.d .a))) (.i 63 (.string (mkS v.out)) (.d (.d (.k (.k (.k (.d (.k .a)))))))) (.k (.k (.k (.k (.k (.u .a .a)))))) ?_
        refine RC (dst := some 64) [] (.k (.k (.k (.k (.k (.u .a .a)))))) (hTail) ?_
        rintro r _ ⟨gt, off, ct, nt, xs, rfl, rfl, hview⟩
        refine RR [] .z (.i 66 (.int .i64 0) (.i 65 (.int .i64 (↑TL.length : Int)) (.k (.d (.k .a))))) (.k (.k (.k (.k (.k (.k (.u .a .a))))))) ?_
        refine RZ (NT (BK ?_))
        refine wpc_ent (ent_turn 0 (ro (some ⟨gt, off, none⟩) (strsC TL)) rfl (turn_view (view_row.trans hview)) rfl) ?_
        refine wpc_ent (ent_hp [1, 1, 1, 1, 1, 1, 6, 8, 0] rfl) ?_
        obtain ⟨T1, hT1⟩ : ∃ T1 : Nat → List Tx, T1 = fun i => T0 ++ (TL.take i).map lfT := ⟨_, rfl⟩
        have hT1l : ∀ i, i ≤ TL.length → (T1 i).length = v.frames.length + 1 + i := fun i hi => by rw [hT1]; dsimp only; rw [List.length_append, List.length_map, List.length_take, hT0l]; omega
        have hT1s : ∀ i (h : i < TL.length), T1 i ++ [lfT TL[i]] = T1 (i + 1) := fun i h => by rw [hT1]; dsimp only; rw [← List.take_append_getElem h, List.map_append, List.append_assoc]; rfl
        have hT10 : T0 = T1 0 := by rw [hT1]; simp
        have hTL4 : TL.length ≤ 4 := by rw [hTL]; exact tail_four _
        rw [hT10]
        refine wpc_loop (X := {x : Nat × Option Addr × Nat // x.1 ≤ TL.length}) (fun x => St.mk [(66, .int .i64 (x.1.1 : Int)), (65, .int .i64 TL.length), (64, .slice (some ⟨gt, off, none⟩) TL.length ct), (8, .pointer (some ⟨g7, 0, none⟩)), (5, .pointer (some ⟨g4, 0, none⟩)), (4, .pointer (some ⟨g3, 0, none⟩)), (2, .pointer (some ⟨g1, 0, none⟩))]
          [ob D (.deferred (some [])), .blk g7 22 [.slice x.1.2.1 (T1 x.1.1).length x.1.2.2], row 9 1 x.1.2.1 (T1 x.1.1).length x.1.2.2 (strsC (T1 x.1.1)), .blk g3 22 [.slice none 0 0], .blk g4 30 [.int .i64 0], .blk g1 76 [.int .i64 v.pos, .int .i64 v.status, .int .i64 v.fault, .slice v.fa v.frames.length v.fc, .string (mkS v.out), .int .i64 v.sel, .slice v.sa v.stops.length v.sc, .int .i64 v.err, .int .i64 v.n, .string (mkS v.says)], gPow, ro v.sa (v.stops.flatMap spC), ro (some ⟨gt, off, none⟩) (strsC TL)]) (fun x => TL.length - x.1.1) ⟨(0, sa1, sc1), Nat.zero_le _⟩ (ent_fr (by kernel_rfl)) ?_
        rintro ⟨⟨i, a1, c1⟩, hi⟩
        dsimp only at hi ⊢
        by_cases hlt : i < TL.length
        · have hle : (TL[i]).length ≤ 1048576 := Nat.le_trans (tail_le (hTL ▸ List.getElem_mem hlt)) v6
          have hsucc := hT1s i hlt
          have hl1 := hT1l i hi
          have hl2 := hT1l (i + 1) hlt
          unfold lfT at hsucc
          refine SQ (RG ?_)
          refine RR [] .z (.i 67 (.bool (decide ((↑i : Int) < (↑TL.length : Int)))) .a) .a ?_
          refine RZ (NT (SQ ?_))
          refine SC 67 (decide ((↑i : Int) < (↑TL.length : Int))) true (decide_eq_true (by omega)) ?_
          refine CT (SK (NT (SQ (BK (SQ (RG ?_))))))
          refine RV true [] (.d .a) (.i 68 (.pointer (some ⟨gt, off + i * 1, none⟩)) (.d (.d (.k .a)))) .a [(0 : Int) ≤ (↑i : Int) ∧ (↑i : Int) < (↑TL.length : Int)] ⟨by omega, trivial⟩ ?_
          refine wpr_eq (ld (t := 9) (a := ⟨gt, off + i * 1, none⟩) (dst := some 69) (by kernel_rfl) false 1 (by kernel_rfl) (by simp) [.string (mkS TL[i])] rfl (fun w h => ld_ro h 8 rfl (i * 1) (strs_at hlt))) ?_
          refine RR [] .z (.i 15 (.string (mkS TL[i])) (.d (.d (.k .a)))) .a ?_
          refine RZ (NT ?_)
          obtain ⟨LN, hLN⟩ : ∃ N, N = lineT [[124, 32], TL[i]] := ⟨_, rfl⟩
          rw [← hLN] at hsucc
          refine wpc_draw (by kernel_rfl) [] (sub_of [] (by kernel_rfl)) 7 (by kernel_rfl) ?_
          refine TK 6 [(1, [])] (.i 71 (.string (mkS TL[i])) (.d (.k .a))) (#[false, true, false, false, false, false, false]) ?_
          refine wpa_two (i := 0) (j := 2) (n := 5) (by kernel_rfl) ?_ ?_
          · refine wpi_one (n := 5) true 0 [1] [(70, .slice a1 (T1 i).length c1), (71, .string (mkS TL[i])), (66, .int .i64 (↑i : Int)), (65, .int .i64 (↑TL.length : Int)), (64, .slice (some ⟨gt, off, none⟩) TL.length ct), (8, .pointer (some ⟨g7, 0, none⟩)), (5, .pointer (some ⟨g4, 0, none⟩)), (4, .pointer (some ⟨g3, 0, none⟩)), (2, .pointer (some ⟨g1, 0, none⟩))] [ob D (Obj.deferred (some [])), .blk g7 22 [.slice a1 (T1 i).length c1], row 9 1 a1 (T1 i).length c1 (strsC (T1 i)), .blk g3 22 [.slice none 0 0], .blk g4 30 [.int .i64 0], .blk g1 76 [.int .i64 v.pos, .int .i64 v.status, .int .i64 v.fault, .slice v.fa v.frames.length v.fc, .string (mkS v.out), .int .i64 v.sel, .slice v.sa v.stops.length v.sc, .int .i64 v.err, .int .i64 v.n, .string (mkS v.says)], gPow, ro v.sa (List.flatMap spC v.stops), ro (some ⟨gt, off, none⟩) (strsC TL)] [] (by kernel_rfl) (by kernel_rfl) trivial (sub_of [] (by kernel_rfl)) ?_
            refine wpa_new (n := 4) true 2 [] (fun g8 => [(72, .slice (some ⟨g8, 0, none⟩) 2 2), (70, .slice a1 (T1 i).length c1), (66, .int .i64 (↑i : Int)), (65, .int .i64 (↑TL.length : Int)), (64, .slice (some ⟨gt, off, none⟩) TL.length ct), (8, .pointer (some ⟨g7, 0, none⟩)), (5, .pointer (some ⟨g4, 0, none⟩)), (4, .pointer (some ⟨g3, 0, none⟩)), (2, .pointer (some ⟨g1, 0, none⟩))]) (fun g8 => [ob D (Obj.deferred (some [])), .blk g7 22 [.slice a1 (T1 i).length c1], row 9 1 a1 (T1 i).length c1 (strsC (T1 i)), .blk g3 22 [.slice none 0 0], .blk g4 30 [.int .i64 0], .blk g1 76 [.int .i64 v.pos, .int .i64 v.status, .int .i64 v.fault, .slice v.fa v.frames.length v.fc, .string (mkS v.out), .int .i64 v.sel, .slice v.sa v.stops.length v.sc, .int .i64 v.err, .int .i64 v.n, .string (mkS v.says)], gPow, ro v.sa (List.flatMap spC v.stops), ro (some ⟨gt, off, none⟩) (strsC TL), .blk g8 9 [.string (ByteArray.mk #[124, 32]), .string (mkS TL[i])]]) (fun g8 => []) (by kernel_rfl) (fun g8 => by kernel_rfl) (fun g8 => by kernel_rfl) (fun g8 => trivial) (fun g8 => sub_of [] (by kernel_rfl)) fun g8 => ?_
            refine wpa_ent (ent_turn 9 (ro (some ⟨g8, 0, none⟩) (strsC [[124, 32], TL[i]])) rfl (turn_rblk (strs_one [[124, 32], TL[i]])) rfl) ?_
            have hLine := line_spec (some ⟨g8, 0, none⟩) 2 [[124, 32], TL[i]] (by simp) (by simp) (by simp; omega)
            rw [← hLN] at hLine
            refine AC (dst := some 73) 3 3 .a (hLine) (GV (GI []) 9 view_ro) [] ?_
            rintro r _ ⟨rfl, rfl⟩
            refine wpa_new (n := 2) true 4 [] (fun g9 => [(74, .slice (some ⟨g9, 0, none⟩) 1 1), (70, .slice a1 (T1 i).length c1), (66, .int .i64 (↑i : Int)), (65, .int .i64 (↑TL.length : Int)), (64, .slice (some ⟨gt, off, none⟩) TL.length ct), (8, .pointer (some ⟨g7, 0, none⟩)), (5, .pointer (some ⟨g4, 0, none⟩)), (4, .pointer (some ⟨g3, 0, none⟩)), (2, .pointer (some ⟨g1, 0, none⟩))]) (fun g9 => [ob D (Obj.deferred (some [])), .blk g7 22 [.slice a1 (T1 i).length c1], row 9 1 a1 (T1 i).length c1 (strsC (T1 i)), .blk g3 22 [.slice none 0 0], .blk g4 30 [.int .i64 0], .blk g1 76 [.int .i64 v.pos, .int .i64 v.status, .int .i64 v.fault, .slice v.fa v.frames.length v.fc, .string (mkS v.out), .int .i64 v.sel, .slice v.sa v.stops.length v.sc, .int .i64 v.err, .int .i64 v.n, .string (mkS v.says)], gPow, ro v.sa (List.flatMap spC v.stops), ro (some ⟨gt, off, none⟩) (strsC TL), ro (some ⟨g8, 0, none⟩) (strsC [[124, 32], TL[i]]), .blk g9 9 [.string (mkS LN)]]) (fun g9 => []) (by kernel_rfl) (fun g9 => by kernel_rfl) (fun g9 => by kernel_rfl) (fun g9 => trivial) (fun g9 => sub_of [] (by kernel_rfl)) fun g9 => ?_
            refine wpa_ent (ent_turn 10 (ro (some ⟨g9, 0, none⟩) (strsC [LN])) rfl (turn_rblk (strs_one [LN])) rfl) ?_
            refine wpa_app (i := 5) (nf := 1) (by kernel_rfl) (a := a1) (n := ((T1 i).length)) (cap := c1) (x := (.slice (some ⟨g9, 0, none⟩) 1 1)) (t := 22) (xt := 22) (dst := some 75) (by kernel_rfl) (e := 9) (sz := 1) (bytes := 16) (by kernel_rfl) 2 (xs := (strsC (T1 i))) (by kernel_rfl) (m := 1) (news := (strsC [LN])) (fun w h => src_ro h 10 rfl rfl (fun e => by cases e)) (by unfold maxLen; omega) (by omega) [] (by kernel_rfl) ?_
            intro a2 c2 hn2
            rw [strs_apps, hsucc, show (T1 i).length + 1 = (T1 (i + 1)).length by omega]
            refine AO 0 6 [1] (.d (.d (.d (.k .a)))) (.k (.u (.i (.slice a2 (T1 (i + 1)).length c2) .z) .a)) [] ?_
            refine wpa_done 0 (by kernel_rfl) ?_
            refine BN (NT (RG ?_))
            refine RV true [] .z (.i 66 (.int .i64 ((↑i : Int) + 1)) (.d (.k .a))) .a ([inI64 ((↑i : Int) + (1 : Int))]) ⟨by unfold inI64; omega, trivial⟩ ?_
            refine RZ ?_
            exact fun a' w' hS' => ⟨⟨(i + 1, a2, c2), hlt⟩, by dsimp only; omega, ent_fr (by kernel_rfl) _ _ (ent_hp [0, 0, 0, 0, 0, 0, 0, 0, 0] rfl _ _ hS')⟩
          · refine wpi_new (n := 5) true 2 [] (fun g8 => [(72, .slice (some ⟨g8, 0, none⟩) 2 2), (66, .int .i64 (↑i : Int)), (65, .int .i64 (↑TL.length : Int)), (64, .slice (some ⟨gt, off, none⟩) TL.length ct), (8, .pointer (some ⟨g7, 0, none⟩)), (5, .pointer (some ⟨g4, 0, none⟩)), (4, .pointer (some ⟨g3, 0, none⟩)), (2, .pointer (some ⟨g1, 0, none⟩))]) (fun g8 => [ob D (Obj.deferred (some [])), .blk g7 22 [.slice a1 (T1 i).length c1], row 9 1 a1 (T1 i).length c1 (strsC (T1 i)), .blk g3 22 [.slice none 0 0], .blk g4 30 [.int .i64 0], .blk g1 76 [.int .i64 v.pos, .int .i64 v.status, .int .i64 v.fault, .slice v.fa v.frames.length v.fc, .string (mkS v.out), .int .i64 v.sel, .slice v.sa v.stops.length v.sc, .int .i64 v.err, .int .i64 v.n, .string (mkS v.says)], gPow, ro v.sa (List.flatMap spC v.stops), ro (some ⟨gt, off, none⟩) (strsC TL), .blk g8 9 [.string (ByteArray.mk #[124, 32]), .string (mkS TL[i])]]) (fun g8 => []) (fun g8 => by kernel_rfl) (fun g8 => by kernel_rfl) (fun g8 => trivial) (fun g8 => sub_of [] (by kernel_rfl)) fun g8 => ?_
            refine wpa_ent (ent_turn 9 (ro (some ⟨g8, 0, none⟩) (strsC [[124, 32], TL[i]])) rfl (turn_rblk (strs_one [[124, 32], TL[i]])) rfl) ?_
            have hLine := line_spec (some ⟨g8, 0, none⟩) 2 [[124, 32], TL[i]] (by simp) (by simp) (by simp; omega)
            rw [← hLN] at hLine
            refine wpa_two (i := 0) (j := 3) (n := 4) (by kernel_rfl) ?_ ?_
            · refine wpi_one (n := 4) true 0 [1] [(70, .slice a1 (T1 i).length c1), (72, .slice (some ⟨g8, 0, none⟩) 2 2), (66, .int .i64 (↑i : Int)), (65, .int .i64 (↑TL.length : Int)), (64, .slice (some ⟨gt, off, none⟩) TL.length ct), (8, .pointer (some ⟨g7, 0, none⟩)), (5, .pointer (some ⟨g4, 0, none⟩)), (4, .pointer (some ⟨g3, 0, none⟩)), (2, .pointer (some ⟨g1, 0, none⟩))] [ob D (Obj.deferred (some [])), .blk g7 22 [.slice a1 (T1 i).length c1], row 9 1 a1 (T1 i).length c1 (strsC (T1 i)), .blk g3 22 [.slice none 0 0], .blk g4 30 [.int .i64 0], .blk g1 76 [.int .i64 v.pos, .int .i64 v.status, .int .i64 v.fault, .slice v.fa v.frames.length v.fc, .string (mkS v.out), .int .i64 v.sel, .slice v.sa v.stops.length v.sc, .int .i64 v.err, .int .i64 v.n, .string (mkS v.says)], gPow, ro v.sa (List.flatMap spC v.stops), ro (some ⟨gt, off, none⟩) (strsC TL), ro (some ⟨g8, 0, none⟩) (strsC [[124, 32], TL[i]])] [] (by kernel_rfl) (by kernel_rfl) trivial (sub_of [] (by kernel_rfl)) ?_
              refine AC (dst := some 73) 3 3 .a (hLine) (GV (GI []) 9 view_ro) [] ?_
              rintro r _ ⟨rfl, rfl⟩
              refine wpa_new (n := 2) true 4 [] (fun g9 => [(74, .slice (some ⟨g9, 0, none⟩) 1 1), (70, .slice a1 (T1 i).length c1), (66, .int .i64 (↑i : Int)), (65, .int .i64 (↑TL.length : Int)), (64, .slice (some ⟨gt, off, none⟩) TL.length ct), (8, .pointer (some ⟨g7, 0, none⟩)), (5, .pointer (some ⟨g4, 0, none⟩)), (4, .pointer (some ⟨g3, 0, none⟩)), (2, .pointer (some ⟨g1, 0, none⟩))]) (fun g9 => [ob D (Obj.deferred (some [])), .blk g7 22 [.slice a1 (T1 i).length c1], row 9 1 a1 (T1 i).length c1 (strsC (T1 i)), .blk g3 22 [.slice none 0 0], .blk g4 30 [.int .i64 0], .blk g1 76 [.int .i64 v.pos, .int .i64 v.status, .int .i64 v.fault, .slice v.fa v.frames.length v.fc, .string (mkS v.out), .int .i64 v.sel, .slice v.sa v.stops.length v.sc, .int .i64 v.err, .int .i64 v.n, .string (mkS v.says)], gPow, ro v.sa (List.flatMap spC v.stops), ro (some ⟨gt, off, none⟩) (strsC TL), ro (some ⟨g8, 0, none⟩) (strsC [[124, 32], TL[i]]), .blk g9 9 [.string (mkS LN)]]) (fun g9 => []) (by kernel_rfl) (fun g9 => by kernel_rfl) (fun g9 => by kernel_rfl) (fun g9 => trivial) (fun g9 => sub_of [] (by kernel_rfl)) fun g9 => ?_
              refine wpa_ent (ent_turn 10 (ro (some ⟨g9, 0, none⟩) (strsC [LN])) rfl (turn_rblk (strs_one [LN])) rfl) ?_
              refine wpa_app (i := 5) (nf := 1) (by kernel_rfl) (a := a1) (n := ((T1 i).length)) (cap := c1) (x := (.slice (some ⟨g9, 0, none⟩) 1 1)) (t := 22) (xt := 22) (dst := some 75) (by kernel_rfl) (e := 9) (sz := 1) (bytes := 16) (by kernel_rfl) 2 (xs := (strsC (T1 i))) (by kernel_rfl) (m := 1) (news := (strsC [LN])) (fun w h => src_ro h 10 rfl rfl (fun e => by cases e)) (by unfold maxLen; omega) (by omega) [] (by kernel_rfl) ?_
              intro a2 c2 hn2
              rw [strs_apps, hsucc, show (T1 i).length + 1 = (T1 (i + 1)).length by omega]
              refine AO 0 6 [1] (.d (.d (.d (.k .a)))) (.k (.u (.i (.slice a2 (T1 (i + 1)).length c2) .z) .a)) [] ?_
              refine wpa_done 0 (by kernel_rfl) ?_
              refine BN (NT (RG ?_))
              refine RV true [] .z (.i 66 (.int .i64 ((↑i : Int) + 1)) (.d (.k .a))) .a ([inI64 ((↑i : Int) + (1 : Int))]) ⟨by unfold inI64; omega, trivial⟩ ?_
              refine RZ ?_
              exact fun a' w' hS' => ⟨⟨(i + 1, a2, c2), hlt⟩, by dsimp only; omega, ent_fr (by kernel_rfl) _ _ (ent_hp [0, 0, 0, 0, 0, 0, 0, 0, 0] rfl _ _ hS')⟩
            · refine wpi_call (i := 3) (dst := some 73) (rest := [ob D (Obj.deferred (some [])), .blk g7 22 [.slice a1 (T1 i).length c1], row 9 1 a1 (T1 i).length c1 (strsC (T1 i)), .blk g3 22 [.slice none 0 0], .blk g4 30 [.int .i64 0], .blk g1 76 [.int .i64 v.pos, .int .i64 v.status, .int .i64 v.fault, .slice v.fa v.frames.length v.fc, .string (mkS v.out), .int .i64 v.sel, .slice v.sa v.stops.length v.sc, .int .i64 v.err, .int .i64 v.n, .string (mkS v.says)], gPow, ro v.sa (List.flatMap spC v.stops), ro (some ⟨gt, off, none⟩) (strsC TL), ro (some ⟨g8, 0, none⟩) (strsC [[124, 32], TL[i]])]) (by kernel_rfl) (hLine) (Give.view (c := (ro (some ⟨g8, 0, none⟩) (strsC [[124, 32], TL[i]]))) (give (pre := []) (rest := [ob D (Obj.deferred (some [])), .blk g7 22 [.slice a1 (T1 i).length c1], row 9 1 a1 (T1 i).length c1 (strsC (T1 i)), .blk g3 22 [.slice none 0 0], .blk g4 30 [.int .i64 0], .blk g1 76 [.int .i64 v.pos, .int .i64 v.status, .int .i64 v.fault, .slice v.fa v.frames.length v.fc, .string (mkS v.out), .int .i64 v.sel, .slice v.sa v.stops.length v.sc, .int .i64 v.err, .int .i64 v.n, .string (mkS v.says)], gPow, ro v.sa (List.flatMap spC v.stops), ro (some ⟨gt, off, none⟩) (strsC TL), ro (some ⟨g8, 0, none⟩) (strsC [[124, 32], TL[i]])]) [] (by kernel_rfl)) 9 (by kernel_rfl) view_ro) (sub_of [] (by kernel_rfl)) ?_
              rintro r _ ⟨rfl, rfl⟩
              refine wpa_two (i := 0) (j := 4) (n := 3) (by kernel_rfl) ?_ ?_
              · refine wpi_one (n := 3) true 0 [1] [(70, .slice a1 (T1 i).length c1), (73, .string (mkS LN)), (66, .int .i64 (↑i : Int)), (65, .int .i64 (↑TL.length : Int)), (64, .slice (some ⟨gt, off, none⟩) TL.length ct), (8, .pointer (some ⟨g7, 0, none⟩)), (5, .pointer (some ⟨g4, 0, none⟩)), (4, .pointer (some ⟨g3, 0, none⟩)), (2, .pointer (some ⟨g1, 0, none⟩))] [ob D (Obj.deferred (some [])), .blk g7 22 [.slice a1 (T1 i).length c1], row 9 1 a1 (T1 i).length c1 (strsC (T1 i)), .blk g3 22 [.slice none 0 0], .blk g4 30 [.int .i64 0], .blk g1 76 [.int .i64 v.pos, .int .i64 v.status, .int .i64 v.fault, .slice v.fa v.frames.length v.fc, .string (mkS v.out), .int .i64 v.sel, .slice v.sa v.stops.length v.sc, .int .i64 v.err, .int .i64 v.n, .string (mkS v.says)], gPow, ro v.sa (List.flatMap spC v.stops), ro (some ⟨gt, off, none⟩) (strsC TL), ro (some ⟨g8, 0, none⟩) (strsC [[124, 32], TL[i]])] [] (by kernel_rfl) (by kernel_rfl) trivial (sub_of [] (by kernel_rfl)) ?_
                refine wpa_new (n := 2) true 4 [] (fun g9 => [(74, .slice (some ⟨g9, 0, none⟩) 1 1), (70, .slice a1 (T1 i).length c1), (66, .int .i64 (↑i : Int)), (65, .int .i64 (↑TL.length : Int)), (64, .slice (some ⟨gt, off, none⟩) TL.length ct), (8, .pointer (some ⟨g7, 0, none⟩)), (5, .pointer (some ⟨g4, 0, none⟩)), (4, .pointer (some ⟨g3, 0, none⟩)), (2, .pointer (some ⟨g1, 0, none⟩))]) (fun g9 => [ob D (Obj.deferred (some [])), .blk g7 22 [.slice a1 (T1 i).length c1], row 9 1 a1 (T1 i).length c1 (strsC (T1 i)), .blk g3 22 [.slice none 0 0], .blk g4 30 [.int .i64 0], .blk g1 76 [.int .i64 v.pos, .int .i64 v.status, .int .i64 v.fault, .slice v.fa v.frames.length v.fc, .string (mkS v.out), .int .i64 v.sel, .slice v.sa v.stops.length v.sc, .int .i64 v.err, .int .i64 v.n, .string (mkS v.says)], gPow, ro v.sa (List.flatMap spC v.stops), ro (some ⟨gt, off, none⟩) (strsC TL), ro (some ⟨g8, 0, none⟩) (strsC [[124, 32], TL[i]]), .blk g9 9 [.string (mkS LN)]]) (fun g9 => []) (by kernel_rfl) (fun g9 => by kernel_rfl) (fun g9 => by kernel_rfl) (fun g9 => trivial) (fun g9 => sub_of [] (by kernel_rfl)) fun g9 => ?_
                refine wpa_ent (ent_turn 10 (ro (some ⟨g9, 0, none⟩) (strsC [LN])) rfl (turn_rblk (strs_one [LN])) rfl) ?_
                refine wpa_app (i := 5) (nf := 1) (by kernel_rfl) (a := a1) (n := ((T1 i).length)) (cap := c1) (x := (.slice (some ⟨g9, 0, none⟩) 1 1)) (t := 22) (xt := 22) (dst := some 75) (by kernel_rfl) (e := 9) (sz := 1) (bytes := 16) (by kernel_rfl) 2 (xs := (strsC (T1 i))) (by kernel_rfl) (m := 1) (news := (strsC [LN])) (fun w h => src_ro h 10 rfl rfl (fun e => by cases e)) (by unfold maxLen; omega) (by omega) [] (by kernel_rfl) ?_
                intro a2 c2 hn2
                rw [strs_apps, hsucc, show (T1 i).length + 1 = (T1 (i + 1)).length by omega]
                refine AO 0 6 [1] (.d (.d (.d (.k .a)))) (.k (.u (.i (.slice a2 (T1 (i + 1)).length c2) .z) .a)) [] ?_
                refine wpa_done 0 (by kernel_rfl) ?_
                refine BN (NT (RG ?_))
                refine RV true [] .z (.i 66 (.int .i64 ((↑i : Int) + 1)) (.d (.k .a))) .a ([inI64 ((↑i : Int) + (1 : Int))]) ⟨by unfold inI64; omega, trivial⟩ ?_
                refine RZ ?_
                exact fun a' w' hS' => ⟨⟨(i + 1, a2, c2), hlt⟩, by dsimp only; omega, ent_fr (by kernel_rfl) _ _ (ent_hp [0, 0, 0, 0, 0, 0, 0, 0, 0] rfl _ _ hS')⟩
              · refine wpi_new (n := 3) true 4 [] (fun g9 => [(74, .slice (some ⟨g9, 0, none⟩) 1 1), (66, .int .i64 (↑i : Int)), (65, .int .i64 (↑TL.length : Int)), (64, .slice (some ⟨gt, off, none⟩) TL.length ct), (8, .pointer (some ⟨g7, 0, none⟩)), (5, .pointer (some ⟨g4, 0, none⟩)), (4, .pointer (some ⟨g3, 0, none⟩)), (2, .pointer (some ⟨g1, 0, none⟩))]) (fun g9 => [ob D (Obj.deferred (some [])), .blk g7 22 [.slice a1 (T1 i).length c1], row 9 1 a1 (T1 i).length c1 (strsC (T1 i)), .blk g3 22 [.slice none 0 0], .blk g4 30 [.int .i64 0], .blk g1 76 [.int .i64 v.pos, .int .i64 v.status, .int .i64 v.fault, .slice v.fa v.frames.length v.fc, .string (mkS v.out), .int .i64 v.sel, .slice v.sa v.stops.length v.sc, .int .i64 v.err, .int .i64 v.n, .string (mkS v.says)], gPow, ro v.sa (List.flatMap spC v.stops), ro (some ⟨gt, off, none⟩) (strsC TL), ro (some ⟨g8, 0, none⟩) (strsC [[124, 32], TL[i]]), .blk g9 9 [.string (mkS LN)]]) (fun g9 => []) (fun g9 => by kernel_rfl) (fun g9 => by kernel_rfl) (fun g9 => trivial) (fun g9 => sub_of [] (by kernel_rfl)) fun g9 => ?_
                refine AO 2 0 [1] (.i 70 (.slice a1 (T1 i).length c1) .a) .a [] ?_
                refine wpa_ent (ent_turn 10 (ro (some ⟨g9, 0, none⟩) (strsC [LN])) rfl (turn_rblk (strs_one [LN])) rfl) ?_
                refine wpa_app (i := 5) (nf := 1) (by kernel_rfl) (a := a1) (n := ((T1 i).length)) (cap := c1) (x := (.slice (some ⟨g9, 0, none⟩) 1 1)) (t := 22) (xt := 22) (dst := some 75) (by kernel_rfl) (e := 9) (sz := 1) (bytes := 16) (by kernel_rfl) 2 (xs := (strsC (T1 i))) (by kernel_rfl) (m := 1) (news := (strsC [LN])) (fun w h => src_ro h 10 rfl rfl (fun e => by cases e)) (by unfold maxLen; omega) (by omega) [] (by kernel_rfl) ?_
                intro a2 c2 hn2
                rw [strs_apps, hsucc, show (T1 i).length + 1 = (T1 (i + 1)).length by omega]
                refine AO 0 6 [1] (.d (.d (.d (.k .a)))) (.k (.u (.i (.slice a2 (T1 (i + 1)).length c2) .z) .a)) [] ?_
                refine wpa_done 0 (by kernel_rfl) ?_
                refine BN (NT (RG ?_))
                refine RV true [] .z (.i 66 (.int .i64 ((↑i : Int) + 1)) (.d (.k .a))) .a ([inI64 ((↑i : Int) + (1 : Int))]) ⟨by unfold inI64; omega, trivial⟩ ?_
                refine RZ ?_
                exact fun a' w' hS' => ⟨⟨(i + 1, a2, c2), hlt⟩, by dsimp only; omega, ent_fr (by kernel_rfl) _ _ (ent_hp [0, 0, 0, 0, 0, 0, 0, 0, 0] rfl _ _ hS')⟩
        · obtain rfl : i = TL.length := by omega
          obtain ⟨T2, hT2⟩ : ∃ T2 : Nat → List Tx, T2 = fun i => T1 TL.length ++ (v.stops.take i).map stopT := ⟨_, rfl⟩
          have hT2l : ∀ i, i ≤ v.stops.length → (T2 i).length = v.frames.length + 1 + TL.length + i := fun i hi => by rw [hT2]; dsimp only; rw [List.length_append, List.length_map, List.length_take, hT1l _ (Nat.le_refl _)]; omega
          have hT2s : ∀ i (h : i < v.stops.length), T2 i ++ [stopT v.stops[i]] = T2 (i + 1) := fun i h => by rw [hT2]; dsimp only; rw [← List.take_append_getElem h, List.map_append, List.append_assoc]; rfl
          have hT20 : T1 TL.length = T2 0 := by rw [hT2]; simp
          rw [hT20]
          refine SQ (RG ?_)
          refine RR [] .z (.i 67 (.bool (decide ((↑TL.length : Int) < (↑TL.length : Int)))) .a) .a ?_
          refine RZ (NT (SQ ?_))
          refine SC 67 (decide ((↑TL.length : Int) < (↑TL.length : Int))) false (by simp) ?_
          refine CF (EX (TE (TE (BH (NT (SQ (SQ (RG ?_))))))))
          refine RR [5] .z (.i 80 (.int .i64 0) (.i 79 (.int .i64 (↑v.stops.length : Int)) (.i 78 (.slice v.sa v.stops.length v.sc) (.d (.d (.d (.d (.d (.k .a))))))))) .a ?_
          refine RZ (NT (BK ?_))
          refine wpc_loop (X := {x : Nat × Option Addr × Nat // x.1 ≤ v.stops.length}) (fun x => St.mk [(80, .int .i64 (x.1.1 : Int)), (79, .int .i64 v.stops.length), (78, .slice v.sa v.stops.length v.sc), (8, .pointer (some ⟨g7, 0, none⟩)), (5, .pointer (some ⟨g4, 0, none⟩)), (4, .pointer (some ⟨g3, 0, none⟩)), (2, .pointer (some ⟨g1, 0, none⟩))]
            [ob D (.deferred (some [])), .blk g7 22 [.slice x.1.2.1 (T2 x.1.1).length x.1.2.2], row 9 1 x.1.2.1 (T2 x.1.1).length x.1.2.2 (strsC (T2 x.1.1)), .blk g3 22 [.slice none 0 0], .blk g4 30 [.int .i64 0], .blk g1 76 [.int .i64 v.pos, .int .i64 v.status, .int .i64 v.fault, .slice v.fa v.frames.length v.fc, .string (mkS v.out), .int .i64 v.sel, .slice v.sa v.stops.length v.sc, .int .i64 v.err, .int .i64 v.n, .string (mkS v.says)], gPow, ro v.sa (v.stops.flatMap spC)]) (fun x => v.stops.length - x.1.1) ⟨(0, a1, c1), Nat.zero_le _⟩ ?_ ?_
          · exact Ent.trans (ent_hp [0, 0, 0, 0, 0, 0, 0, 0] rfl) (ent_fr (by kernel_rfl))
          rintro ⟨⟨i, a1, c1⟩, hi⟩
          dsimp only at hi ⊢
          have hl1 := hT2l i hi
          by_cases hlt : i < v.stops.length
          · have hok := v9 _ (List.getElem_mem hlt)
            have hsucc := hT2s i hlt
            have hl2 := hT2l (i + 1) hlt
            have hSp := stop_spec v.stops[i] hok
            have hat := sps_at hlt
            rw [show spC v.stops[i] = [.int .i64 v.stops[i].id, .int .i64 v.stops[i].line, .string (mkS v.stops[i].cond), .string (mkS v.stops[i].watch), .bool v.stops[i].off] from rfl] at hSp hat
            obtain ⟨LN, hLN⟩ : ∃ N, N = stopT v.stops[i] := ⟨_, rfl⟩
            rw [← hLN] at hsucc hSp
            refine wpc_fact (fun w h => ro_addr h 7 rfl (by rw [sps_len]; omega)) ?_
            rintro ⟨gs, os, hsa⟩
            rw [hsa]
            refine SQ (RG ?_)
            refine RR [] .z (.i 81 (.bool (decide ((↑i : Int) < (↑v.stops.length : Int)))) .a) .a ?_
            refine RZ (NT (SQ ?_))
            refine SC 81 (decide ((↑i : Int) < (↑v.stops.length : Int))) true (decide_eq_true (by omega)) ?_
            refine CT (SK (NT (SQ (BK (SQ (RG ?_))))))
            refine RV true [] (.d .a) (.i 82 (.pointer (some ⟨gs, os + i * 5, none⟩)) (.d (.d (.k .a)))) .a [(0 : Int) ≤ (↑i : Int) ∧ (↑i : Int) < (↑v.stops.length : Int)] ⟨by omega, trivial⟩ ?_
            refine wpr_eq (ld (t := 151) (a := ⟨gs, os + i * 5, none⟩) (dst := some 83) (by kernel_rfl) true 5 (by kernel_rfl) (by simp) [.int .i64 v.stops[i].id, .int .i64 v.stops[i].line, .string (mkS v.stops[i].cond), .string (mkS v.stops[i].watch), .bool v.stops[i].off] rfl (fun w h => ld_ro h 7 rfl (i * 5) hat)) ?_
            refine RP [] (.d .a) 17 (.i 83 (.agg #[.int .i64 v.stops[i].id, .int .i64 v.stops[i].line, .string (mkS v.stops[i].cond), .string (mkS v.stops[i].watch), .bool v.stops[i].off]) (.d (.d (.k .a)))) .a 151 [.int .i64 0, .int .i64 0, .string ⟨#[]⟩, .string ⟨#[]⟩, .bool false] fun g8 => ?_
            refine RR [8, 8, 8, 8, 8] .z (.k (.d (.k .a))) (.k (.k (.k (.k (.k (.k (.k (.k (.u (.i (.int .i64 v.stops[i].id) (.i (.int .i64 v.stops[i].line) (.i (.string (mkS v.stops[i].cond)) (.i (.string (mkS v.stops[i].watch)) (.i (.bool v.stops[i].off) .z))))) .a))))))))) ?_
            refine RZ (NT ?_)
            refine wpc_draw (by kernel_rfl) [gPow, .blk g8 151 [.int .i64 v.stops[i].id, .int .i64 v.stops[i].line, .string (mkS v.stops[i].cond), .string (mkS v.stops[i].watch), .bool v.stops[i].off]] (sub_of [6, 8] (by kernel_rfl)) 6 (by kernel_rfl) ?_
            refine TK 5 [(1, [1, 1, 1, 1, 1])] (.i 85 (.agg #[.int .i64 v.stops[i].id, .int .i64 v.stops[i].line, .string (mkS v.stops[i].cond), .string (mkS v.stops[i].watch), .bool v.stops[i].off]) (.d (.k .a))) (#[false, true, false, false, false, false]) ?_
            refine wpa_two (i := 0) (j := 2) (n := 4) (by kernel_rfl) ?_ ?_
            · refine wpi_one (n := 4) true 0 [1] [(84, .slice a1 (T2 i).length c1), (85, .agg #[.int .i64 v.stops[i].id, .int .i64 v.stops[i].line, .string (mkS v.stops[i].cond), .string (mkS v.stops[i].watch), .bool v.stops[i].off]), (80, .int .i64 (↑i : Int)), (79, .int .i64 (↑v.stops.length : Int)), (78, .slice (some ⟨gs, os, none⟩) v.stops.length v.sc), (8, .pointer (some ⟨g7, 0, none⟩)), (5, .pointer (some ⟨g4, 0, none⟩)), (4, .pointer (some ⟨g3, 0, none⟩)), (2, .pointer (some ⟨g1, 0, none⟩))] [ob D (Obj.deferred (some [])), .blk g7 22 [.slice a1 (T2 i).length c1], row 9 1 a1 (T2 i).length c1 (strsC (T2 i)), .blk g3 22 [.slice none 0 0], .blk g4 30 [.int .i64 0], .blk g1 76 [.int .i64 v.pos, .int .i64 v.status, .int .i64 v.fault, .slice v.fa v.frames.length v.fc, .string (mkS v.out), .int .i64 v.sel, .slice (some ⟨gs, os, none⟩) v.stops.length v.sc, .int .i64 v.err, .int .i64 v.n, .string (mkS v.says)], gPow, ro (some ⟨gs, os, none⟩) (List.flatMap spC v.stops), .blk g8 151 [.int .i64 v.stops[i].id, .int .i64 v.stops[i].line, .string (mkS v.stops[i].cond), .string (mkS v.stops[i].watch), .bool v.stops[i].off]] [] (by kernel_rfl) (by kernel_rfl) trivial (sub_of [6, 8] (by kernel_rfl)) ?_
              refine AC (dst := some 86) 3 2 .a (hSp) (GV (GI []) 6 view_gPow) [6, 8] ?_
              rintro r _ ⟨rfl, rfl⟩
              refine wpa_new (n := 2) true 3 [] (fun g9 => [(87, .slice (some ⟨g9, 0, none⟩) 1 1), (84, .slice a1 (T2 i).length c1), (80, .int .i64 (↑i : Int)), (79, .int .i64 (↑v.stops.length : Int)), (78, .slice (some ⟨gs, os, none⟩) v.stops.length v.sc), (8, .pointer (some ⟨g7, 0, none⟩)), (5, .pointer (some ⟨g4, 0, none⟩)), (4, .pointer (some ⟨g3, 0, none⟩)), (2, .pointer (some ⟨g1, 0, none⟩))]) (fun g9 => [ob D (Obj.deferred (some [])), .blk g7 22 [.slice a1 (T2 i).length c1], row 9 1 a1 (T2 i).length c1 (strsC (T2 i)), .blk g3 22 [.slice none 0 0], .blk g4 30 [.int .i64 0], .blk g1 76 [.int .i64 v.pos, .int .i64 v.status, .int .i64 v.fault, .slice v.fa v.frames.length v.fc, .string (mkS v.out), .int .i64 v.sel, .slice (some ⟨gs, os, none⟩) v.stops.length v.sc, .int .i64 v.err, .int .i64 v.n, .string (mkS v.says)], gPow, ro (some ⟨gs, os, none⟩) (List.flatMap spC v.stops), .blk g8 151 [.int .i64 v.stops[i].id, .int .i64 v.stops[i].line, .string (mkS v.stops[i].cond), .string (mkS v.stops[i].watch), .bool v.stops[i].off], .blk g9 9 [.string (mkS LN)]]) (fun g9 => []) (by kernel_rfl) (fun g9 => by kernel_rfl) (fun g9 => by kernel_rfl) (fun g9 => trivial) (fun g9 => sub_of [6, 8] (by kernel_rfl)) fun g9 => ?_
              refine wpa_ent (ent_turn 9 (ro (some ⟨g9, 0, none⟩) (strsC [LN])) rfl (turn_rblk (strs_one [LN])) rfl) ?_
              refine wpa_app (i := 4) (nf := 1) (by kernel_rfl) (a := a1) (n := ((T2 i).length)) (cap := c1) (x := (.slice (some ⟨g9, 0, none⟩) 1 1)) (t := 22) (xt := 22) (dst := some 88) (by kernel_rfl) (e := 9) (sz := 1) (bytes := 16) (by kernel_rfl) 2 (xs := (strsC (T2 i))) (by kernel_rfl) (m := 1) (news := (strsC [LN])) (fun w h => src_ro h 9 rfl rfl (fun e => by cases e)) (by unfold maxLen; omega) (by omega) [5, 7] (by kernel_rfl) ?_
              intro a2 c2 hn2
              rw [strs_apps, hsucc, show (T2 i).length + 1 = (T2 (i + 1)).length by omega]
              refine AO 0 5 [1] (.d (.d (.d (.k .a)))) (.k (.u (.i (.slice a2 (T2 (i + 1)).length c2) .z) .a)) [6, 8] ?_
              refine wpa_done 0 (by kernel_rfl) ?_
              refine BN (NT (RG ?_))
              refine RV true [] .z (.i 80 (.int .i64 ((↑i : Int) + 1)) (.d (.k .a))) .a ([inI64 ((↑i : Int) + (1 : Int))]) ⟨by unfold inI64; omega, trivial⟩ ?_
              refine RZ ?_
              rw [← hsa]
              exact fun a' w' hS' => ⟨⟨(i + 1, a2, c2), hlt⟩, by dsimp only; omega, ent_fr (by kernel_rfl) _ _ (ent_hp [0, 0, 0, 0, 0, 0, 0, 0] rfl _ _ hS')⟩
            · refine wpi_call (i := 2) (dst := some 86) (rest := [ob D (Obj.deferred (some [])), .blk g7 22 [.slice a1 (T2 i).length c1], row 9 1 a1 (T2 i).length c1 (strsC (T2 i)), .blk g3 22 [.slice none 0 0], .blk g4 30 [.int .i64 0], .blk g1 76 [.int .i64 v.pos, .int .i64 v.status, .int .i64 v.fault, .slice v.fa v.frames.length v.fc, .string (mkS v.out), .int .i64 v.sel, .slice (some ⟨gs, os, none⟩) v.stops.length v.sc, .int .i64 v.err, .int .i64 v.n, .string (mkS v.says)], gPow, ro (some ⟨gs, os, none⟩) (List.flatMap spC v.stops), .blk g8 151 [.int .i64 v.stops[i].id, .int .i64 v.stops[i].line, .string (mkS v.stops[i].cond), .string (mkS v.stops[i].watch), .bool v.stops[i].off]]) (by kernel_rfl) (hSp) (Give.view (c := gPow) (give (pre := []) (rest := [ob D (Obj.deferred (some [])), .blk g7 22 [.slice a1 (T2 i).length c1], row 9 1 a1 (T2 i).length c1 (strsC (T2 i)), .blk g3 22 [.slice none 0 0], .blk g4 30 [.int .i64 0], .blk g1 76 [.int .i64 v.pos, .int .i64 v.status, .int .i64 v.fault, .slice v.fa v.frames.length v.fc, .string (mkS v.out), .int .i64 v.sel, .slice (some ⟨gs, os, none⟩) v.stops.length v.sc, .int .i64 v.err, .int .i64 v.n, .string (mkS v.says)], gPow, ro (some ⟨gs, os, none⟩) (List.flatMap spC v.stops), .blk g8 151 [.int .i64 v.stops[i].id, .int .i64 v.stops[i].line, .string (mkS v.stops[i].cond), .string (mkS v.stops[i].watch), .bool v.stops[i].off]]) [] (by kernel_rfl)) 6 (by kernel_rfl) view_gPow) (sub_of [6, 8] (by kernel_rfl)) ?_
              rintro r _ ⟨rfl, rfl⟩
              refine wpa_two (i := 0) (j := 3) (n := 3) (by kernel_rfl) ?_ ?_
              · refine wpi_one (n := 3) true 0 [1] [(84, .slice a1 (T2 i).length c1), (86, .string (mkS LN)), (80, .int .i64 (↑i : Int)), (79, .int .i64 (↑v.stops.length : Int)), (78, .slice (some ⟨gs, os, none⟩) v.stops.length v.sc), (8, .pointer (some ⟨g7, 0, none⟩)), (5, .pointer (some ⟨g4, 0, none⟩)), (4, .pointer (some ⟨g3, 0, none⟩)), (2, .pointer (some ⟨g1, 0, none⟩))] [ob D (Obj.deferred (some [])), .blk g7 22 [.slice a1 (T2 i).length c1], row 9 1 a1 (T2 i).length c1 (strsC (T2 i)), .blk g3 22 [.slice none 0 0], .blk g4 30 [.int .i64 0], .blk g1 76 [.int .i64 v.pos, .int .i64 v.status, .int .i64 v.fault, .slice v.fa v.frames.length v.fc, .string (mkS v.out), .int .i64 v.sel, .slice (some ⟨gs, os, none⟩) v.stops.length v.sc, .int .i64 v.err, .int .i64 v.n, .string (mkS v.says)], gPow, ro (some ⟨gs, os, none⟩) (List.flatMap spC v.stops), .blk g8 151 [.int .i64 v.stops[i].id, .int .i64 v.stops[i].line, .string (mkS v.stops[i].cond), .string (mkS v.stops[i].watch), .bool v.stops[i].off]] [] (by kernel_rfl) (by kernel_rfl) trivial (sub_of [6, 8] (by kernel_rfl)) ?_
                refine wpa_new (n := 2) true 3 [] (fun g9 => [(87, .slice (some ⟨g9, 0, none⟩) 1 1), (84, .slice a1 (T2 i).length c1), (80, .int .i64 (↑i : Int)), (79, .int .i64 (↑v.stops.length : Int)), (78, .slice (some ⟨gs, os, none⟩) v.stops.length v.sc), (8, .pointer (some ⟨g7, 0, none⟩)), (5, .pointer (some ⟨g4, 0, none⟩)), (4, .pointer (some ⟨g3, 0, none⟩)), (2, .pointer (some ⟨g1, 0, none⟩))]) (fun g9 => [ob D (Obj.deferred (some [])), .blk g7 22 [.slice a1 (T2 i).length c1], row 9 1 a1 (T2 i).length c1 (strsC (T2 i)), .blk g3 22 [.slice none 0 0], .blk g4 30 [.int .i64 0], .blk g1 76 [.int .i64 v.pos, .int .i64 v.status, .int .i64 v.fault, .slice v.fa v.frames.length v.fc, .string (mkS v.out), .int .i64 v.sel, .slice (some ⟨gs, os, none⟩) v.stops.length v.sc, .int .i64 v.err, .int .i64 v.n, .string (mkS v.says)], gPow, ro (some ⟨gs, os, none⟩) (List.flatMap spC v.stops), .blk g8 151 [.int .i64 v.stops[i].id, .int .i64 v.stops[i].line, .string (mkS v.stops[i].cond), .string (mkS v.stops[i].watch), .bool v.stops[i].off], .blk g9 9 [.string (mkS LN)]]) (fun g9 => []) (by kernel_rfl) (fun g9 => by kernel_rfl) (fun g9 => by kernel_rfl) (fun g9 => trivial) (fun g9 => sub_of [6, 8] (by kernel_rfl)) fun g9 => ?_
                refine wpa_ent (ent_turn 9 (ro (some ⟨g9, 0, none⟩) (strsC [LN])) rfl (turn_rblk (strs_one [LN])) rfl) ?_
                refine wpa_app (i := 4) (nf := 1) (by kernel_rfl) (a := a1) (n := ((T2 i).length)) (cap := c1) (x := (.slice (some ⟨g9, 0, none⟩) 1 1)) (t := 22) (xt := 22) (dst := some 88) (by kernel_rfl) (e := 9) (sz := 1) (bytes := 16) (by kernel_rfl) 2 (xs := (strsC (T2 i))) (by kernel_rfl) (m := 1) (news := (strsC [LN])) (fun w h => src_ro h 9 rfl rfl (fun e => by cases e)) (by unfold maxLen; omega) (by omega) [5, 7] (by kernel_rfl) ?_
                intro a2 c2 hn2
                rw [strs_apps, hsucc, show (T2 i).length + 1 = (T2 (i + 1)).length by omega]
                refine AO 0 5 [1] (.d (.d (.d (.k .a)))) (.k (.u (.i (.slice a2 (T2 (i + 1)).length c2) .z) .a)) [6, 8] ?_
                refine wpa_done 0 (by kernel_rfl) ?_
                refine BN (NT (RG ?_))
                refine RV true [] .z (.i 80 (.int .i64 ((↑i : Int) + 1)) (.d (.k .a))) .a ([inI64 ((↑i : Int) + (1 : Int))]) ⟨by unfold inI64; omega, trivial⟩ ?_
                refine RZ ?_
                rw [← hsa]
                exact fun a' w' hS' => ⟨⟨(i + 1, a2, c2), hlt⟩, by dsimp only; omega, ent_fr (by kernel_rfl) _ _ (ent_hp [0, 0, 0, 0, 0, 0, 0, 0] rfl _ _ hS')⟩
              · refine wpi_new (n := 3) true 3 [] (fun g9 => [(87, .slice (some ⟨g9, 0, none⟩) 1 1), (80, .int .i64 (↑i : Int)), (79, .int .i64 (↑v.stops.length : Int)), (78, .slice (some ⟨gs, os, none⟩) v.stops.length v.sc), (8, .pointer (some ⟨g7, 0, none⟩)), (5, .pointer (some ⟨g4, 0, none⟩)), (4, .pointer (some ⟨g3, 0, none⟩)), (2, .pointer (some ⟨g1, 0, none⟩))]) (fun g9 => [ob D (Obj.deferred (some [])), .blk g7 22 [.slice a1 (T2 i).length c1], row 9 1 a1 (T2 i).length c1 (strsC (T2 i)), .blk g3 22 [.slice none 0 0], .blk g4 30 [.int .i64 0], .blk g1 76 [.int .i64 v.pos, .int .i64 v.status, .int .i64 v.fault, .slice v.fa v.frames.length v.fc, .string (mkS v.out), .int .i64 v.sel, .slice (some ⟨gs, os, none⟩) v.stops.length v.sc, .int .i64 v.err, .int .i64 v.n, .string (mkS v.says)], gPow, ro (some ⟨gs, os, none⟩) (List.flatMap spC v.stops), .blk g8 151 [.int .i64 v.stops[i].id, .int .i64 v.stops[i].line, .string (mkS v.stops[i].cond), .string (mkS v.stops[i].watch), .bool v.stops[i].off], .blk g9 9 [.string (mkS LN)]]) (fun g9 => []) (fun g9 => by kernel_rfl) (fun g9 => by kernel_rfl) (fun g9 => trivial) (fun g9 => sub_of [6, 8] (by kernel_rfl)) fun g9 => ?_
                refine AO 2 0 [1] (.i 84 (.slice a1 (T2 i).length c1) .a) .a [6, 8] ?_
                refine wpa_ent (ent_turn 9 (ro (some ⟨g9, 0, none⟩) (strsC [LN])) rfl (turn_rblk (strs_one [LN])) rfl) ?_
                refine wpa_app (i := 4) (nf := 1) (by kernel_rfl) (a := a1) (n := ((T2 i).length)) (cap := c1) (x := (.slice (some ⟨g9, 0, none⟩) 1 1)) (t := 22) (xt := 22) (dst := some 88) (by kernel_rfl) (e := 9) (sz := 1) (bytes := 16) (by kernel_rfl) 2 (xs := (strsC (T2 i))) (by kernel_rfl) (m := 1) (news := (strsC [LN])) (fun w h => src_ro h 9 rfl rfl (fun e => by cases e)) (by unfold maxLen; omega) (by omega) [5, 7] (by kernel_rfl) ?_
                intro a2 c2 hn2
                rw [strs_apps, hsucc, show (T2 i).length + 1 = (T2 (i + 1)).length by omega]
                refine AO 0 5 [1] (.d (.d (.d (.k .a)))) (.k (.u (.i (.slice a2 (T2 (i + 1)).length c2) .z) .a)) [6, 8] ?_
                refine wpa_done 0 (by kernel_rfl) ?_
                refine BN (NT (RG ?_))
                refine RV true [] .z (.i 80 (.int .i64 ((↑i : Int) + 1)) (.d (.k .a))) .a ([inI64 ((↑i : Int) + (1 : Int))]) ⟨by unfold inI64; omega, trivial⟩ ?_
                refine RZ ?_
                rw [← hsa]
                exact fun a' w' hS' => ⟨⟨(i + 1, a2, c2), hlt⟩, by dsimp only; omega, ent_fr (by kernel_rfl) _ _ (ent_hp [0, 0, 0, 0, 0, 0, 0, 0] rfl _ _ hS')⟩
          · obtain rfl : i = v.stops.length := by omega
            have hRp := reply_spec v.err v.n v.says v10 v11 v12
            obtain ⟨LN, hLN⟩ : ∃ N, N = replyT v.err v.n v.says := ⟨_, rfl⟩
            rw [← hLN] at hRp
            refine SQ (RG ?_)
            refine RR [] .z (.i 81 (.bool (decide ((↑v.stops.length : Int) < (↑v.stops.length : Int)))) .a) .a ?_
            refine RZ (NT (SQ ?_))
            refine SC 81 (decide ((↑v.stops.length : Int) < (↑v.stops.length : Int))) false (by simp) ?_
            refine CF (EX (TE (TE (BH (NT (SQ ?_))))))
            refine wpc_draw (by kernel_rfl) [.blk g7 22 [.slice a1 (T2 v.stops.length).length c1], .blk g1 76 [.int .i64 v.pos, .int .i64 v.status, .int .i64 v.fault, .slice v.fa v.frames.length v.fc, .string (mkS v.out), .int .i64 v.sel, .slice v.sa v.stops.length v.sc, .int .i64 v.err, .int .i64 v.n, .string (mkS v.says)], gPow] (sub_of [1, 5, 6] (by kernel_rfl)) 8 (by kernel_rfl) ?_
            refine TK 5 [(0, [0]), (1, []), (2, [1, 1, 1])] (.i 92 (.agg #[.int .i64 v.err, .int .i64 v.n, .string (mkS v.says)]) (.i 90 (.slice a1 (T2 v.stops.length).length c1) (.d (.d (.d (.d (.d (.d (.k (.k .z)))))))))) (#[true, true, true, false, false, false, false, false]) ?_
            refine AC (dst := some 93) 4 3 .a (hRp) (GV (GI []) 6 view_gPow) [1, 5, 6] ?_
            rintro r _ ⟨rfl, rfl⟩
            refine wpa_new (n := 3) true 4 [] (fun g8 => [(94, .slice (some ⟨g8, 0, none⟩) 1 1), (90, .slice a1 (T2 v.stops.length).length c1), (5, .pointer (some ⟨g4, 0, none⟩)), (4, .pointer (some ⟨g3, 0, none⟩))]) (fun g8 => [ob D (Obj.deferred (some [])), .blk g7 22 [.slice a1 (T2 v.stops.length).length c1], row 9 1 a1 (T2 v.stops.length).length c1 (strsC (T2 v.stops.length)), .blk g3 22 [.slice none 0 0], .blk g4 30 [.int .i64 0], .blk g1 76 [.int .i64 v.pos, .int .i64 v.status, .int .i64 v.fault, .slice v.fa v.frames.length v.fc, .string (mkS v.out), .int .i64 v.sel, .slice v.sa v.stops.length v.sc, .int .i64 v.err, .int .i64 v.n, .string (mkS v.says)], gPow, ro v.sa (List.flatMap spC v.stops), .blk g8 9 [.string (mkS LN)]]) (fun g8 => []) (by kernel_rfl) (fun g8 => by kernel_rfl) (fun g8 => by kernel_rfl) (fun g8 => trivial) (fun g8 => sub_of [1, 5, 6] (by kernel_rfl)) fun g8 => ?_
            refine wpa_ent (ent_turn 8 (ro (some ⟨g8, 0, none⟩) (strsC [LN])) rfl (turn_rblk (strs_one [LN])) rfl) ?_
            refine wpa_app (i := 5) (nf := 2) (by kernel_rfl) (a := a1) (n := ((T2 v.stops.length).length)) (cap := c1) (x := (.slice (some ⟨g8, 0, none⟩) 1 1)) (t := 22) (xt := 22) (dst := some 95) (by kernel_rfl) (e := 9) (sz := 1) (bytes := 16) (by kernel_rfl) 2 (xs := (strsC (T2 v.stops.length))) (by kernel_rfl) (m := 1) (news := (strsC [LN])) (fun w h => src_ro h 8 rfl rfl (fun e => by cases e)) (by unfold maxLen; omega) (by omega) [1, 4, 5] (by kernel_rfl) ?_
            intro a2 c2 hn2
            have hfin : T2 v.stops.length ++ [LN] = linesT (l.map Ob.o) v := by
              rw [hT2, hT1, hT00, hT, hLN, hTL]
              dsimp only
              rw [List.take_length, List.take_length]
              unfold linesT framesT frT
              rw [← hIe, ← hSTe, ← hP0]
              rfl
            rw [strs_apps, show (T2 v.stops.length).length + 1 = (T2 v.stops.length ++ [LN]).length by simp, hfin]
            obtain ⟨LT, hLT⟩ : ∃ LT, LT = linesT (l.map Ob.o) v := ⟨_, rfl⟩
            rw [← hLT]
            refine AO 1 6 [3] (.d (.d (.d (.k .a)))) (.k (.k (.k (.u (.i (.slice a2 LT.length c2) .z) .a)))) [1, 5, 6] ?_
            refine AO 0 7 [4] .a .a [1, 5, 6] ?_
            refine wpa_done 0 (by kernel_rfl) ?_
            refine NT (RE ?_)
            refine nx_end2 [1] [2, 3] (.tuple #[.slice a2 LT.length c2, .int .i64 0]) ?_
            rw [if_pos rfl]
            exact ⟨a2, c2, rfl, rfl⟩
      | false =>
        rw [hall, if_neg (by decide)] at hs
        subst hs
        refine .inr ⟨_, rfl, ?_⟩
        refine nx_end2 (hp' := []) [] [0, 1] (.tuple #[.slice none 0 0, .int .i64 2]) ?_
        rw [if_neg (by decide)]
        exact ⟨rfl, rfl⟩
end Go.Proofs.YtgcfomhlgipllaaGreatDoor
namespace Go.Proofs.YtgcfomhlgipllaaGreatDoor
open Go Go.Sx
theorem list_ne_at {α : Type} {l1 l2 : List α} {i : Nat} (h1 : i < l1.length) (h2 : i < l2.length) (hn : l1[i] ≠ l2[i]) : l1 ≠ l2 := fun e => by subst e; exact hn rfl
theorem sameTexts_spec (a1 : Option Addr) (c1 : Nat) (l1 : List Tx) (a2 : Option Addr) (c2 : Nat) (l2 : List Tx) (hl1 : l1.length ≤ 1048576) (hl2 : l2.length ≤ 1048576) :
    Does Tryz.prog 25 [.slice a1 l1.length c1, .slice a2 l2.length c2] [ro a1 (strsC l1), ro a2 (strsC l2)] (fun v hp' => v = .bool (decide (l1 = l2)) ∧ hp' = []) := by
  refine fn_enter Tryz.func25 rfl 26 rfl fun w0 h0 => ?_
  refine SQ (RG ?_)
  refine RR [] .z (.i 4 (.bool false) .a) .a ?_
  refine RZ (NT (SQ (SQ (RG ?_))))
  refine RR [] .z (.i 10 (.bool ((↑l1.length : Int) != (↑l2.length : Int))) .a) .a ?_
  refine RZ (NT ?_)
  by_cases hlen : ¬ l1.length = l2.length
  · rw [decide_eq_false (fun e => hlen (congrArg List.length e))]
    refine SC 10 ((↑l1.length : Int) != (↑l2.length : Int)) true (by simp only [bne_iff_ne, beq_iff_eq, ne_eq]; omega) ?_
    refine CT (SQ (RG ?_))
    refine RR [] .z (.d (.d (.k .a))) .a ?_
    refine RZ (NT (RE (TR ?_)))
    refine NE [] .z .a [] (.bool false) ?_
    exact ⟨rfl, rfl⟩
  rw [Decidable.not_not] at hlen
  refine SC 10 ((↑l1.length : Int) != (↑l2.length : Int)) false (by simp only [bne_eq_false_iff_eq, beq_eq_false_iff_ne, ne_eq]; omega) ?_
  refine CF (SK (NT (SQ (SQ (RG ?_)))))
  refine RR [] .z (.i 5 (.int .i64 0) (.d (.d (.k .a)))) .a ?_
  refine RZ (NT (BK ?_))
  refine wpc_loop (X := {i : Nat // i ≤ l1.length ∧ ∀ j, (h1 : j < l1.length) → (h2 : j < l2.length) → j < i → l1[j] = l2[j]}) (fun x => St.mk [(5, .int .i64 (x.1 : Int)), (4, .bool false), (0, .slice a1 l1.length c1), (1, .slice a2 l2.length c2)] [ro a1 (strsC l1), ro a2 (strsC l2)]) (fun x => l1.length - x.1) ⟨0, Nat.zero_le _, fun j _ _ h => absurd h (Nat.not_lt_zero _)⟩ (ent_fr (by kernel_rfl)) ?_
  rintro ⟨i, hi, hall⟩
  dsimp only at hi hall ⊢
  by_cases hlt : i < l1.length
  · have hlt2 : i < l2.length := by omega
    refine wpc_fact (fun w h => ro_addr h 0 rfl (by rw [strsC_len]; omega)) ?_
    rintro ⟨g1, o1, rfl⟩
    refine wpc_fact (fun w h => ro_addr h 1 rfl (by rw [strsC_len]; omega)) ?_
    rintro ⟨g2, o2, rfl⟩
    refine SQ (SQ (RG ?_))
    refine RR [] .z (.i 14 (.bool (decide ((↑i : Int) < (↑l1.length : Int)))) .a) .a ?_
    refine RZ (NT ?_)
    refine SC 14 (decide ((↑i : Int) < (↑l1.length : Int))) true (decide_eq_true (by omega)) ?_
    refine CT (SK (NT (SQ (BK (SQ ?_)))))
    refine wpc_draw (by kernel_rfl) [ro (some ⟨g1, o1, none⟩) (strsC l1), ro (some ⟨g2, o2, none⟩) (strsC l2)] (sub_of [0, 1] (by kernel_rfl)) 9 (by kernel_rfl) ?_
    refine wpa_take true [(0, []), (1, []), (2, []), (4, []), (5, []), (6, [])] ([(23, .pointer (some ⟨g2, o2 + i * 1, none⟩)), (19, .pointer (some ⟨g1, o1 + i * 1, none⟩)), (5, .int .i64 (↑i : Int)), (4, .bool false), (0, .slice (some ⟨g1, o1, none⟩) l1.length c1), (1, .slice (some ⟨g2, o2, none⟩) l2.length c2)]) (#[true, true, true, false, true, true, true, false, false]) [(0 : Int) ≤ (↑i : Int) ∧ (↑i : Int) < (↑l1.length : Int), (0 : Int) ≤ (↑i : Int) ∧ (↑i : Int) < (↑l2.length : Int)] (n := 3) (by kernel_rfl) (by kernel_rfl) (by kernel_rfl) ⟨by omega, by omega, trivial⟩ ?_
    refine wpa_qld (i := 3) (n := 2) (by kernel_rfl) (by kernel_rfl) (by kernel_rfl) (t := 9) (a := ⟨g1, o1 + i * 1, none⟩) (dst := some 20) (by kernel_rfl) false 1 (by kernel_rfl) (by simp) [.string (mkS l1[i])] rfl (fun w h => ld_roL h 0 rfl (i * 1) (strs_at hlt)) ?_
    refine wpa_qld (i := 7) (n := 1) (by kernel_rfl) (by kernel_rfl) (by kernel_rfl) (t := 9) (a := ⟨g2, o2 + i * 1, none⟩) (dst := some 24) (by kernel_rfl) false 1 (by kernel_rfl) (by simp) [.string (mkS l2[i])] rfl (fun w h => ld_roL h 1 rfl (i * 1) (strs_at hlt2)) ?_
    refine TK 0 [(8, [])] (.i 25 (.bool !decide (l1[i] = l2[i])) (.d (.d (.d (.d (.k .a)))))) (#[true, true, true, true, true, true, true, true, true]) ?_
    refine wpa_done 0 (by kernel_rfl) ?_
    refine NT ?_
    by_cases he : l1[i] = l2[i]
    · refine SC 25 (!decide (l1[i] = l2[i])) false (by simp; omega) ?_
      refine CF (SK (BN (NT (RG ?_))))
      refine RV true [] .z (.i 5 (.int .i64 ((↑i : Int) + 1)) (.d (.d (.d (.k .a))))) .a ([inI64 ((↑i : Int) + (1 : Int))]) ⟨by unfold inI64; omega, trivial⟩ ?_
      refine RZ ?_
      exact fun a' w' hS' => ⟨⟨i + 1, hlt, fun j h1 h2 hj => by
              rcases Nat.lt_or_ge j i with h | h
              · exact hall j h1 h2 h
              · obtain rfl : j = i := by omega
                exact he⟩, by dsimp only; omega, ent_fr (by kernel_rfl) _ _ (ent_hp [0, 0] rfl _ _ hS')⟩
    · rw [decide_eq_false (list_ne_at hlt hlt2 he)]
      refine SC 25 (!decide (l1[i] = l2[i])) true (by simp; omega) ?_
      refine CT (SQ (RG ?_))
      refine RR [] .z (.i 4 (.bool false) (.d (.d (.k (.d (.k .a)))))) .a ?_
      refine RZ (NT (RE (BR (TR (TR (BR (TR ?_)))))))
      refine NE [] .z .a [] (.bool false) ?_
      exact ⟨rfl, rfl⟩
  · obtain rfl : i = l1.length := by omega
    rw [decide_eq_true (List.ext_getElem hlen fun j h1 h2 => hall j h1 h2 h1)]
    refine SQ (SQ (RG ?_))
    refine RR [] .z (.i 14 (.bool (decide ((↑l1.length : Int) < (↑l1.length : Int)))) .a) .a ?_
    refine RZ (NT ?_)
    refine SC 14 (decide ((↑l1.length : Int) < (↑l1.length : Int))) false (by simp) ?_
    refine CF (EX (TE (TE (BH (NT (SQ (RG ?_)))))))
    refine RR [] .z (.i 4 (.bool true) .z) .a ?_
    refine RZ (NT (RE ?_))
    refine NE [] .z .a [] (.bool true) ?_
    exact ⟨rfl, rfl⟩
end Go.Proofs.YtgcfomhlgipllaaGreatDoor
namespace Go.Proofs.YtgcfomhlgipllaaGreatDoor
open Go Go.Sx
theorem num_spec (s : Tx) (n : Int) : Does Tryz.prog 87 [.string (mkS s), .int .i64 n] [] (fun v hp' => ∃ g, v = .slice (some ⟨g, 0, none⟩) 1 1 ∧ hp' = [.blk g 96 [.string (mkS s), .int .i64 1, .int .i64 n, .string (mkS [])]]) := by
  refine fn_enter Tryz.func87 rfl 10 rfl fun w0 h0 => ?_
  refine SQ (RG ?_)
  refine RR [] .z (.i 4 (.slice none 0 0) .a) .a ?_
  refine RZ (NT (SQ (RG ?_)))
  refine RN [] (.d (.d (.d (.d (.d .a))))) 9 (fun g1 => (.slice (some ⟨g1, 0, none⟩) 1 1)) (.k .z) .a 96 [.string (mkS s), .int .i64 1, .int .i64 n, .string ⟨#[]⟩] fun g1 => ?_
  refine RR [] .z (.i 4 (.slice (some ⟨g1, 0, none⟩) 1 1) .z) .a ?_
  refine RZ (NT (RE ?_))
  refine NE [0] .a .z [] (.slice (some ⟨g1, 0, none⟩) 1 1) ?_
  exact ⟨g1, rfl, rfl⟩
def exFr (gi gn : Nat) : List FrV := [⟨[109, 97, 105, 110], 8, some ⟨gi, 0, none⟩, 1, [⟨[105], ⟨1, 0, []⟩⟩]⟩, ⟨[102], 2, some ⟨gn, 0, none⟩, 1, [⟨[110], ⟨1, 1, []⟩⟩]⟩]
def exV (gi gn gf gs : Nat) : ViV := ⟨3, 0, 0, some ⟨gf, 0, none⟩, 2, exFr gi gn, [97, 10], 0, some ⟨gs, 0, none⟩, 1, [⟨1, 3, [110, 32, 62, 32, 48], [], false⟩], 0, 1, []⟩
def exL : List Tx := [[97, 116, 32, 51, 32, 114, 117, 110, 110, 105, 110, 103], [62, 32, 102, 58, 50, 32, 110, 61, 49], [32, 32, 109, 97, 105, 110, 58, 56, 32, 105, 61, 48], [124, 32, 97], [35, 49, 32, 108, 105, 110, 101, 32, 51, 32, 105, 102, 32, 110, 32, 62, 32, 48], [111, 107, 32, 49]]
def exHp (gi gn gf gs : Nat) : Hp := [.blk gi 96 [.string (mkS [105]), .int .i64 1, .int .i64 0, .string (mkS [])], .blk gn 96 [.string (mkS [110]), .int .i64 1, .int .i64 1, .string (mkS [])],
  .blk gf 90 [.string ⟨#[109, 97, 105, 110]⟩, .int .i64 8, .slice (some ⟨gi, 0, none⟩) 1 1, .string ⟨#[102]⟩, .int .i64 2, .slice (some ⟨gn, 0, none⟩) 1 1], .blk gs 151 [.int .i64 1, .int .i64 3, .string ⟨#[110, 32, 62, 32, 48]⟩, .string ⟨#[]⟩, .bool false]]
def exA (gf gs : Nat) : Value := .agg #[.int .i64 3, .int .i64 0, .int .i64 0, .slice (some ⟨gf, 0, none⟩) 2 2, .string ⟨#[97, 10]⟩, .int .i64 0, .slice (some ⟨gs, 0, none⟩) 1 1, .int .i64 0, .int .i64 1, .string ⟨#[]⟩]
theorem example_spec : Does Tryz.prog 37 [] [] (fun v hp' => ∃ gi gn gf gs, v = exA gf gs ∧ hp' = exHp gi gn gf gs) := by
  refine fn_enter Tryz.func37 rfl 11 rfl fun w0 h0 => ?_
  refine SQ (RG ?_)
  refine RP [] .z 0 .a .a 76 [.int .i64 0, .int .i64 0, .int .i64 0, .slice none 0 0, .string ⟨#[]⟩, .int .i64 0, .slice none 0 0, .int .i64 0, .int .i64 0, .string ⟨#[]⟩] fun g1 => ?_
  refine RZ (NT (SQ (RG ?_)))
  refine RC (dst := some 1) [] .a (num_spec [105] 0) ?_
  rintro v _ ⟨gi, rfl, rfl⟩
  refine RR [] (.d .a) (.i 2 (.agg #[.string (ByteArray.mk #[109, 97, 105, 110]), .int .i64 8, .slice (some ⟨gi, 0, none⟩) 1 1]) (.d (.k .a))) .a ?_
  refine RC (dst := some 3) [] .a (num_spec [110] 1) ?_
  rintro v _ ⟨gn, rfl, rfl⟩
  refine RN [] (.d (.d .a)) 5 (fun g2 => (.slice (some ⟨g2, 0, none⟩) 2 2)) (.d (.d (.k .a))) .a 90 [.string (ByteArray.mk #[109, 97, 105, 110]), .int .i64 8, .slice (some ⟨gi, 0, none⟩) 1 1, .string (ByteArray.mk #[102]), .int .i64 2, .slice (some ⟨gn, 0, none⟩) 1 1] fun g2 => ?_
  refine RN [] (.d (.d (.d .a))) 8 (fun g3 => (.slice (some ⟨g3, 0, none⟩) 1 1)) (.i 6 (.agg #[.int .i64 3, .int .i64 0, .int .i64 0, .slice (some ⟨g2, 0, none⟩) 2 2, .string (ByteArray.mk #[97, 10])]) (.d (.k .a))) .a 151 [.int .i64 1, .int .i64 3, .string (ByteArray.mk #[110, 32, 62, 32, 48]), .string ⟨#[]⟩, .bool false] fun g3 => ?_
  refine RR [2, 2, 2, 2, 2, 2, 2, 2, 2, 2] .z (.d (.d (.k .a))) (.k (.k (.u (.i (.int .i64 3) (.d (.k (.k (.i (.slice (some ⟨g2, 0, none⟩) 2 2) (.i (.string (ByteArray.mk #[97, 10])) (.d (.d (.k (.i (.slice (some ⟨g3, 0, none⟩) 1 1) (.d (.k (.i (.int .i64 1) (.d (.k .a))))))))))))))) .a))) ?_
  refine RZ (NT (RE ?_))
  refine NE [1, 0, 1, 1] (.i (.blk gi 96 [.string (mkS [105]), .int .i64 1, .int .i64 0, .string (mkS [])]) (.k (.d (.d (.k .a))))) (.d (.d (.k .z))) [2, 2, 2, 2, 2, 2, 2, 2, 2, 2] (.agg #[.int .i64 3, .int .i64 0, .int .i64 0, .slice (some ⟨g2, 0, none⟩) 2 2, .string (ByteArray.mk #[97, 10]), .int .i64 0, .slice (some ⟨g3, 0, none⟩) 1 1, .int .i64 0, .int .i64 1, .string ⟨#[]⟩]) ?_
  exact ⟨gi, gn, g2, g3, rfl, rfl⟩
theorem ex_dec : ∀ n, n < 10 → Lib.decDigits n = [UInt8.ofNat (48 + n)] := fun n h => by rw [Lib.decDigits, dif_pos h]
theorem ex_itoa (n : Nat) (h : n < 10) : Lib.itoa (n : Int) = [UInt8.ofNat (48 + n)] := by
  unfold Lib.itoa
  rw [if_neg (by omega), Int.toNat_natCast, ex_dec n h]
theorem ex_view (gi gn gf gs : Nat) : viewB 0 (exV gi gn gf gs) = true := by rfl
theorem ex_show0 : showT [] ⟨1, 0, []⟩ = [48] := by
  have h := ex_itoa 0 (by decide)
  have h : Lib.itoa 0 = [48] := h
  simp [showT, cutT, txt, rightB, h]
theorem ex_show1 : showT [] ⟨1, 1, []⟩ = [49] := by
  have h := ex_itoa 1 (by decide)
  have h : Lib.itoa 1 = [49] := h
  simp [showT, cutT, txt, rightB, h]
theorem ex_lines (gi gn gf gs : Nat) : linesT [] (exV gi gn gf gs) = exL := by
  have h1 : Lib.itoa 1 = [49] := ex_itoa 1 (by decide)
  have h2 : Lib.itoa 2 = [50] := ex_itoa 2 (by decide)
  have h3 : Lib.itoa 3 = [51] := ex_itoa 3 (by decide)
  have h8 : Lib.itoa 8 = [56] := ex_itoa 8 (by decide)
  have f1 : framesT [] 0 (exFr gi gn) = [[62, 32, 102, 58, 50, 32, 110, 61, 49], [32, 32, 109, 97, 105, 110, 58, 56, 32, 105, 61, 48]] := by
    simp [framesT, exFr, List.range_succ, frameT, biT, markT, ex_show0, ex_show1, h2, h8, lineT, cut2, cleanT, cleanB]
  have f2 : stopT ⟨1, 3, [110, 32, 62, 32, 48], [], false⟩ = [35, 49, 32, 108, 105, 110, 101, 32, 51, 32, 105, 102, 32, 110, 32, 62, 32, 48] := by
    simp [stopT, stopL, h1, h3, lineT, cut2, cleanT, cleanB]
  have f3 : replyT 0 1 [] = [111, 107, 32, 49] := by
    simp [replyT, replyL, h1, lineT, cut2, cleanT, cleanB]
  have f4 : (tailT [97, 10]).map (fun s => lineT [[124, 32], s]) = [[124, 32, 97]] := by decide +kernel
  have f5 : lineT [[97, 116, 32], [51], statusT 0 0] = [97, 116, 32, 51, 32, 114, 117, 110, 110, 105, 110, 103] := by decide +kernel
  unfold linesT exV
  dsimp only
  rw [h3, f1, f3, f4, f5, List.map_cons, List.map_nil, f2]
  rfl
end Go.Proofs.YtgcfomhlgipllaaGreatDoor
namespace Go.Proofs.YtgcfomhlgipllaaGreatDoor
open Go Go.Sx
theorem exV_ok (gi gn gf gs : Nat) : (exV gi gn gf gs).ok := by
  have n8 : i64r 8 := ⟨by decide, by decide⟩
  have n2 : i64r 2 := ⟨by decide, by decide⟩
  have n0 : i64r 0 := ⟨by decide, by decide⟩
  have n1 : i64r 1 := ⟨by decide, by decide⟩
  have n3 : i64r 3 := ⟨by decide, by decide⟩
  have t : ∀ n m : Nat, n ≤ 16 → n ≤ 1048576 := fun n _ h => by omega
  refine ⟨n3, n0, n0, t 2 0 (by decide), fun f hf => ?_, t 2 0 (by decide), n0, t 1 0 (by decide), fun s hs => ?_, n0, n1, Nat.zero_le _⟩
  · have hf : f ∈ [_, _] := hf
    simp only [List.mem_cons, List.not_mem_nil, or_false] at hf
    rcases hf with rfl | rfl
    · refine ⟨t 4 0 (by decide), n8, t 1 0 (by decide), fun b hb => ?_⟩
      rw [List.mem_singleton.1 hb]
      exact ⟨t 1 0 (by decide), Nat.zero_le _, n0⟩
    · refine ⟨t 1 0 (by decide), n2, t 1 0 (by decide), fun b hb => ?_⟩
      rw [List.mem_singleton.1 hb]
      exact ⟨t 1 0 (by decide), Nat.zero_le _, n1⟩
  · rw [List.mem_singleton.1 hs]
    exact ⟨n1, n3, t 5 0 (by decide), Nat.zero_le _⟩
theorem ent_roz {Γ : Cx} {fr : Fr} {rest : Hp} : Ent Γ ⟨fr, rest⟩ ⟨fr, ro none ([] : List Value) :: rest⟩ := ent_ro (hp := []) (c' := ro none ([] : List Value)) (fun w h => ⟨fun u hu => (by cases hu), rfl⟩) (fun w h k hk => absurd rfl hk.2) (fun h => h)
theorem one_of {l : List Value} (h : l.all (fun v => v.oneCell') = true) : Sx.One l := fun u hu => List.all_eq_true.1 h u hu
theorem exLines (gi gn gf gs g : Nat) : Does Tryz.prog 32 [exA gf gs, .pointer (some ⟨g, 0, none⟩)] (exHp gi gn gf gs ++ [.blk g 198 [.bool true, .int .i64 (mostI 9), .int .i64 0, .slice none 0 0], gPow])
    (fun r hp' => ∃ a' c', r = .tuple #[.slice a' 6 c', .int .i64 0] ∧ hp' = [row 9 1 a' 6 c' (strsC exL)]) := by
  have hL := Lines_spec g (mostI 9) 0 none 0 [] (Nat.zero_le _) (fun o ho => (List.not_mem_nil ho).elim) (exV gi gn gf gs) (exV_ok gi gn gf gs)
  refine Does.ent2 hL (fun Γ => ?_) (fun r hp' h => ?_)
  · intro a w hS
    have h1 := ent_turn 0 (ro (some ⟨gi, 0, none⟩) (([⟨[105], ⟨1, 0, []⟩⟩] : List Bi).flatMap biC)) rfl (turn_rblk (one_of rfl)) rfl _ _ hS
    have h2 := ent_turn 1 (ro (some ⟨gn, 0, none⟩) (([⟨[110], ⟨1, 1, []⟩⟩] : List Bi).flatMap biC)) rfl (turn_rblk (one_of rfl)) rfl _ _ h1
    have h3 := ent_turn 2 (ro (some ⟨gf, 0, none⟩) ((exFr gi gn).flatMap frC)) rfl (turn_rblk (one_of rfl)) rfl _ _ h2
    have h4 := ent_turn 3 (ro (some ⟨gs, 0, none⟩) ((exV gi gn gf gs).stops.flatMap spC)) rfl (turn_rblk (one_of rfl)) rfl _ _ h3
    have h5 := ent_turn 4 (ro (some ⟨g, 0, none⟩) [.bool true, .int .i64 (mostI 9), .int .i64 0, .slice none 0 0]) rfl (turn_rblk (one_of rfl)) rfl _ _ h4
    have h6 := ent_bag (hp := [ro (some ⟨gi, 0, none⟩) (([⟨[105], ⟨1, 0, []⟩⟩] : List Bi).flatMap biC), ro (some ⟨gn, 0, none⟩) (([⟨[110], ⟨1, 1, []⟩⟩] : List Bi).flatMap biC)]) (rest := [ro (some ⟨gf, 0, none⟩) ((exFr gi gn).flatMap frC), ro (some ⟨gs, 0, none⟩) ((exV gi gn gf gs).stops.flatMap spC), ro (some ⟨g, 0, none⟩) [.bool true, .int .i64 (mostI 9), .int .i64 0, .slice none 0 0], gPow]) _ _ h5
    have h7 := ent_bag_nil _ _ (ent_roz _ _ h6)
    exact ent_hp [5, 1, 0, 3, 1, 0, 0] rfl _ _ h7
  · rw [show ([] : List Ob).length = 0 from rfl, show ([] : List Ob).map Ob.o = [] from rfl, ex_view, if_pos rfl, ex_lines] at h
    obtain ⟨a', c', rfl, rfl⟩ := h
    exact ⟨_, ⟨a', c', rfl, rfl⟩, fun Γ a w h => h, fun c hc => by rw [List.mem_singleton.1 hc]; trivial⟩
theorem exT_dec : decide (exL = exL) = true := decide_eq_true rfl
set_option maxHeartbeats 4000000 in
theorem lives16_spec : Does Tryz.prog 31 [] [gPow] (fun v hp' => v = .bool true ∧ hp' = []) := by
  have hE := fun gi gn gf gs g => exLines gi gn gf gs g
  unfold exHp exA at hE
  simp only [List.cons_append, List.nil_append] at hE
  have hEx := example_spec
  unfold exHp exA at hEx
  refine fn_enter Tryz.func31 rfl 24 rfl fun w0 h0 => ?_
  refine SQ (RG ?_)
  refine RR [] .z (.i 0 (.bool false) .a) .a ?_
  refine RZ (NT (SQ (RG ?_)))
  refine RC (dst := some 4) [] .a (hEx) ?_
  rintro v _ ⟨gi, gn, gf, gs, rfl, rfl⟩
  refine RC (dst := some 5) [] .a (New_spec 9) ?_
  rintro v _ ⟨g, rfl, rfl⟩
  have hE2 := hE gi gn gf gs g
  refine RCG (dst := some 6) (.d (.d (.d (.d (.d (.k .a)))))) (hE2) (GO (GV (GJ [1, 1, 1, 1, 0]) 0 view_gPow) [1, 1, 1, 1, 1, 0]) ?_
  rintro v _ ⟨a1, c1, rfl, rfl⟩
  refine RR [] .z (.i 2 (.int .i64 0) (.i 1 (.slice a1 6 c1) (.d (.d (.d (.k .a)))))) .a ?_
  refine RZ (NT (SQ (RG ?_)))
  refine RN [] (.d (.d .a)) 10 (fun g1 => (.slice (some ⟨g1, 0, none⟩) 6 6)) (.i 9 (.slice a1 6 c1) (.k (.d (.k .a)))) .a 9 [.string (ByteArray.mk #[97, 116, 32, 51, 32, 114, 117, 110, 110, 105, 110, 103]), .string (ByteArray.mk #[62, 32, 102, 58, 50, 32, 110, 61, 49]), .string (ByteArray.mk #[32, 32, 109, 97, 105, 110, 58, 56, 32, 105, 61, 48]), .string (ByteArray.mk #[124, 32, 97]), .string (ByteArray.mk #[35, 49, 32, 108, 105, 110, 101, 32, 51, 32, 105, 102, 32, 110, 32, 62, 32, 48]), .string (ByteArray.mk #[111, 107, 32, 49])] fun g1 => ?_
  refine wpr_ent (ent_turn 2 (ro (some ⟨g1, 0, none⟩) (strsC exL)) rfl (turn_rblk (strs_one exL)) rfl) ?_
  have hs := sameTexts_spec a1 c1 exL (some ⟨g1, 0, none⟩) 6 exL (by decide) (by decide)
  rw [show exL.length = 6 from rfl, exT_dec] at hs
  refine RCG (dst := some 11) .a (hs) (GV (GV (GI []) 2 view_ro) 0 view_row) ?_
  rintro v _ ⟨rfl, rfl⟩
  have hF1 := Fault_spec 1
  rw [show faultT 1 = [100, 105, 118, 105, 115, 105, 111, 110] from rfl] at hF1
  have hF11 := Fault_spec 11
  rw [show faultT 11 = [] from rfl] at hF11
  refine RR [] (.d (.d (.d (.d (.d .a))))) (.i 16 (.bool true) (.d (.d (.d (.d (.k .a)))))) .a ?_
  refine RC (dst := some 17) [] .a (hF1) ?_
  rintro v _ ⟨rfl, rfl⟩
  refine RR [] (.d (.d (.d .a))) (.i 20 (.bool true) (.d (.d (.k .a)))) .a ?_
  refine RC (dst := some 21) [] .a (hF11) ?_
  rintro v _ ⟨rfl, rfl⟩
  refine RR [] .z (.i 0 (.bool true) .z) .a ?_
  refine RZ (NT (RE ?_))
  refine NE [] .z .a [] (.bool true) ?_
  exact ⟨rfl, rfl⟩
theorem ShowFaults_spec (n : Int) : Does Tryz.prog 9 [.int .i64 n] [gPow] (fun v hp' => v = .bool true ∧ hp' = []) := by
  have h1 := Fault_spec n
  have h2 := rFault_spec n
  obtain ⟨F, hF⟩ : ∃ F, F = faultT n := ⟨_, rfl⟩
  rw [← hF] at h1 h2
  refine fn_enter Tryz.func9 rfl 11 rfl fun w0 h0 => ?_
  refine SQ (RG ?_)
  refine RR [] .z (.i 2 (.bool false) .a) .a ?_
  refine RZ (NT (SQ (RG ?_)))
  refine RR [] (.d .a) (.i 3 (.int .i64 n) .a) .a ?_
  refine RC (dst := some 4) [] .a (h1) ?_
  rintro v _ ⟨rfl, rfl⟩
  refine RR [] (.d .a) (.i 5 (.int .i64 n) (.k (.d (.k .z)))) .a ?_
  refine RC (dst := some 6) [] .a (h2) ?_
  rintro v _ ⟨rfl, rfl⟩
  refine RR [] (.d (.d .a)) (.i 8 (.bool (decide (F = F))) (.d (.d (.d (.k .a))))) .a ?_
  refine SR 8 (decide (F = F)) true (by simp) ?_
  refine RCG (dst := some 9) .a (lives16_spec) (GV (GI []) 0 view_gPow) ?_
  rintro v _ ⟨rfl, rfl⟩
  refine RR [] .z (.i 2 (.bool true) .z) .a ?_
  refine RZ (NT (RE ?_))
  refine NE [] .z .a [] (.bool true) ?_
  exact ⟨rfl, rfl⟩
end Go.Proofs.YtgcfomhlgipllaaGreatDoor
namespace Go.Proofs.YtgcfomhlgipllaaGreatDoor
open Go Go.Sx
/-! What the row's list lays: the powers of ten. A number that comes in. -/
abbrev laidL : List (String × DataW Unit) := [("math/bits.deBruijn32tab", Rows.laid_math_bits_deBruijn32tab), ("math/bits.deBruijn64tab", Rows.laid_math_bits_deBruijn64tab), ("internal/strconv.uint64pow10", Rows.laid_internal_strconv_uint64pow10), ("unicode/utf8.acceptRanges", Rows.laid_unicode_utf8_acceptRanges), ("hindcast/lex.words", Rows.laid_hindcast_lex_words), ("hindcast/lex.signs", Rows.laid_hindcast_lex_signs), ("unicode/utf8.first", Rows.laid_unicode_utf8_first)]
theorem pow_in {W : World} (h : laidMet Tryz.prog laidL W) : gPow.holds W := by
  have h2 := h.tail.tail
  exact Lib.tabIs_of_head (g := 3) (t := 289) (e := 178) (n := 20) (by kernel_rfl) (by kernel_rfl) (by kernel_rfl) (by kernel_rfl) (by kernel_rfl) (by kernel_rfl) h2
theorem ShowFaults_in (x0 : Int) : Does Tryz.prog 9 [.int .i64 x0] [deep (intS .i64) x0, gPow] (fun v hp' => v = .bool true ∧ hp' = []) := fun w hw => by
  have hg : HS [gPow] w := ⟨fun c hc => hw.holds c (by rw [List.mem_singleton.1 hc]; simp), List.pairwise_singleton _ _⟩
  refine (ShowFaults_spec x0 w hg).mono ?_
  rintro e w' ⟨v, hp', ⟨rfl, rfl⟩, rfl, h1, h2, h3, h4⟩
  refine ⟨_, _, ⟨rfl, rfl⟩, rfl, h1, ⟨h2.os, h2.tape, h2.output, h2.size, fun k hk _ => h2.block k hk ?_⟩, (fun c hc => by cases hc), h4⟩
  rintro ⟨c, hc, hr, _⟩
  rw [List.mem_singleton.1 hc] at hr
  exact hr
end Go.Proofs.YtgcfomhlgipllaaGreatDoor
namespace Go.Proofs.YtgcfomhlgipllaaGreatDoor
open Go Go.Sx
theorem ShowN (k n : Int) (s : List UInt8) : Does Tryz.prog 74 [.pointer none, .agg #[.int .i64 k, .int .i64 n, .string (mkS s)]] [] (fun u hp' => u = .string (mkS []) ∧ hp' = []) := by
  refine fn_enter Tryz.func74 rfl 37 rfl fun w0 h0 => ?_
  refine SQ (RG ?_)
  refine RP [] (.d .a) 3 (.k .z) .a 94 [.int .i64 k, .int .i64 n, .string (mkS s)] fun g1 => ?_
  refine RR [] .z (.i 4 (.string ⟨#[]⟩) .a) .a ?_
  refine RZ (NT (SQ (SQ ?_)))
  refine wpc_draw (by kernel_rfl) [] (sub_of [] (by kernel_rfl)) 13 (by kernel_rfl) ?_
  refine TK 12 [(0, [])] (.i 7 (.pointer none) .a) (#[true, false, false, false, false, false, false, false, false, false, false, false, false]) ?_
  refine AC (dst := some 8) 11 1 .a (isNil_spec) (GI []) [] ?_
  rintro v _ ⟨rfl, rfl⟩
  refine TK 0 [(2, []), (3, []), (4, []), (5, []), (6, []), (7, []), (8, []), (9, []), (10, []), (11, []), (12, [])] (.i 19 (.bool true) (.d (.d (.k .a)))) (#[true, true, true, true, true, true, true, true, true, true, true, true, true]) ?_
  refine wpa_done 0 (by kernel_rfl) ?_
  refine NT (CT (SQ (RG ?_)))
  refine RR [] .z (.d (.k .a)) .a ?_
  refine RZ (NT (RE (TR ?_)))
  refine NE [] .z .a [] (.string ⟨#[]⟩) ?_
  exact ⟨rfl, rfl⟩
theorem LinesN (v : ViV) : Does Tryz.prog 32 [.agg (viC v).toArray, .pointer none] [] (fun r hp' => r = .tuple #[.slice none 0 0, .int .i64 1] ∧ hp' = []) := by
  refine fn_enter_m2 (fn := Tryz.f32) (by kernel_rfl) rfl 96 (by kernel_rfl) fun w0 h0 => ?_
  rw [show viC v = [.int .i64 v.pos, .int .i64 v.status, .int .i64 v.fault, .slice v.fa v.frames.length v.fc, .string (mkS v.out), .int .i64 v.sel, .slice v.sa v.stops.length v.sc, .int .i64 v.err, .int .i64 v.n, .string (mkS v.says)] from rfl]
  refine SQ (RG ?_)
  refine RP [] (.d .a) 2 (.d (.k .a)) .a 76 [.int .i64 v.pos, .int .i64 v.status, .int .i64 v.fault, .slice v.fa v.frames.length v.fc, .string (mkS v.out), .int .i64 v.sel, .slice v.sa v.stops.length v.sc, .int .i64 v.err, .int .i64 v.n, .string (mkS v.says)] fun g1 => ?_
  refine RP [] (.d .a) 3 (.k .z) .a 84 [.pointer none] fun g2 => ?_
  refine RP [] (.d .a) 4 .a .a 22 [.slice none 0 0] fun g3 => ?_
  refine RP [] .z 5 .a .a 30 [.int .i64 0] fun g4 => ?_
  refine RZ (NT (SQ (SQ (RG ?_))))
  refine RR [1] (.d (.d .a)) (.i 19 (.agg #[.int .i64 0, .int .i64 0, .string ⟨#[]⟩]) (.i 18 (.pointer none) .a)) .a ?_
  refine RC (dst := some 20) [] .a (ShowN 0 0 []) ?_
  rintro r _ ⟨rfl, rfl⟩
  refine RR [] .z (.i 21 (.bool true) (.d (.d (.d (.k .a))))) .a ?_
  refine RZ (NT (CT (SQ (RG ?_))))
  refine RR [2, 3] .z (.d (.k .a)) (.k (.k (.k (.u (.i (.int .i64 1) .z) .a)))) ?_
  refine RZ (NT (RE (TR ?_)))
  refine nx_end0 (hp' := []) [] [2, 3] (.tuple #[.slice none 0 0, .int .i64 1]) ?_
  exact ⟨rfl, rfl⟩
theorem BytesN (v : ViV) : Does Tryz.prog 33 [.agg (viC v).toArray, .pointer none] [] (fun r hp' => r = .tuple #[.slice none 0 0, .int .i64 1] ∧ hp' = []) := by
  have hL := LinesN v
  rw [show viC v = [.int .i64 v.pos, .int .i64 v.status, .int .i64 v.fault, .slice v.fa v.frames.length v.fc, .string (mkS v.out), .int .i64 v.sel, .slice v.sa v.stops.length v.sc, .int .i64 v.err, .int .i64 v.n, .string (mkS v.says)] from rfl] at hL ⊢
  refine fn_enter Tryz.func33 rfl 23 rfl fun w0 h0 => ?_
  refine SQ (RG ?_)
  refine RP [] (.d .a) 2 (.d (.k .a)) .a 76 [.int .i64 v.pos, .int .i64 v.status, .int .i64 v.fault, .slice v.fa v.frames.length v.fc, .string (mkS v.out), .int .i64 v.sel, .slice v.sa v.stops.length v.sc, .int .i64 v.err, .int .i64 v.n, .string (mkS v.says)] fun g1 => ?_
  refine RR [] .z (.i 5 (.int .i64 0) (.i 4 (.slice none 0 0) .a)) .a ?_
  refine RZ (NT (SQ (RG ?_)))
  refine RR [0, 0, 0, 0, 0, 0, 0, 0, 0, 0] (.d (.d .a)) (.i 10 (.pointer none) (.i 9 (.agg #[.int .i64 v.pos, .int .i64 v.status, .int .i64 v.fault, .slice v.fa v.frames.length v.fc, .string (mkS v.out), .int .i64 v.sel, .slice v.sa v.stops.length v.sc, .int .i64 v.err, .int .i64 v.n, .string (mkS v.says)]) (.k (.k .z)))) .a ?_
  refine RC (dst := some 11) [] .a (hL) ?_
  rintro r _ ⟨rfl, rfl⟩
  refine RR [] .z (.i 7 (.int .i64 1) (.i 6 (.slice none 0 0) (.d (.d (.d (.k .a)))))) .a ?_
  refine RZ (NT (SQ (SQ (RG ?_))))
  refine RR [] .z (.i 15 (.bool true) .a) .a ?_
  refine RZ (NT (CT (SQ (RG ?_))))
  refine RR [] .z (.i 5 (.int .i64 1) (.i 4 (.slice none 0 0) (.d (.d (.k .z))))) .a ?_
  refine RZ (NT (RE (TR ?_)))
  refine NE [] .z .a [] (.tuple #[.slice none 0 0, .int .i64 1]) ?_
  exact ⟨rfl, rfl⟩
theorem ShowNil_spec (v : ViV) : Does Tryz.prog 10 [.agg (viC v).toArray] [gPow] (fun r hp' => r = .bool true ∧ hp' = []) := by
  have hL := LinesN v
  have hB := BytesN v
  rw [show viC v = [.int .i64 v.pos, .int .i64 v.status, .int .i64 v.fault, .slice v.fa v.frames.length v.fc, .string (mkS v.out), .int .i64 v.sel, .slice v.sa v.stops.length v.sc, .int .i64 v.err, .int .i64 v.n, .string (mkS v.says)] from rfl] at hL hB ⊢
  refine fn_enter Tryz.func10 rfl 36 rfl fun w0 h0 => ?_
  refine SQ (RG ?_)
  refine RP [] (.d .a) 1 .z .a 76 [.int .i64 v.pos, .int .i64 v.status, .int .i64 v.fault, .slice v.fa v.frames.length v.fc, .string (mkS v.out), .int .i64 v.sel, .slice v.sa v.stops.length v.sc, .int .i64 v.err, .int .i64 v.n, .string (mkS v.says)] fun g1 => ?_
  refine RR [] .z (.i 2 (.bool false) .a) .a ?_
  refine RZ (NT (SQ (RG ?_)))
  refine RR [1, 1, 1, 1, 1, 1, 1, 1, 1, 1] (.d .a) (.i 8 (.agg #[.int .i64 v.pos, .int .i64 v.status, .int .i64 v.fault, .slice v.fa v.frames.length v.fc, .string (mkS v.out), .int .i64 v.sel, .slice v.sa v.stops.length v.sc, .int .i64 v.err, .int .i64 v.n, .string (mkS v.says)]) .a) .a ?_
  refine RC (dst := some 9) [] .a (hL) ?_
  rintro r _ ⟨rfl, rfl⟩
  refine RR [] .z (.i 4 (.int .i64 1) (.i 3 (.slice none 0 0) (.d (.d (.k .a))))) .a ?_
  refine RZ (NT (SQ (RG ?_)))
  refine RR [1, 1, 1, 1, 1, 1, 1, 1, 1, 1] (.d .a) (.i 13 (.agg #[.int .i64 v.pos, .int .i64 v.status, .int .i64 v.fault, .slice v.fa v.frames.length v.fc, .string (mkS v.out), .int .i64 v.sel, .slice v.sa v.stops.length v.sc, .int .i64 v.err, .int .i64 v.n, .string (mkS v.says)]) (.k (.k (.k .z)))) .a ?_
  refine RC (dst := some 14) [] .a (hB) ?_
  rintro r _ ⟨rfl, rfl⟩
  refine RR [] .z (.i 6 (.int .i64 1) (.i 5 (.slice none 0 0) (.d (.d (.k .a))))) .a ?_
  refine RZ (NT (SQ (RG ?_)))
  refine RR [] (.d (.d (.d (.d (.d (.d (.d (.d (.d (.d (.d (.d (.d (.d (.d (.d (.d .a))))))))))))))))) (.i 33 (.bool true) (.d (.d (.d (.d (.k .a)))))) .a ?_
  refine RCG (dst := some 34) .a (lives16_spec) (GV (GI []) 0 view_gPow) ?_
  rintro r _ ⟨rfl, rfl⟩
  refine RR [] .z (.i 2 (.bool true) .z) .a ?_
  refine RZ (NT (RE ?_))
  refine NE [] .z .a [] (.bool true) ?_
  exact ⟨rfl, rfl⟩
end Go.Proofs.YtgcfomhlgipllaaGreatDoor
namespace Go.Proofs.YtgcfomhlgipllaaGreatDoor
open Go Go.Sx
/-! Views that come in. -/
abbrev V3 := Int × Int × List UInt8
def valS : Shape V3 := upS (pairS (intS .i64) (pairS (intS .i64) strS))
theorem opens_val : Opens Tryz.prog 94 3 valS :=
  opens_struct Tryz.underlying94 (by kernel_rfl) (opensFs_cons (off := 0) (k := 1) (m := 2) (opens_int Tryz.underlying92 (by kernel_rfl)) rfl (by kernel_rfl) (opensFs_cons (off := 1) (k := 1) (m := 1) (opens_int Tryz.underlying3 (by kernel_rfl)) rfl (by kernel_rfl)
    (opensFs_one (opens_str Tryz.underlying9 (by kernel_rfl)) rfl)))
def toV (x : V3) : V := ⟨x.1, x.2.1, x.2.2⟩
abbrev Bi4 := List UInt8 × V3
def biS : Shape Bi4 := upS (pairS strS valS)
theorem opens_bi : Opens Tryz.prog 96 4 biS :=
  opens_struct Tryz.underlying96 (by kernel_rfl) (opensFs_cons (off := 0) (k := 1) (m := 3) (opens_str Tryz.underlying9 (by kernel_rfl)) rfl (by kernel_rfl) (opensFs_one opens_val rfl))
abbrev Fr3 := List UInt8 × Int × Sl Bi4
def frS : Shape Fr3 := upS (pairS strS (pairS (intS .i64) (sliceS biS)))
theorem opens_fr : Opens Tryz.prog 90 3 frS :=
  opens_struct Tryz.underlying90 (by kernel_rfl) (opensFs_cons (off := 0) (k := 1) (m := 2) (opens_str Tryz.underlying9 (by kernel_rfl)) rfl (by kernel_rfl) (opensFs_cons (off := 1) (k := 1) (m := 1) (opens_int Tryz.underlying3 (by kernel_rfl)) rfl (by kernel_rfl)
    (opensFs_one (opens_slice Tryz.underlying88 (by kernel_rfl) opens_bi) rfl)))
abbrev Lk5 := Int × Int × Int × Sl Fr3 × List UInt8
def lkS : Shape Lk5 := upS (pairS (intS .i64) (pairS (intS .i64) (pairS (intS .i64) (pairS (sliceS frS) strS))))
theorem opens_lk : Opens Tryz.prog 71 5 lkS :=
  opens_struct Tryz.underlying71 (by kernel_rfl) (opensFs_cons (off := 0) (k := 1) (m := 4) (opens_int Tryz.underlying3 (by kernel_rfl)) rfl (by kernel_rfl) (opensFs_cons (off := 1) (k := 1) (m := 3) (opens_int Tryz.underlying68 (by kernel_rfl)) rfl (by kernel_rfl)
    (opensFs_cons (off := 2) (k := 1) (m := 2) (opens_int Tryz.underlying66 (by kernel_rfl)) rfl (by kernel_rfl) (opensFs_cons (off := 3) (k := 1) (m := 1) (opens_slice Tryz.underlying69 (by kernel_rfl) opens_fr) rfl (by kernel_rfl)
    (opensFs_one (opens_str Tryz.underlying9 (by kernel_rfl)) rfl)))))
abbrev Sp5 := Int × Int × List UInt8 × List UInt8 × Bool
def spS : Shape Sp5 := upS (pairS (intS .i64) (pairS (intS .i64) (pairS strS (pairS strS boolS))))
theorem opens_sp : Opens Tryz.prog 151 5 spS :=
  opens_struct Tryz.underlying151 (by kernel_rfl) (opensFs_cons (off := 0) (k := 1) (m := 4) (opens_int Tryz.underlying3 (by kernel_rfl)) rfl (by kernel_rfl) (opensFs_cons (off := 1) (k := 1) (m := 3) (opens_int Tryz.underlying3 (by kernel_rfl)) rfl (by kernel_rfl)
    (opensFs_cons (off := 2) (k := 1) (m := 2) (opens_str Tryz.underlying9 (by kernel_rfl)) rfl (by kernel_rfl) (opensFs_cons (off := 3) (k := 1) (m := 1) (opens_str Tryz.underlying9 (by kernel_rfl)) rfl (by kernel_rfl)
    (opensFs_one (opens_bool Tryz.underlying4 (by kernel_rfl)) rfl)))))
abbrev Rp3 := Int × Int × List UInt8
def rpS : Shape Rp3 := upS (pairS (intS .i64) (pairS (intS .i64) strS))
theorem opens_rp : Opens Tryz.prog 74 3 rpS :=
  opens_struct Tryz.underlying74 (by kernel_rfl) (opensFs_cons (off := 0) (k := 1) (m := 2) (opens_int Tryz.underlying30 (by kernel_rfl)) rfl (by kernel_rfl) (opensFs_cons (off := 1) (k := 1) (m := 1) (opens_int Tryz.underlying3 (by kernel_rfl)) rfl (by kernel_rfl)
    (opensFs_one (opens_str Tryz.underlying9 (by kernel_rfl)) rfl)))
abbrev Vi4 := Lk5 × Int × Sl Sp5 × Rp3
def viS : Shape Vi4 := upS (pairS lkS (pairS (intS .i64) (pairS (sliceS spS) rpS)))
theorem opens_vi : Opens Tryz.prog 76 10 viS :=
  opens_struct Tryz.underlying76 (by kernel_rfl) (opensFs_cons (off := 0) (k := 5) (m := 5) opens_lk rfl (by kernel_rfl) (opensFs_cons (off := 5) (k := 1) (m := 4) (opens_int Tryz.underlying3 (by kernel_rfl)) rfl (by kernel_rfl)
    (opensFs_cons (off := 6) (k := 1) (m := 3) (opens_slice Tryz.underlying72 (by kernel_rfl) opens_sp) rfl (by kernel_rfl) (opensFs_one opens_rp rfl))))
def toBi (x : Bi4) : Bi := ⟨x.1, toV x.2⟩
def toFr (x : Fr3) : FrV := ⟨x.1, x.2.1, x.2.2.1, x.2.2.2.1, x.2.2.2.2.map toBi⟩
def toSp (x : Sp5) : SpV := ⟨x.1, x.2.1, x.2.2.1, x.2.2.2.1, x.2.2.2.2⟩
def toVi (x : Vi4) : ViV := ⟨x.1.1, x.1.2.1, x.1.2.2.1, x.1.2.2.2.1.1, x.1.2.2.2.1.2.1, x.1.2.2.2.1.2.2.map toFr, x.1.2.2.2.2, x.2.1, x.2.2.1.1, x.2.2.1.2.1, x.2.2.1.2.2.map toSp, x.2.2.2.1, x.2.2.2.2.1, x.2.2.2.2.2⟩
theorem viS_C (x : Vi4) : viS.C x = viC (toVi x) := by
  show ([Value.int .i64 x.1.1] ++ ([Value.int .i64 x.1.2.1] ++ ([Value.int .i64 x.1.2.2.1] ++ ([Value.slice x.1.2.2.2.1.1 x.1.2.2.2.1.2.2.length x.1.2.2.2.1.2.1] ++ [Value.string (mkS x.1.2.2.2.2)])))) ++ ([Value.int .i64 x.2.1] ++ ([Value.slice x.2.2.1.1 x.2.2.1.2.2.length x.2.2.1.2.1] ++ ([Value.int .i64 x.2.2.2.1] ++ ([Value.int .i64 x.2.2.2.2.1] ++ [Value.string (mkS x.2.2.2.2.2)])))) = _
  simp [viC, toVi]
theorem ShowNil_in (x0 : Vi4) : Does Tryz.prog 10 [.agg (viS.C x0).toArray] [deep viS x0, gPow] (fun v hp' => v = .bool true ∧ hp' = []) := fun w hw => by
  have hg : HS [gPow] w := ⟨fun c hc => hw.holds c (by rw [List.mem_singleton.1 hc]; simp), List.pairwise_singleton _ _⟩
  rw [viS_C]
  refine (ShowNil_spec (toVi x0) w hg).mono ?_
  rintro e w' ⟨v, hp', ⟨rfl, rfl⟩, rfl, h1, h2, h3, h4⟩
  refine ⟨_, _, ⟨rfl, rfl⟩, rfl, h1, ⟨h2.os, h2.tape, h2.output, h2.size, fun k hk _ => h2.block k hk ?_⟩, (fun c hc => by cases hc), h4⟩
  rintro ⟨c, hc, hr, _⟩
  rw [List.mem_singleton.1 hc] at hr
  exact hr
end Go.Proofs.YtgcfomhlgipllaaGreatDoor
