import Derived.Shelf.Strconv.Itoa0
import Derived.Shelf.Strconv.Itoa1
import Derived.Shelf.LaysM
import Derived.Shelf.Strconv.Itoa2
import Derived.Shelf.Strconv.Itoa3
import Derived.Test.YtgcfomhlgipllaaGreatDoorCc3
set_option linter.unusedVariables false
set_option linter.unusedSimpArgs false
namespace Go.Proofs.YtgcfomhlgipllaaGreatDoor
open Go Go.Sx
theorem fits_jump {c : CodeP} {u : UnitP} {x : InP} (h : fitsB c u x = true) (hx : x.1 = 20 ∨ x.1 = 21) : 0 ≤ x.2 ∧ x.2 < u.ins.length := by
 unfold fitsB at h
 rw [if_neg (by omega), if_neg (by omega), if_neg (by omega), if_neg (by omega), if_pos hx] at h
 exact (uptoB_iff _ _).1 h
theorem fits_call {c : CodeP} {u : UnitP} {x : InP} (h : fitsB c u x = true) (hx : x.1 = 22) : 0 ≤ x.2 ∧ x.2 < c.units.length := by
 unfold fitsB at h
 rw [if_neg (by omega), if_neg (by omega), if_neg (by omega), if_neg (by omega), if_neg (by omega), if_pos hx] at h
 exact (uptoB_iff _ _).1 h
theorem fits_new {c : CodeP} {u : UnitP} {x : InP} (h : fitsB c u x = true) (hx : x.1 = 25) : 0 ≤ x.2 ∧ x.2 < c.shapes.length := by
 unfold fitsB at h
 rw [if_neg (by omega), if_neg (by omega), if_neg (by omega), if_neg (by omega), if_neg (by omega), if_neg (by omega), if_pos hx] at h
 exact (uptoB_iff _ _).1 h
theorem unitB_fits {c : CodeP} {u : UnitP} (h : unitB c u = true) : ∀ x ∈ u.ins, fitsB c u x = true := by
 unfold unitB at h
 simp only [Bool.and_eq_true] at h
 exact List.all_eq_true.1 h.2
theorem unitB_head {c : CodeP} {u : UnitP} (h : unitB c u = true) : 0 ≤ u.params ∧ u.params ≤ 8 ∧ u.params ≤ u.slots ∧ u.slots ≤ 32 ∧ 0 ≤ u.stack ∧ u.stack ≤ 256 ∧ 1 ≤ u.ins.length ∧ u.ins.length ≤ 4096 := by
 unfold unitB at h
 simp only [Bool.and_eq_true] at h
 exact (headU_iff u).1 h.1.1
theorem on_old' (r g : Nat) (a : Option Addr) (c : Nat) (l : List (Int × Int)) (q : List Int) (i h x : Int) (ho : lk l i = some x) :
  Does Tryz.prog 95 [.pointer (some ⟨r, 0, none⟩), .int .i64 i, .int .i64 h] [.blk r 173 [.map (some g), .slice a q.length c], mp kvI g (mI l), row 3 1 a q.length c (ints q)]
   (fun v hp' => v = .bool (decide (x = h)) ∧ hp' = [.blk r 173 [.map (some g), .slice a q.length c], mp kvI g (mI l), row 3 1 a q.length c (ints q)]) := on_old r g a c l q i h x ho
theorem on_new' (r g : Nat) (a : Option Addr) (c : Nat) (l : List (Int × Int)) (q : List Int) (i h : Int) (hn : lk l i = none) (hrl : q.length ≤ 1048576) :
  Does Tryz.prog 95 [.pointer (some ⟨r, 0, none⟩), .int .i64 i, .int .i64 h] [.blk r 173 [.map (some g), .slice a q.length c], mp kvI g (mI l), row 3 1 a q.length c (ints q)]
   (fun v hp' => ∃ a' c', v = .bool true ∧ hp' = [.blk r 173 [.map (some g), .slice a' (q ++ [i]).length c'], mp kvI g (mI (l ++ [(i, h)])), row 3 1 a' (q ++ [i]).length c' (ints (q ++ [i]))]) := on_new r g a c l q i h hn hrl
theorem unset_all (f : Nat → Bool) : ∀ n, unset f n ≤ n
 | 0 => Nat.le_refl _
 | n + 1 => by
  have := unset_all f n
  unfold unset
  split <;> omega
theorem mvs_take (c : CoV) (hfl : ∀ s ∈ c.shapes, s.fields.length ≤ 1048576) (hpu : ∀ y ∈ c.units, 0 ≤ y.params ∧ y.params ≤ 8) {u : UnitP} {x : InP} (h : fitsB c.p u x = true) : 0 ≤ (mvs c.p x).1 ∧ (mvs c.p x).1 ≤ 1048576 := by
 have hc : ∀ n : Int, n = 0 ∨ n = 1 ∨ n = 2 ∨ n = 3 → 0 ≤ n ∧ n ≤ 1048576 := fun n h => by omega
 have h1 : ∀ b : Bool, 0 ≤ oneI b ∧ oneI b ≤ 1 := fun b => by cases b <;> exact ⟨by decide, by decide⟩
 have h23 : x.1 = 23 → 0 ≤ x.2 ∧ x.2 ≤ 256 := fun e => by
  unfold fitsB at h
  rw [if_neg (by omega), if_neg (by omega), if_neg (by omega), if_neg (by omega), if_neg (by omega), if_neg (by omega), if_neg (by omega), if_pos e] at h
  have := of_decide_eq_true h
  have := h1 u.result
  omega
 have h24 : x.1 = 24 ∨ x.1 = 34 → 0 ≤ x.2 ∧ x.2 ≤ 256 := fun e => by
  unfold fitsB at h
  rw [if_neg (by omega), if_neg (by omega), if_neg (by omega), if_neg (by omega), if_neg (by omega), if_neg (by omega), if_neg (by omega), if_neg (by omega), if_pos e] at h
  simp only [Bool.and_eq_true, decide_eq_true_eq] at h
  omega
 unfold mvs
 split
 ·exact hc _ (.inl rfl)
 split
 ·exact hc _ (.inl rfl)
 split
 ·exact hc _ (.inr (.inl rfl))
 split
 ·exact hc _ (.inr (.inl rfl))
 split
 ·split
  ·rename_i y hy
   have hm := List.mem_of_getElem? hy
   obtain ⟨z, hz, rfl⟩ := List.mem_map.1 hm
   have := hpu z hz
   show 0 ≤ z.params ∧ z.params ≤ 1048576
   omega
  ·exact hc _ (.inl rfl)
 split
 ·rename_i e
  have : 0 ≤ x.2 ∧ x.2 ≤ 256 := e.elim h23 (fun e => h24 (.inr e))
  show 0 ≤ x.2 ∧ x.2 ≤ 1048576
  omega
 split
 ·rename_i e
  have := h24 (.inl e)
  show 0 ≤ x.2 ∧ x.2 ≤ 1048576
  omega
 split
 ·split
  ·rename_i y hy
   have hm := List.mem_of_getElem? hy
   obtain ⟨z, hz, rfl⟩ := List.mem_map.1 hm
   have := hfl z hz
   show 0 ≤ (z.fields.length : Int) ∧ (z.fields.length : Int) ≤ 1048576
   omega
  ·exact hc _ (.inl rfl)
 split
 ·exact hc _ (.inr (.inr (.inr rfl)))
 split
 ·exact hc _ (.inr (.inr (.inl rfl)))
 ·exact hc _ (.inr (.inr (.inl rfl)))
set_option maxHeartbeats 8000000 in
theorem heights_spec (c : CoV) (hul : c.units.length ≤ 1048576) (hsl : c.shapes.length ≤ 1048576) (hfl : ∀ s ∈ c.shapes, s.fields.length ≤ 1048576) (hpu : ∀ y ∈ c.units, 0 ≤ y.params ∧ y.params ≤ 8) (u : UnV) (hU : unitB c.p u.p = true) :
  Does Tryz.prog 41 [.agg (coC c).toArray, .agg (unC u).toArray] [ro c.ua (c.units.flatMap unC), ro c.ha (c.shapes.flatMap shC), ro u.ia (u.ins.flatMap insC)]
   (fun v hp' => if fineB (gr c.p u.p) = true then ∃ g l, v = .tuple #[.map (some g), .bool true] ∧ hp' = [mp kvI g (mI l)] ∧ InvX (gr c.p u.p) l [] none1 else v = .tuple #[.map none, .bool false] ∧ hp' = []) := by
 obtain ⟨-, -, -, -, hst0, hst1, hn1, hn2⟩ := unitB_head hU
 have hfits := unitB_fits hU
 have hn1 : 1 ≤ u.ins.length := hn1
 have hn2 : u.ins.length ≤ 4096 := hn2
 rw [show coC c = [.slice c.sa c.strs.length c.sc, .slice c.ha c.shapes.length c.hc, .slice c.ua c.units.length c.uc, .int .i64 c.main] from rfl,
  show unC u = [.string (mkS u.name), .int .i64 u.params, .int .i64 u.slots, .int .i64 u.stack, .bool u.result, .slice u.ia u.ins.length u.ic, .slice u.va u.vars.length u.vc] from rfl]
 refine fn_enter Tryz.func41 rfl 111 rfl fun w0 h0 => ?_
 refine SQ (RG ?_)
 refine RP [] (.d .a) 2 (.d (.k .a)) .a 26 [.slice c.sa c.strs.length c.sc, .slice c.ha c.shapes.length c.hc, .slice c.ua c.units.length c.uc, .int .i64 c.main] fun g1 => ?_
 refine RP [] (.d .a) 3 (.k .z) .a 59 [.string (mkS u.name), .int .i64 u.params, .int .i64 u.slots, .int .i64 u.stack, .bool u.result, .slice u.ia u.ins.length u.ic, .slice u.va u.vars.length u.vc] fun g2 => ?_
 refine RR [] .z (.i 5 (.bool false) (.i 4 (Value.map none) .a)) .a ?_
 refine RZ (NT (SQ (RG ?_)))
 refine wpr_step (step_mkm kvI (dst := some 13) (by kernel_rfl)) ?_
 rintro _ ⟨g, rfl⟩
 refine RP [] (.d (.d .a)) 15 (.d (.k .a)) .a 173 [Value.map (some g), .slice none 0 0] fun g3 => ?_
 refine RR [] .z (.i 6 (.pointer (some ⟨g3, 0, none⟩)) (.d (.k .a))) .a ?_
 refine RZ (NT (SQ (RG ?_)))
 refine RR [] (.d .a) (.i 16 (.pointer (some ⟨g3, 0, none⟩)) .a) .a ?_
 refine wpr_ent (ent_nil 3 1) ?_
 have h0 := on_new g3 g none 0 [] [] 0 0 rfl (by simp)
 unfold rchB at h0
 simp only [List.nil_append, List.length_nil, List.length_singleton] at h0
 refine RC (dst := some 17) [7, 6, 0] (.d (.k (.k (.k (.k (.k .z)))))) (h0) ?_
 rintro v _ ⟨a0, c0, rfl, rfl⟩
 refine RZ (NT (SQ (BK ?_)))
 refine wpc_loop (X := {x : List (Int × Int) × List Int × Option Addr × Nat // InvX (gr c.p u.p) x.1 x.2.1 none1 ∧ x.2.1.length + unset (told x.1) u.ins.length ≤ u.ins.length ∧ ∀ i h, lk x.1 i = some h → 0 ≤ h ∧ h ≤ 256}) (fun x => St.mk [(6, .pointer (some ⟨g3, 0, none⟩)), (5, .bool false), (4, .map none), (3, .pointer (some ⟨g2, 0, none⟩)), (2, .pointer (some ⟨g1, 0, none⟩))]
  [.blk g3 173 [.map (some g), .slice x.1.2.2.1 x.1.2.1.length x.1.2.2.2], mp kvI g (mI x.1.1), row 3 1 x.1.2.2.1 x.1.2.1.length x.1.2.2.2 (ints x.1.2.1), ro c.ua (c.units.flatMap unC), ro c.ha (c.shapes.flatMap shC), ro u.ia (u.ins.flatMap insC),
   .blk g1 26 [.slice c.sa c.strs.length c.sc, .slice c.ha c.shapes.length c.hc, .slice c.ua c.units.length c.uc, .int .i64 c.main],
   .blk g2 59 [.string (mkS u.name), .int .i64 u.params, .int .i64 u.slots, .int .i64 u.stack, .bool u.result, .slice u.ia u.ins.length u.ic, .slice u.va u.vars.length u.vc]])
  (fun x => 2 * unset (told x.1.1) u.ins.length + x.1.2.1.length) ⟨([(0, 0)], [0], a0, c0), inv_zero (show (0 : Int) < (u.ins.length : Int) by omega), ?_, fun i h e => by (unfold lk at e; split at e; (cases e; exact ⟨by decide, by decide⟩); cases e)⟩ (ent_fr (by kernel_rfl)) ?_
 ·have := told_push [] 0 0 rfl u.ins.length (Int.le_refl _) (by omega)
  have h2 : unset (told []) u.ins.length ≤ u.ins.length := unset_all _ _
  rw [List.nil_append] at this
  show 1 + unset (told [(0, 0)]) u.ins.length ≤ u.ins.length
  omega
 rintro ⟨⟨l, q, ad, c1⟩, hinv, hcnt, hbd⟩
 dsimp only at hinv hcnt hbd ⊢
 rcases List.eq_nil_or_concat q with rfl | ⟨q', i, rfl⟩
 ·have hgood := inv_good hinv
  rw [fineB_t ⟨_, hgood⟩]
  refine SQ (SQ (RG ?_))
  refine RR [0] .z (.i 23 (.bool false) .a) (.u (.k (.i (.slice ad 0 c1) .z)) (.k (.i (row 3 1 ad 0 c1 (ints [])) (.d (.k .a))))) ?_
  refine RZ (NT (CF (EX (TE (TE (BH (NT (SQ (RG ?_)))))))))
  refine RR [0] .z (.i 5 (.bool true) (.i 4 (Value.map (some g)) .z)) .a ?_
  refine RZ (NT (RE ?_))
  refine NE [1] (.d (.k .z)) (.k (.d (.k .a))) [] (.tuple #[Value.map (some g), .bool true]) ?_
  rw [if_pos rfl]
  exact ⟨g, l, rfl, rfl, hinv⟩
 ·have hinvX := inv_pop (by rw [List.concat_eq_append] at hinv; exact hinv)
  rw [List.concat_eq_append] at hcnt ⊢
  have hlen : (q' ++ [i]).length = q'.length + 1 := by simp
  have hnx := next_spec g3 g ad c1 q' i (by omega)
  unfold rchB at hnx
  refine SQ (SQ (RG ?_))
  refine RR [0] .z (.i 23 (.bool (decide ((↑(q' ++ [i]).length : Int) > (0 : Int)))) .a) .a ?_
  refine RZ (NT ?_)
  refine SC 23 (decide ((↑(q' ++ [i]).length : Int) > (0 : Int))) true (by simp) ?_
  refine CT (SK (NT (BK (SQ (RG ?_)))))
  refine RR [] (.d .a) (.i 24 (.pointer (some ⟨g3, 0, none⟩)) (.d (.d (.k .a)))) .a ?_
  refine RC (dst := some 25) [0, 1] (.d (.k (.d (.k .a)))) (hnx) ?_
  rintro v _ ⟨rfl, rfl⟩
  refine RR [] .z (.i 7 (.int .i64 i) (.d (.d (.k .a)))) .a ?_
  refine RZ (NT (SQ ?_))
  obtain ⟨h, hh⟩ := hinv.inr i (by rw [List.concat_eq_append]; exact List.mem_append.2 (.inr (List.mem_singleton.2 rfl)))
  obtain ⟨hi0, hi1⟩ := hinv.rng i h hh
  obtain ⟨k, rfl⟩ := Int.eq_ofNat_of_zero_le hi0
  have hi1 : (k : Int) < (u.ins.length : Int) := hi1
  have hk : k < u.ins.length := by omega
  have hR := hinv.reach k h hh
  obtain ⟨hb0, hb1⟩ := hbd k h hh
  have hxi : insAt u.p (k : Int) = u.ins[k] := insAt_eq hk
  have hf := hfits u.ins[k] (List.getElem_mem hk)
  have htk := mvs_take c hfl hpu hf
  have hpt := mvs_put c.p u.ins[k]
  obtain ⟨⟨op, aa⟩, hxe⟩ : ∃ x, x = u.ins[k] := ⟨_, rfl⟩
  have hat : ((u.ins.flatMap insC).drop (k * 2)).take 2 = insC (op, aa) := by rw [ins_at hk, hxe]
  rw [← hxe] at hf hxi htk hpt
  have hm : mlook (k : Int) (mI l) = some (.int .i64 h) := by rw [mlook_mI, hh]; rfl
  have hmv := moves_spec c hul hsl hfl op aa (fun e => by have := fits_call hf e; exact ⟨this.1, by have h2 : aa < ((c.units.map UnV.p).length : Int) := this.2; rw [List.length_map] at h2; exact h2⟩) (fun e => by have := fits_new hf e; exact ⟨this.1, by have h2 : aa < ((c.shapes.map ShV.p).length : Int) := this.2; rw [List.length_map] at h2; exact h2⟩)
  refine wpc_fact (fun w hw => ro_addr hw 5 rfl (by rw [ins_len]; omega)) ?_
  rintro ⟨g9, o9, hia⟩
  rw [hia]
  refine wpc_draw (by kernel_rfl) [.blk g3 173 [Value.map (some g), .slice ad q'.length c1], ro (some ⟨g9, o9, none⟩) (List.flatMap insC u.ins), .blk g2 59 [.string (mkS u.name), .int .i64 u.params, .int .i64 u.slots, .int .i64 u.stack, .bool u.result, .slice (some ⟨g9, o9, none⟩) u.ins.length u.ic, .slice u.va u.vars.length u.vc]] (sub_of [0, 5, 7] (by kernel_rfl)) 14 (by kernel_rfl) ?_
  refine wpa_take true [(0, []), (1, [2]), (2, []), (3, []), (5, []), (6, []), (7, []), (8, [0]), (9, [])] ([(35, .int .i64 (↑k : Int)), (34, Value.map (some g)), (29, .pointer (some ⟨g9, o9 + k * 2, none⟩)), (7, .int .i64 (↑k : Int)), (6, .pointer (some ⟨g3, 0, none⟩)), (5, .bool false), (4, Value.map none), (3, .pointer (some ⟨g2, 0, none⟩)), (2, .pointer (some ⟨g1, 0, none⟩))]) (#[true, true, true, true, false, true, true, true, true, true, false, false, false, false]) [(0 : Int) ≤ (↑k : Int) ∧ (↑k : Int) < (↑u.ins.length : Int)] (n := 5) (by kernel_rfl) (by kernel_rfl) (by kernel_rfl) ⟨by omega, trivial⟩ ?_
  refine wpa_qld (i := 4) (n := 4) (by kernel_rfl) (by kernel_rfl) (by kernel_rfl) (t := 62) (a := ⟨g9, o9 + k * 2, none⟩) (dst := some 30) (by kernel_rfl) true 2 (by kernel_rfl) (by simp) (insC (op, aa)) rfl (fun w h => ld_roL h 1 rfl (k * 2) hat) ?_
  refine wpa_joinx (X := Nat) (fun y => St.mk [(9, .int .i64 h), (8, .pointer (some ⟨y, 0, none⟩)), (7, .int .i64 (k : Int)), (6, .pointer (some ⟨g3, 0, none⟩)), (5, .bool false), (4, .map none), (3, .pointer (some ⟨g2, 0, none⟩)), (2, .pointer (some ⟨g1, 0, none⟩))]
   [.blk g3 173 [.map (some g), .slice ad q'.length c1], row 3 1 ad q'.length c1 (ints q'), mp kvI g (mI l), ro c.ua (c.units.flatMap unC), ro c.ha (c.shapes.flatMap shC), ro (some ⟨g9, o9, none⟩) (u.ins.flatMap insC),
    .blk g1 26 [.slice c.sa c.strs.length c.sc, .slice c.ha c.shapes.length c.hc, .slice c.ua c.units.length c.uc, .int .i64 c.main],
    .blk g2 59 [.string (mkS u.name), .int .i64 u.params, .int .i64 u.slots, .int .i64 u.stack, .bool u.result, .slice (some ⟨g9, o9, none⟩) u.ins.length u.ic, .slice u.va u.vars.length u.vc],
    .blk y 62 [.int .i64 op, .int .i64 aa]]) (fun Q1 hQ1 hk => ?_) ?_
  ·refine wpa_two (i := 10) (j := 11) (n := 3) (by kernel_rfl) ?_ ?_
   ·refine wpi_eq (i := 10) (step_look (t := 102) (g := g) (k := 3) (z := (.int .i64 0)) (kw := (.int .i64 (↑k : Int))) (ok := false) (dst := some 36) (by kernel_rfl) (by kernel_rfl) (keysI (by kernel_rfl)) (k : Int) rfl 2 (l := (mI l)) (by kernel_rfl)) (sub_of [0, 5, 7] (by kernel_rfl)) ?_
    rw [hm]
    refine wpa_new (n := 2) true 11 [] (fun g4 => [(8, .pointer (some ⟨g4, 0, none⟩)), (36, .int .i64 h), (30, .agg #[.int .i64 op, .int .i64 aa]), (7, .int .i64 (↑k : Int)), (6, .pointer (some ⟨g3, 0, none⟩)), (5, .bool false), (4, Value.map none), (3, .pointer (some ⟨g2, 0, none⟩)), (2, .pointer (some ⟨g1, 0, none⟩))]) (fun g4 => [.blk g3 173 [Value.map (some g), .slice ad q'.length c1], row 3 1 ad q'.length c1 (ints q'), mp kvI g (mI l), ro c.ua (List.flatMap unC c.units), ro c.ha (List.flatMap shC c.shapes), ro (some ⟨g9, o9, none⟩) (List.flatMap insC u.ins), .blk g1 26 [.slice c.sa c.strs.length c.sc, .slice c.ha c.shapes.length c.hc, .slice c.ua c.units.length c.uc, .int .i64 c.main], .blk g2 59 [.string (mkS u.name), .int .i64 u.params, .int .i64 u.slots, .int .i64 u.stack, .bool u.result, .slice (some ⟨g9, o9, none⟩) u.ins.length u.ic, .slice u.va u.vars.length u.vc], .blk g4 62 [.int .i64 0, .int .i64 0]]) (fun g4 => []) (by kernel_rfl) (fun g4 => by kernel_rfl) (fun g4 => by kernel_rfl) (fun g4 => trivial) (fun g4 => sub_of [0, 5, 7] (by kernel_rfl)) fun g4 => ?_
    refine AO 1 12 [8, 8] (.k (.k (.d (.k .a)))) (.k (.k (.k (.k (.k (.k (.k (.k (.u (.i (.int .i64 op) (.i (.int .i64 aa) .z)) .a))))))))) [0, 5, 7] ?_
    refine TK 0 [(13, [])] (.i 9 (.int .i64 h) (.k (.d (.k .a)))) (#[true, true, true, true, true, true, true, true, true, true, true, true, true, true]) ?_
    refine wpa_done 0 (by kernel_rfl) ?_
    exact nx_ent (ent_hp [0, 0, 0, 0, 0, 0, 0, 0, 0] rfl) (nx_ent (ent_fr (by kernel_rfl)) (hk g4))
   ·refine wpi_new (n := 3) true 11 [] (fun g4 => [(8, .pointer (some ⟨g4, 0, none⟩)), (30, .agg #[.int .i64 op, .int .i64 aa]), (35, .int .i64 (↑k : Int)), (34, Value.map (some g)), (7, .int .i64 (↑k : Int)), (6, .pointer (some ⟨g3, 0, none⟩)), (5, .bool false), (4, Value.map none), (3, .pointer (some ⟨g2, 0, none⟩)), (2, .pointer (some ⟨g1, 0, none⟩))]) (fun g4 => [.blk g3 173 [Value.map (some g), .slice ad q'.length c1], row 3 1 ad q'.length c1 (ints q'), mp kvI g (mI l), ro c.ua (List.flatMap unC c.units), ro c.ha (List.flatMap shC c.shapes), ro (some ⟨g9, o9, none⟩) (List.flatMap insC u.ins), .blk g1 26 [.slice c.sa c.strs.length c.sc, .slice c.ha c.shapes.length c.hc, .slice c.ua c.units.length c.uc, .int .i64 c.main], .blk g2 59 [.string (mkS u.name), .int .i64 u.params, .int .i64 u.slots, .int .i64 u.stack, .bool u.result, .slice (some ⟨g9, o9, none⟩) u.ins.length u.ic, .slice u.va u.vars.length u.vc], .blk g4 62 [.int .i64 0, .int .i64 0]]) (fun g4 => []) (fun g4 => by kernel_rfl) (fun g4 => by kernel_rfl) (fun g4 => trivial) (fun g4 => sub_of [0, 5, 7] (by kernel_rfl)) fun g4 => ?_
    refine wpa_two (i := 10) (j := 12) (n := 2) (by kernel_rfl) ?_ ?_
    ·refine wpi_eq (i := 10) (step_look (t := 102) (g := g) (k := 3) (z := (.int .i64 0)) (kw := (.int .i64 (↑k : Int))) (ok := false) (dst := some 36) (by kernel_rfl) (by kernel_rfl) (keysI (by kernel_rfl)) (k : Int) rfl 2 (l := (mI l)) (by kernel_rfl)) (sub_of [0, 5, 7] (by kernel_rfl)) ?_
     rw [hm]
     refine AO 1 12 [8, 8] (.i 36 (.int .i64 h) (.d (.k (.d (.d (.d (.k .a))))))) (.k (.k (.k (.k (.k (.k (.k (.k (.u (.i (.int .i64 op) (.i (.int .i64 aa) .z)) .a))))))))) [0, 5, 7] ?_
     refine TK 0 [(13, [])] (.i 9 (.int .i64 h) (.d (.k .a))) (#[true, true, true, true, true, true, true, true, true, true, true, true, true, true]) ?_
     refine wpa_done 0 (by kernel_rfl) ?_
     exact nx_ent (ent_hp [0, 0, 0, 0, 0, 0, 0, 0, 0] rfl) (nx_ent (ent_fr (by kernel_rfl)) (hk g4))
    ·refine wpi_one (n := 2) true 12 [8, 8] [(8, .pointer (some ⟨g4, 0, none⟩)), (35, .int .i64 (↑k : Int)), (34, Value.map (some g)), (7, .int .i64 (↑k : Int)), (6, .pointer (some ⟨g3, 0, none⟩)), (5, .bool false), (4, Value.map none), (3, .pointer (some ⟨g2, 0, none⟩)), (2, .pointer (some ⟨g1, 0, none⟩))] [.blk g3 173 [Value.map (some g), .slice ad q'.length c1], row 3 1 ad q'.length c1 (ints q'), mp kvI g (mI l), ro c.ua (List.flatMap unC c.units), ro c.ha (List.flatMap shC c.shapes), ro (some ⟨g9, o9, none⟩) (List.flatMap insC u.ins), .blk g1 26 [.slice c.sa c.strs.length c.sc, .slice c.ha c.shapes.length c.hc, .slice c.ua c.units.length c.uc, .int .i64 c.main], .blk g2 59 [.string (mkS u.name), .int .i64 u.params, .int .i64 u.slots, .int .i64 u.stack, .bool u.result, .slice (some ⟨g9, o9, none⟩) u.ins.length u.ic, .slice u.va u.vars.length u.vc], .blk g4 62 [.int .i64 op, .int .i64 aa]] [] (by kernel_rfl) (by kernel_rfl) trivial (sub_of [0, 5, 7] (by kernel_rfl)) ?_
     refine wpa_eq (i := 10) (n := 1) (by kernel_rfl) (step_look (t := 102) (g := g) (k := 3) (z := (.int .i64 0)) (kw := (.int .i64 (↑k : Int))) (ok := false) (dst := some 36) (by kernel_rfl) (by kernel_rfl) (keysI (by kernel_rfl)) (k : Int) rfl 2 (l := (mI l)) (by kernel_rfl)) (sub_of [0, 5, 7] (by kernel_rfl)) ?_
     rw [hm]
     refine TK 0 [(13, [])] (.i 9 (.int .i64 h) (.d (.k (.d (.d (.k .a)))))) (#[true, true, true, true, true, true, true, true, true, true, true, true, true, true]) ?_
     refine wpa_done 0 (by kernel_rfl) ?_
     exact nx_ent (ent_hp [0, 0, 0, 0, 0, 0, 0, 0, 0] rfl) (nx_ent (ent_fr (by kernel_rfl)) (hk g4))
  ·rintro y
   dsimp only
   rw [← hia]
   refine NT (SQ (RG ?_))
   refine RR [6, 6, 6, 6, 8, 8] (.d (.d .a)) (.i 39 (.agg #[.int .i64 op, .int .i64 aa]) (.i 38 (.agg #[.slice c.sa c.strs.length c.sc, .slice c.ha c.shapes.length c.hc, .slice c.ua c.units.length c.uc, .int .i64 c.main]) .a)) .a ?_
   refine RCG (dst := some 40) .a (hmv) (GV (GV (GI []) 4 view_ro) 3 view_ro) ?_
   rintro v _ ⟨rfl, rfl⟩
   have hnx : (gr c.p u.p).nx (k : Int) = nxP (op, aa) k := by show nxP (insAt u.p (k : Int)) k = _; rw [hxi]
   have hokE : (gr c.p u.p).ok (k : Int) h = okP c.p u.p (op, aa) h := by show okP c.p u.p (insAt u.p (k : Int)) h = _; rw [hxi]
   obtain ⟨T, hT⟩ : ∃ T, T = (mvs c.p (op, aa)).1 := ⟨_, rfl⟩
   obtain ⟨W, hW⟩ : ∃ W, W = (mvs c.p (op, aa)).2 := ⟨_, rfl⟩
   rw [← hT] at htk ⊢
   rw [← hW] at hpt ⊢
   have hlf : (gr c.p u.p).lf (k : Int) h = h - T + W := by show leftP c.p (insAt u.p (k : Int)) h = _; rw [hxi, hT, hW]; rfl
   have hokP : okP c.p u.p (op, aa) h = (decide (T ≤ h) && decide (h - T + W ≤ u.stack) && (!decide (op = 0) || decide (h = 0)) && (!decide (op = 23) || decide (h = aa))) := by
    unfold okP leftP; rw [← hT, ← hW]; rfl
   have hbad : okP c.p u.p (op, aa) h = false → fineB (gr c.p u.p) = false := fun e => fineB_f (not_fine_ok hR (hokE.trans e))
   obtain ⟨L, hL⟩ : ∃ L, L = h - T + W := ⟨_, rfl⟩
   rw [← hL] at hlf hokP
   have hst1 : u.stack ≤ 256 := hst1
   refine RR [] .z (.i 11 (.int .i64 W) (.i 10 (.int .i64 T) (.d (.d (.d (.k .a)))))) .a ?_
   refine RZ (NT (SQ (RG ?_)))
   refine RV true [] .z (.i 12 (.int .i64 (h - T + W)) (.d (.k .a))) .a ([inI64 (h - T), inI64 (h - T + W)]) ⟨by unfold inI64; omega, by unfold inI64; omega, trivial⟩ ?_
   refine RZ (NT (SQ (BK (SQ (RG ?_)))))
   refine RR [] (.d (.d (.d (.d .a)))) (.i 52 (.bool (decide (h < T))) (.k (.d (.k .a)))) .a ?_
   rw [← hL]
   by_cases kA : ¬ T ≤ h
   ·rw [hbad (by rw [hokP, decide_eq_false kA]; rfl)]
    refine SR 52 (decide (h < T)) true (decide_eq_true (by omega)) ?_
    refine RR [] .z (.i 48 (.bool true) (.d (.d (.k (.d (.k .a)))))) .a ?_
    refine RZ (NT (CT (SQ (RG ?_))))
    refine RR [] .z (.i 5 (.bool false) (.i 4 (Value.map none) (.d (.k (.k (.k (.k (.d (.d (.k .a)))))))))) .a ?_
    refine RZ (NT (RE (BR (TR (BR (TR (BR (TR ?_))))))))
    refine NE [] .z .a [] (.tuple #[Value.map none, .bool false]) ?_
    exact ⟨rfl, rfl⟩
   rw [Decidable.not_not] at kA
   by_cases kB : ¬ L ≤ u.stack
   ·rw [hbad (by rw [hokP, decide_eq_false kB]; simp)]
    refine SR 52 (decide (h < T)) false (decide_eq_false (by omega)) ?_
    refine RR [7] (.d (.d (.d (.d (.d (.d .a)))))) (.i 58 (.bool (decide (L > u.stack))) (.d (.d (.k .a)))) .a ?_
    refine SR 58 (decide (L > u.stack)) true (decide_eq_true (by omega)) ?_
    refine RR [] .z (.i 48 (.bool true) (.d (.d (.k (.d (.k .a)))))) .a ?_
    refine RZ (NT (CT (SQ (RG ?_))))
    refine RR [] .z (.i 5 (.bool false) (.i 4 (Value.map none) (.d (.k (.k (.k (.k (.d (.d (.k .a)))))))))) .a ?_
    refine RZ (NT (RE (BR (TR (BR (TR (BR (TR ?_))))))))
    refine NE [] .z .a [] (.tuple #[Value.map none, .bool false]) ?_
    exact ⟨rfl, rfl⟩
   rw [Decidable.not_not] at kB
   by_cases kC : op = 0 ∧ h ≠ 0
   ·rw [hbad (by rw [hokP, decide_eq_true kC.1, decide_eq_false kC.2]; simp)]
    obtain ⟨kC1, kC2⟩ := kC
    refine SR 52 (decide (h < T)) false (decide_eq_false (by omega)) ?_
    refine RR [7] (.d (.d (.d (.d (.d (.d .a)))))) (.i 58 (.bool (decide (L > u.stack))) (.d (.d (.k .a)))) .a ?_
    refine SR 58 (decide (L > u.stack)) false (decide_eq_false (by omega)) ?_
    refine RR [8] (.d (.d (.d (.d .a)))) (.i 62 (.bool (op == (0 : Int))) (.k (.d (.k .a)))) .a ?_
    refine SR 62 (op == (0 : Int)) true (by simp only [bne_iff_ne, beq_iff_eq, ne_eq]; omega) ?_
    refine RR [] .z (.i 48 (.bool (h != (0 : Int))) (.d (.d (.d (.k (.d (.k .a))))))) .a ?_
    refine RZ (NT ?_)
    refine SC 48 (h != (0 : Int)) true (by simp only [bne_iff_ne, beq_iff_eq, ne_eq]; omega) ?_
    refine CT (SQ (RG ?_))
    refine RR [] .z (.i 5 (.bool false) (.i 4 (Value.map none) (.d (.d (.k (.k (.k (.k (.d (.d (.k .a))))))))))) .a ?_
    refine RZ (NT (RE (BR (TR (BR (TR (BR (TR ?_))))))))
    refine NE [] .z .a [] (.tuple #[Value.map none, .bool false]) ?_
    exact ⟨rfl, rfl⟩
   have hok1 : op ≠ 23 → okP c.p u.p (op, aa) h = true := fun e => by
    rw [hokP, decide_eq_true kA, decide_eq_true kB, decide_eq_false e]
    by_cases h0 : op = 0
    ·have : h = 0 := Classical.byContradiction fun hn => kC ⟨h0, hn⟩
     rw [decide_eq_true this]; simp
    ·rw [decide_eq_false h0]; rfl
   have hL0 : 0 ≤ L ∧ L ≤ 256 := by omega
   have hstep : ∀ j, j ∈ nxP (op, aa) (k : Int) → Reach (gr c.p u.p) j L := fun j hj => hlf ▸ Reach.step hR (hnx ▸ hj)
   have hgn : (gr c.p u.p).n = (u.ins.length : Int) := rfl
   by_cases k23 : op = 23
   ·subst k23
    have hTW : T = aa ∧ W = 0 := by rw [hT, hW]; exact ⟨rfl, rfl⟩
    by_cases kL : L = 0
    ·refine SR 52 (decide (h < T)) false (decide_eq_false (by omega)) ?_
     refine RR [7] (.d (.d (.d (.d (.d (.d .a)))))) (.i 58 (.bool (decide (L > u.stack))) (.d (.d (.k .a)))) .a ?_
     refine SR 58 (decide (L > u.stack)) false (decide_eq_false (by omega)) ?_
     refine RR [8] .z (.i 48 (.bool false) (.d (.d (.k (.d (.k .a)))))) .a ?_
     refine RZ (NT (CF (SQ (RG ?_))))
     refine RR [8] .z (.i 67 (.bool true) (.d (.k .a))) .a ?_
     refine RZ (NT (CT (SQ (SQ (RG ?_)))))
     refine RR [] .z (.i 72 (.bool (L != (0 : Int))) (.d (.k .a))) .a ?_
     refine RZ (NT ?_)
     refine SC 72 (L != (0 : Int)) false (by simp only [bne_eq_false_iff_eq, beq_eq_false_iff_ne, ne_eq]; omega) ?_
     refine CF (SK (NT (EX (BF (TE (BH ?_))))))
     exact fun a' w' hS' => ⟨⟨(l, q', ad, c1), inv_done hinvX hh (hokE.trans (by rw [hokP, decide_eq_true kA, decide_eq_true kB, decide_eq_true (show h = aa by omega)]; simp)) (fun j hj => by rw [hnx] at hj; cases hj), by dsimp only; omega, hbd⟩, by dsimp only; omega, ent_fr (by kernel_rfl) _ _ (ent_hp [0, 1, 0, 0, 0, 0, 0, 0] rfl _ _ hS')⟩
    ·rw [hbad (by rw [hokP, decide_eq_false (show ¬ h = aa by omega)]; simp)]
     refine SR 52 (decide (h < T)) false (decide_eq_false (by omega)) ?_
     refine RR [7] (.d (.d (.d (.d (.d (.d .a)))))) (.i 58 (.bool (decide (L > u.stack))) (.d (.d (.k .a)))) .a ?_
     refine SR 58 (decide (L > u.stack)) false (decide_eq_false (by omega)) ?_
     refine RR [8] .z (.i 48 (.bool false) (.d (.d (.k (.d (.k .a)))))) .a ?_
     refine RZ (NT (CF (SQ (RG ?_))))
     refine RR [8] .z (.i 67 (.bool true) (.d (.k .a))) .a ?_
     refine RZ (NT (CT (SQ (SQ (RG ?_)))))
     refine RR [] .z (.i 72 (.bool (L != (0 : Int))) (.d (.k .a))) .a ?_
     refine RZ (NT ?_)
     refine SC 72 (L != (0 : Int)) true (by simp only [bne_iff_ne, beq_iff_eq, ne_eq]; omega) ?_
     refine CT (SQ (RG ?_))
     refine RR [] .z (.i 5 (.bool false) (.i 4 (Value.map none) (.d (.d (.k (.k (.k (.k (.d (.d (.k .a))))))))))) .a ?_
     refine RZ (NT (RE (TR (BR (TR (BR (TR (BR (TR ?_)))))))))
     refine NE [] .z .a [] (.tuple #[Value.map none, .bool false]) ?_
     exact ⟨rfl, rfl⟩
   have hokT := hokE.trans (hok1 k23)
   by_cases k20 : op = 20
   ·subst k20
    have hj20 := fits_jump hf (.inl rfl)
    refine SR 52 (decide (h < T)) false (decide_eq_false (by omega)) ?_
    refine RR [7] (.d (.d (.d (.d (.d (.d .a)))))) (.i 58 (.bool (decide (L > u.stack))) (.d (.d (.k .a)))) .a ?_
    refine SR 58 (decide (L > u.stack)) false (decide_eq_false (by omega)) ?_
    refine RR [8] .z (.i 48 (.bool false) (.d (.d (.k (.d (.k .a)))))) .a ?_
    refine RZ (NT (CF (SQ (RG ?_))))
    refine RR [8] .z (.i 67 (.bool false) (.d (.k .a))) .a ?_
    refine RZ (NT (CF (SQ (RG ?_))))
    refine RR [8] .z (.i 73 (.bool true) (.d (.k .a))) .a ?_
    refine RZ (NT (CT (SQ (RG ?_))))
    refine RR [8] (.d (.d (.d (.d .a)))) (.i 85 (.int .i64 L) (.i 84 (.int .i64 aa) (.i 82 (.pointer (some ⟨g3, 0, none⟩)) (.d (.k .a))))) .a ?_
    cases eA : lk l aa with
    | some xA =>
     refine RC (dst := some 86) [0, 1, 0] (.d (.d (.d (.k .a)))) (on_old' g3 g ad c1 l q' aa L xA eA) ?_
     rintro v _ ⟨rfl, rfl⟩
     by_cases kxA : xA = L
     ·rw [decide_eq_true kxA]
      have eeA : lk l aa = some L := by rw [eA, kxA]
      refine RR [] .z (.i 87 (.bool false) (.d (.d (.d (.d (.k .a)))))) .a ?_
      refine RZ (NT (CF (SK (BN (NT (SQ (RG ?_)))))))
      refine RR [8] .z (.i 106 (.bool false) (.d (.d (.d (.d (.k .a)))))) .a ?_
      refine RZ (NT (CF (SK (BN ?_))))
      exact fun a' w' hS' => ⟨⟨(l, q', ad, c1), inv_done hinvX hh hokT (fun j hj => by rw [hnx] at hj; unfold nxP at hj; dsimp only at hj; rw [if_pos rfl] at hj; rw [List.mem_singleton.1 hj, hlf]; exact eeA), by dsimp only; omega, hbd⟩, by dsimp only; omega, ent_fr (by kernel_rfl) _ _ (ent_hp [0, 0, 0, 0, 0, 0, 0, 0] rfl _ _ hS')⟩
     ·rw [fineB_f (not_fine_two (hinvX.reach _ _ eA) (hstep aa (by unfold nxP; dsimp only; rw [if_pos rfl]; exact List.mem_singleton.2 rfl)) kxA), decide_eq_false kxA]
      refine RR [] .z (.i 87 (.bool true) (.d (.d (.d (.d (.k .a)))))) .a ?_
      refine RZ (NT (CT (SQ (RG ?_))))
      refine RR [] .z (.i 5 (.bool false) (.i 4 (Value.map none) (.d (.k (.k (.k (.k (.d (.d (.k .a)))))))))) .a ?_
      refine RZ (NT (RE (BR (TR (BR (TR (BR (TR ?_))))))))
      refine NE [] .z .a [] (.tuple #[Value.map none, .bool false]) ?_
      exact ⟨rfl, rfl⟩
    | none =>
     have hpuA := told_push l aa L eA u.ins.length hj20.1 hj20.2
     have invA := inv_push hinvX eA (hstep aa (by unfold nxP; dsimp only; rw [if_pos rfl]; exact List.mem_singleton.2 rfl)) hj20
     have bdA : ∀ i h, lk (l ++ [(aa, L)]) i = some h → 0 ≤ h ∧ h ≤ 256 := fun i h e => by
      rw [lk_app _ _ _ _ eA] at e
      split at e
      ·cases e; exact hL0
      ·exact hbd i h e
     have hhA : lk (l ++ [(aa, L)]) (k : Int) = some h := by
      rw [lk_app _ _ _ _ eA, if_neg (fun e => by rw [← e, hh] at eA; cases eA)]
      exact hh
     have heA : lk (l ++ [(aa, L)]) aa = some L := by rw [lk_app _ _ _ _ eA, if_pos rfl]
     have hlnA : (q' ++ [aa]).length = (q').length + 1 := by rw [List.length_append]; rfl
     refine RC (dst := some 86) [0, 1, 0] (.d (.d (.d (.k .a)))) (on_new' g3 g ad c1 l q' aa L eA (by omega)) ?_
     rintro v _ ⟨aA, cA, rfl, rfl⟩
     refine RR [] .z (.i 87 (.bool false) (.d (.d (.d (.d (.k .a)))))) .a ?_
     refine RZ (NT (CF (SK (BN (NT (SQ (RG ?_)))))))
     refine RR [8] .z (.i 106 (.bool false) (.d (.d (.d (.d (.k .a)))))) .a ?_
     refine RZ (NT (CF (SK (BN ?_))))
     exact fun a' w' hS' => ⟨⟨((l ++ [(aa, L)]), (q' ++ [aa]), aA, cA), inv_done invA hhA hokT (fun j hj => by rw [hnx] at hj; unfold nxP at hj; dsimp only at hj; rw [if_pos rfl] at hj; rw [List.mem_singleton.1 hj, hlf]; exact heA), by dsimp only; omega, bdA⟩, by dsimp only; omega, ent_fr (by kernel_rfl) _ _ (ent_hp [0, 0, 0, 0, 0, 0, 0, 0] rfl _ _ hS')⟩
   by_cases k21 : op = 21
   ·subst k21
    have hj20 := fits_jump hf (.inr rfl)
    have hnx1 : nxP (21, aa) (k : Int) = [(k : Int) + 1, aa] := by unfold nxP; dsimp only; rw [if_neg (by decide), if_pos rfl]
    have hstep1 := hstep ((k : Int) + 1) (by rw [hnx1]; exact List.mem_cons_self ..)
    refine SR 52 (decide (h < T)) false (decide_eq_false (by omega)) ?_
    refine RR [7] (.d (.d (.d (.d (.d (.d .a)))))) (.i 58 (.bool (decide (L > u.stack))) (.d (.d (.k .a)))) .a ?_
    refine SR 58 (decide (L > u.stack)) false (decide_eq_false (by omega)) ?_
    refine RR [8] .z (.i 48 (.bool false) (.d (.d (.k (.d (.k .a)))))) .a ?_
    refine RZ (NT (CF (SQ (RG ?_))))
    refine RR [8] .z (.i 67 (.bool false) (.d (.k .a))) .a ?_
    refine RZ (NT (CF (SQ (RG ?_))))
    refine RR [8, 8] .z (.i 73 (.bool true) (.d (.k .a))) .a ?_
    refine RZ (NT (CT (SQ (RG ?_))))
    refine RR [8] (.d (.d (.d (.d .a)))) (.i 85 (.int .i64 L) (.i 84 (.int .i64 aa) (.i 82 (.pointer (some ⟨g3, 0, none⟩)) (.d (.k .a))))) .a ?_
    cases eB : lk l aa with
    | some xB =>
     refine RC (dst := some 86) [0, 1, 0] (.d (.d (.d (.k .a)))) (on_old' g3 g ad c1 l q' aa L xB eB) ?_
     rintro v _ ⟨rfl, rfl⟩
     by_cases kxB : xB = L
     ·rw [decide_eq_true kxB]
      have eeB : lk l aa = some L := by rw [eB, kxB]
      refine RR [] .z (.i 87 (.bool false) (.d (.d (.d (.d (.k .a)))))) .a ?_
      refine RZ (NT (CF (SK (BN (NT (SQ (RG ?_)))))))
      refine RV true [8, 7] (.d (.d (.d (.d (.d (.d (.d (.d (.d (.d (.d .a))))))))))) (.i 98 (.bool ((↑k : Int) + (1 : Int) == (↑u.ins.length : Int))) (.i 91 (.bool true) (.d (.k (.d (.k .a)))))) .a ([inI64 ((↑k : Int) + (1 : Int))]) ⟨by unfold inI64; omega, trivial⟩ ?_
      by_cases kE : (k : Int) + 1 = u.ins.length
      ·rw [fineB_f (not_fine_rng hstep1 (fun h => by rw [hgn] at h; omega))]
       refine SR 98 ((↑k : Int) + (1 : Int) == (↑u.ins.length : Int)) true (by simp only [bne_iff_ne, beq_iff_eq, ne_eq]; omega) ?_
       refine RR [] .z (.i 106 (.bool true) (.d (.d (.d (.d (.d (.k .a))))))) .a ?_
       refine RZ (NT (CT (SQ (RG ?_))))
       refine RR [] .z (.i 5 (.bool false) (.i 4 (Value.map none) (.d (.k (.d (.d (.k .a))))))) .a ?_
       refine RZ (NT (RE (BR (TR (BR (TR ?_))))))
       refine NE [] .z .a [] (.tuple #[Value.map none, .bool false]) ?_
       exact ⟨rfl, rfl⟩
      have hj1 : 0 ≤ (k : Int) + 1 ∧ (k : Int) + 1 < (u.ins.length : Int) := by omega
      refine SR 98 ((↑k : Int) + (1 : Int) == (↑u.ins.length : Int)) false (by simp only [bne_eq_false_iff_eq, beq_eq_false_iff_ne, ne_eq]; omega) ?_
      refine RV true [] (.d (.d (.d (.d .a)))) (.i 102 (.int .i64 L) (.i 101 (.int .i64 ((↑k : Int) + 1)) (.i 99 (.pointer (some ⟨g3, 0, none⟩)) (.k (.d (.k (.d (.d (.k .a))))))))) .a ([inI64 ((↑k : Int) + (1 : Int))]) ⟨by unfold inI64; omega, trivial⟩ ?_
      cases eC1 : lk l ((k : Int) + 1) with
      | some xC1 =>
       refine RC (dst := some 103) [0, 0, 0] (.d (.d (.d (.k .a)))) (on_old' g3 g ad c1 l q' ((k : Int) + 1) L xC1 eC1) ?_
       rintro v _ ⟨rfl, rfl⟩
       by_cases kxC1 : xC1 = L
       ·rw [decide_eq_true kxC1]
        have eeC1 : lk l ((k : Int) + 1) = some L := by rw [eC1, kxC1]
        refine RR [] .z (.i 106 (.bool false) (.d (.d (.d (.d (.d (.d (.k .a)))))))) .a ?_
        refine RZ (NT (CF (SK (BN ?_))))
        exact fun a' w' hS' => ⟨⟨(l, q', ad, c1), inv_done hinvX hh hokT (fun j hj => by rw [hnx, hnx1] at hj; rcases List.mem_cons.1 hj with rfl | hj; exact hlf ▸ eeC1; rw [List.mem_singleton.1 hj, hlf]; exact eeB), by dsimp only; omega, hbd⟩, by dsimp only; omega, ent_fr (by kernel_rfl) _ _ (ent_hp [0, 0, 0, 0, 0, 0, 0, 0] rfl _ _ hS')⟩
       ·rw [fineB_f (not_fine_two (hinvX.reach _ _ eC1) (hstep1) kxC1), decide_eq_false kxC1]
        refine RR [] .z (.i 106 (.bool true) (.d (.d (.d (.d (.d (.d (.k .a)))))))) .a ?_
        refine RZ (NT (CT (SQ (RG ?_))))
        refine RR [] .z (.i 5 (.bool false) (.i 4 (Value.map none) (.d (.k (.d (.d (.k .a))))))) .a ?_
        refine RZ (NT (RE (BR (TR (BR (TR ?_))))))
        refine NE [] .z .a [] (.tuple #[Value.map none, .bool false]) ?_
        exact ⟨rfl, rfl⟩
      | none =>
       have hpuC1 := told_push l ((k : Int) + 1) L eC1 u.ins.length hj1.1 hj1.2
       have invC1 := inv_push hinvX eC1 (hstep1) hj1
       have bdC1 : ∀ i h, lk (l ++ [(((k : Int) + 1), L)]) i = some h → 0 ≤ h ∧ h ≤ 256 := fun i h e => by
        rw [lk_app _ _ _ _ eC1] at e
        split at e
        ·cases e; exact hL0
        ·exact hbd i h e
       have hhC1 : lk (l ++ [(((k : Int) + 1), L)]) (k : Int) = some h := by
        rw [lk_app _ _ _ _ eC1, if_neg (fun e => by rw [← e, hh] at eC1; cases eC1)]
        exact hh
       have heC1 : lk (l ++ [(((k : Int) + 1), L)]) ((k : Int) + 1) = some L := by rw [lk_app _ _ _ _ eC1, if_pos rfl]
       have hlnC1 : (q' ++ [((k : Int) + 1)]).length = (q').length + 1 := by rw [List.length_append]; rfl
       refine RC (dst := some 103) [0, 0, 0] (.d (.d (.d (.k .a)))) (on_new' g3 g ad c1 l q' ((k : Int) + 1) L eC1 (by omega)) ?_
       rintro v _ ⟨aC1, cC1, rfl, rfl⟩
       refine RR [] .z (.i 106 (.bool false) (.d (.d (.d (.d (.d (.d (.k .a)))))))) .a ?_
       refine RZ (NT (CF (SK (BN ?_))))
       exact fun a' w' hS' => ⟨⟨((l ++ [(((k : Int) + 1), L)]), (q' ++ [((k : Int) + 1)]), aC1, cC1), inv_done invC1 hhC1 hokT (fun j hj => by rw [hnx, hnx1] at hj; rcases List.mem_cons.1 hj with rfl | hj; exact hlf ▸ heC1; rw [List.mem_singleton.1 hj, hlf]; exact (by rw [lk_app _ _ _ _ eC1, if_neg (fun e => by rw [← e, eeB] at eC1; cases eC1)]; exact eeB)), by dsimp only; omega, bdC1⟩, by dsimp only; omega, ent_fr (by kernel_rfl) _ _ (ent_hp [0, 0, 0, 0, 0, 0, 0, 0] rfl _ _ hS')⟩
     ·rw [fineB_f (not_fine_two (hinvX.reach _ _ eB) (hstep aa (by unfold nxP; dsimp only; rw [if_neg (by decide), if_pos rfl]; exact List.mem_cons_of_mem _ (List.mem_singleton.2 rfl))) kxB), decide_eq_false kxB]
      refine RR [] .z (.i 87 (.bool true) (.d (.d (.d (.d (.k .a)))))) .a ?_
      refine RZ (NT (CT (SQ (RG ?_))))
      refine RR [] .z (.i 5 (.bool false) (.i 4 (Value.map none) (.d (.k (.k (.k (.k (.d (.d (.k .a)))))))))) .a ?_
      refine RZ (NT (RE (BR (TR (BR (TR (BR (TR ?_))))))))
      refine NE [] .z .a [] (.tuple #[Value.map none, .bool false]) ?_
      exact ⟨rfl, rfl⟩
    | none =>
     have hpuB := told_push l aa L eB u.ins.length hj20.1 hj20.2
     have invB := inv_push hinvX eB (hstep aa (by unfold nxP; dsimp only; rw [if_neg (by decide), if_pos rfl]; exact List.mem_cons_of_mem _ (List.mem_singleton.2 rfl))) hj20
     have bdB : ∀ i h, lk (l ++ [(aa, L)]) i = some h → 0 ≤ h ∧ h ≤ 256 := fun i h e => by
      rw [lk_app _ _ _ _ eB] at e
      split at e
      ·cases e; exact hL0
      ·exact hbd i h e
     have hhB : lk (l ++ [(aa, L)]) (k : Int) = some h := by
      rw [lk_app _ _ _ _ eB, if_neg (fun e => by rw [← e, hh] at eB; cases eB)]
      exact hh
     have heB : lk (l ++ [(aa, L)]) aa = some L := by rw [lk_app _ _ _ _ eB, if_pos rfl]
     have hlnB : (q' ++ [aa]).length = (q').length + 1 := by rw [List.length_append]; rfl
     refine RC (dst := some 86) [0, 1, 0] (.d (.d (.d (.k .a)))) (on_new' g3 g ad c1 l q' aa L eB (by omega)) ?_
     rintro v _ ⟨aB, cB, rfl, rfl⟩
     refine RR [] .z (.i 87 (.bool false) (.d (.d (.d (.d (.k .a)))))) .a ?_
     refine RZ (NT (CF (SK (BN (NT (SQ (RG ?_)))))))
     refine RV true [8, 7] (.d (.d (.d (.d (.d (.d (.d (.d (.d (.d (.d .a))))))))))) (.i 98 (.bool ((↑k : Int) + (1 : Int) == (↑u.ins.length : Int))) (.i 91 (.bool true) (.d (.k (.d (.k .a)))))) .a ([inI64 ((↑k : Int) + (1 : Int))]) ⟨by unfold inI64; omega, trivial⟩ ?_
     by_cases kE : (k : Int) + 1 = u.ins.length
     ·rw [fineB_f (not_fine_rng hstep1 (fun h => by rw [hgn] at h; omega))]
      refine SR 98 ((↑k : Int) + (1 : Int) == (↑u.ins.length : Int)) true (by simp only [bne_iff_ne, beq_iff_eq, ne_eq]; omega) ?_
      refine RR [] .z (.i 106 (.bool true) (.d (.d (.d (.d (.d (.k .a))))))) .a ?_
      refine RZ (NT (CT (SQ (RG ?_))))
      refine RR [] .z (.i 5 (.bool false) (.i 4 (Value.map none) (.d (.k (.d (.d (.k .a))))))) .a ?_
      refine RZ (NT (RE (BR (TR (BR (TR ?_))))))
      refine NE [] .z .a [] (.tuple #[Value.map none, .bool false]) ?_
      exact ⟨rfl, rfl⟩
     have hj1 : 0 ≤ (k : Int) + 1 ∧ (k : Int) + 1 < (u.ins.length : Int) := by omega
     refine SR 98 ((↑k : Int) + (1 : Int) == (↑u.ins.length : Int)) false (by simp only [bne_eq_false_iff_eq, beq_eq_false_iff_ne, ne_eq]; omega) ?_
     refine RV true [] (.d (.d (.d (.d .a)))) (.i 102 (.int .i64 L) (.i 101 (.int .i64 ((↑k : Int) + 1)) (.i 99 (.pointer (some ⟨g3, 0, none⟩)) (.k (.d (.k (.d (.d (.k .a))))))))) .a ([inI64 ((↑k : Int) + (1 : Int))]) ⟨by unfold inI64; omega, trivial⟩ ?_
     cases eC2 : lk (l ++ [(aa, L)]) ((k : Int) + 1) with
     | some xC2 =>
      refine RC (dst := some 103) [0, 0, 0] (.d (.d (.d (.k .a)))) (on_old' g3 g aB cB (l ++ [(aa, L)]) (q' ++ [aa]) ((k : Int) + 1) L xC2 eC2) ?_
      rintro v _ ⟨rfl, rfl⟩
      by_cases kxC2 : xC2 = L
      ·rw [decide_eq_true kxC2]
       have eeC2 : lk (l ++ [(aa, L)]) ((k : Int) + 1) = some L := by rw [eC2, kxC2]
       refine RR [] .z (.i 106 (.bool false) (.d (.d (.d (.d (.d (.d (.k .a)))))))) .a ?_
       refine RZ (NT (CF (SK (BN ?_))))
       exact fun a' w' hS' => ⟨⟨((l ++ [(aa, L)]), (q' ++ [aa]), aB, cB), inv_done invB hhB hokT (fun j hj => by rw [hnx, hnx1] at hj; rcases List.mem_cons.1 hj with rfl | hj; exact hlf ▸ eeC2; rw [List.mem_singleton.1 hj, hlf]; exact heB), by dsimp only; omega, bdB⟩, by dsimp only; omega, ent_fr (by kernel_rfl) _ _ (ent_hp [0, 0, 0, 0, 0, 0, 0, 0] rfl _ _ hS')⟩
      ·rw [fineB_f (not_fine_two (invB.reach _ _ eC2) (hstep1) kxC2), decide_eq_false kxC2]
       refine RR [] .z (.i 106 (.bool true) (.d (.d (.d (.d (.d (.d (.k .a)))))))) .a ?_
       refine RZ (NT (CT (SQ (RG ?_))))
       refine RR [] .z (.i 5 (.bool false) (.i 4 (Value.map none) (.d (.k (.d (.d (.k .a))))))) .a ?_
       refine RZ (NT (RE (BR (TR (BR (TR ?_))))))
       refine NE [] .z .a [] (.tuple #[Value.map none, .bool false]) ?_
       exact ⟨rfl, rfl⟩
     | none =>
      have hpuC2 := told_push (l ++ [(aa, L)]) ((k : Int) + 1) L eC2 u.ins.length hj1.1 hj1.2
      have invC2 := inv_push invB eC2 (hstep1) hj1
      have bdC2 : ∀ i h, lk ((l ++ [(aa, L)]) ++ [(((k : Int) + 1), L)]) i = some h → 0 ≤ h ∧ h ≤ 256 := fun i h e => by
       rw [lk_app _ _ _ _ eC2] at e
       split at e
       ·cases e; exact hL0
       ·exact bdB i h e
      have hhC2 : lk ((l ++ [(aa, L)]) ++ [(((k : Int) + 1), L)]) (k : Int) = some h := by
       rw [lk_app _ _ _ _ eC2, if_neg (fun e => by rw [← e, hhB] at eC2; cases eC2)]
       exact hhB
      have heC2 : lk ((l ++ [(aa, L)]) ++ [(((k : Int) + 1), L)]) ((k : Int) + 1) = some L := by rw [lk_app _ _ _ _ eC2, if_pos rfl]
      have hlnC2 : ((q' ++ [aa]) ++ [((k : Int) + 1)]).length = ((q' ++ [aa])).length + 1 := by rw [List.length_append]; rfl
      refine RC (dst := some 103) [0, 0, 0] (.d (.d (.d (.k .a)))) (on_new' g3 g aB cB (l ++ [(aa, L)]) (q' ++ [aa]) ((k : Int) + 1) L eC2 (by omega)) ?_
      rintro v _ ⟨aC2, cC2, rfl, rfl⟩
      refine RR [] .z (.i 106 (.bool false) (.d (.d (.d (.d (.d (.d (.k .a)))))))) .a ?_
      refine RZ (NT (CF (SK (BN ?_))))
      exact fun a' w' hS' => ⟨⟨(((l ++ [(aa, L)]) ++ [(((k : Int) + 1), L)]), ((q' ++ [aa]) ++ [((k : Int) + 1)]), aC2, cC2), inv_done invC2 hhC2 hokT (fun j hj => by rw [hnx, hnx1] at hj; rcases List.mem_cons.1 hj with rfl | hj; exact hlf ▸ heC2; rw [List.mem_singleton.1 hj, hlf]; exact (by rw [lk_app _ _ _ _ eC2, if_neg (fun e => by rw [← e, heB] at eC2; cases eC2)]; exact heB)), by dsimp only; omega, bdC2⟩, by dsimp only; omega, ent_fr (by kernel_rfl) _ _ (ent_hp [0, 0, 0, 0, 0, 0, 0, 0] rfl _ _ hS')⟩
   have hnx1 : nxP (op, aa) (k : Int) = [(k : Int) + 1] := by unfold nxP; rw [if_neg k20, if_neg k21, if_neg k23]
   have hstep1 := hstep ((k : Int) + 1) (by rw [hnx1]; exact List.mem_singleton.2 rfl)
   by_cases k0 : op = 0
   ·have hz : h = 0 := Classical.byContradiction fun hn => kC ⟨k0, hn⟩
    by_cases kE : (k : Int) + 1 = u.ins.length
    ·rw [fineB_f (not_fine_rng hstep1 (fun h => by rw [hgn] at h; omega))]
     refine SR 52 (decide (h < T)) false (decide_eq_false (by omega)) ?_
     refine RR [7] (.d (.d (.d (.d (.d (.d .a)))))) (.i 58 (.bool (decide (L > u.stack))) (.d (.d (.k .a)))) .a ?_
     refine SR 58 (decide (L > u.stack)) false (decide_eq_false (by omega)) ?_
     refine RR [8] (.d (.d (.d (.d .a)))) (.i 62 (.bool (op == (0 : Int))) (.k (.d (.k .a)))) .a ?_
     refine SR 62 (op == (0 : Int)) true (by simp only [bne_iff_ne, beq_iff_eq, ne_eq]; omega) ?_
     refine RR [] .z (.i 48 (.bool (h != (0 : Int))) (.d (.d (.d (.k (.d (.k .a))))))) .a ?_
     refine RZ (NT ?_)
     refine SC 48 (h != (0 : Int)) false (by simp only [bne_eq_false_iff_eq, beq_eq_false_iff_ne, ne_eq]; omega) ?_
     refine CF (SQ (RG ?_))
     refine RR [8] .z (.i 67 (.bool (op == (23 : Int))) (.d (.d (.k .a)))) .a ?_
     refine RZ (NT ?_)
     refine SC 67 (op == (23 : Int)) false (by simp only [bne_eq_false_iff_eq, beq_eq_false_iff_ne, ne_eq]; omega) ?_
     refine CF (SQ (RG ?_))
     refine RR [8] (.d (.d (.d (.d .a)))) (.i 77 (.bool (op == (20 : Int))) (.d (.d (.k .a)))) .a ?_
     refine SR 77 (op == (20 : Int)) false (by simp only [bne_eq_false_iff_eq, beq_eq_false_iff_ne, ne_eq]; omega) ?_
     refine RR [8] .z (.i 73 (.bool (op == (21 : Int))) (.d (.d (.k .a)))) .a ?_
     refine RZ (NT ?_)
     refine SC 73 (op == (21 : Int)) false (by simp only [bne_eq_false_iff_eq, beq_eq_false_iff_ne, ne_eq]; omega) ?_
     refine CF (SK (BN (NT (SQ (RG ?_)))))
     refine RR [8] (.d (.d (.d (.d .a)))) (.i 91 (.bool (op != (20 : Int))) (.d (.d (.k (.d (.k .a)))))) .a ?_
     refine SR 91 (op != (20 : Int)) true (by simp only [bne_iff_ne, beq_iff_eq, ne_eq]; omega) ?_
     refine RV true [7] (.d (.d (.d (.d (.d (.d (.d .a))))))) (.i 98 (.bool ((↑k : Int) + (1 : Int) == (↑u.ins.length : Int))) (.k (.d (.k .a)))) .a ([inI64 ((↑k : Int) + (1 : Int))]) ⟨by unfold inI64; omega, trivial⟩ ?_
     refine SR 98 ((↑k : Int) + (1 : Int) == (↑u.ins.length : Int)) true (by simp only [bne_iff_ne, beq_iff_eq, ne_eq]; omega) ?_
     refine RR [] .z (.i 106 (.bool true) (.d (.d (.d (.d (.d (.k .a))))))) .a ?_
     refine RZ (NT (CT (SQ (RG ?_))))
     refine RR [] .z (.i 5 (.bool false) (.i 4 (Value.map none) (.d (.k (.d (.d (.k .a))))))) .a ?_
     refine RZ (NT (RE (BR (TR (BR (TR ?_))))))
     refine NE [] .z .a [] (.tuple #[Value.map none, .bool false]) ?_
     exact ⟨rfl, rfl⟩
    have hj1 : 0 ≤ (k : Int) + 1 ∧ (k : Int) + 1 < (u.ins.length : Int) := by omega
    refine SR 52 (decide (h < T)) false (decide_eq_false (by omega)) ?_
    refine RR [7] (.d (.d (.d (.d (.d (.d .a)))))) (.i 58 (.bool (decide (L > u.stack))) (.d (.d (.k .a)))) .a ?_
    refine SR 58 (decide (L > u.stack)) false (decide_eq_false (by omega)) ?_
    refine RR [8] (.d (.d (.d (.d .a)))) (.i 62 (.bool (op == (0 : Int))) (.k (.d (.k .a)))) .a ?_
    refine SR 62 (op == (0 : Int)) true (by simp only [bne_iff_ne, beq_iff_eq, ne_eq]; omega) ?_
    refine RR [] .z (.i 48 (.bool (h != (0 : Int))) (.d (.d (.d (.k (.d (.k .a))))))) .a ?_
    refine RZ (NT ?_)
    refine SC 48 (h != (0 : Int)) false (by simp only [bne_eq_false_iff_eq, beq_eq_false_iff_ne, ne_eq]; omega) ?_
    refine CF (SQ (RG ?_))
    refine RR [8] .z (.i 67 (.bool (op == (23 : Int))) (.d (.d (.k .a)))) .a ?_
    refine RZ (NT ?_)
    refine SC 67 (op == (23 : Int)) false (by simp only [bne_eq_false_iff_eq, beq_eq_false_iff_ne, ne_eq]; omega) ?_
    refine CF (SQ (RG ?_))
    refine RR [8] (.d (.d (.d (.d .a)))) (.i 77 (.bool (op == (20 : Int))) (.d (.d (.k .a)))) .a ?_
    refine SR 77 (op == (20 : Int)) false (by simp only [bne_eq_false_iff_eq, beq_eq_false_iff_ne, ne_eq]; omega) ?_
    refine RR [8] .z (.i 73 (.bool (op == (21 : Int))) (.d (.d (.k .a)))) .a ?_
    refine RZ (NT ?_)
    refine SC 73 (op == (21 : Int)) false (by simp only [bne_eq_false_iff_eq, beq_eq_false_iff_ne, ne_eq]; omega) ?_
    refine CF (SK (BN (NT (SQ (RG ?_)))))
    refine RR [8] (.d (.d (.d (.d .a)))) (.i 91 (.bool (op != (20 : Int))) (.d (.d (.k (.d (.k .a)))))) .a ?_
    refine SR 91 (op != (20 : Int)) true (by simp only [bne_iff_ne, beq_iff_eq, ne_eq]; omega) ?_
    refine RV true [7] (.d (.d (.d (.d (.d (.d (.d .a))))))) (.i 98 (.bool ((↑k : Int) + (1 : Int) == (↑u.ins.length : Int))) (.k (.d (.k .a)))) .a ([inI64 ((↑k : Int) + (1 : Int))]) ⟨by unfold inI64; omega, trivial⟩ ?_
    refine SR 98 ((↑k : Int) + (1 : Int) == (↑u.ins.length : Int)) false (by simp only [bne_eq_false_iff_eq, beq_eq_false_iff_ne, ne_eq]; omega) ?_
    refine RV true [] (.d (.d (.d (.d .a)))) (.i 102 (.int .i64 L) (.i 101 (.int .i64 ((↑k : Int) + 1)) (.i 99 (.pointer (some ⟨g3, 0, none⟩)) (.k (.d (.k (.d (.d (.k .a))))))))) .a ([inI64 ((↑k : Int) + (1 : Int))]) ⟨by unfold inI64; omega, trivial⟩ ?_
    cases eD : lk l ((k : Int) + 1) with
    | some xD =>
     refine RC (dst := some 103) [0, 1, 0] (.d (.d (.d (.k .a)))) (on_old' g3 g ad c1 l q' ((k : Int) + 1) L xD eD) ?_
     rintro v _ ⟨rfl, rfl⟩
     by_cases kxD : xD = L
     ·rw [decide_eq_true kxD]
      have eeD : lk l ((k : Int) + 1) = some L := by rw [eD, kxD]
      refine RR [] .z (.i 106 (.bool false) (.d (.d (.d (.d (.d (.d (.k .a)))))))) .a ?_
      refine RZ (NT (CF (SK (BN ?_))))
      exact fun a' w' hS' => ⟨⟨(l, q', ad, c1), inv_done hinvX hh hokT (fun j hj => by rw [hnx, hnx1] at hj; rw [List.mem_singleton.1 hj, hlf]; exact eeD), by dsimp only; omega, hbd⟩, by dsimp only; omega, ent_fr (by kernel_rfl) _ _ (ent_hp [0, 0, 0, 0, 0, 0, 0, 0] rfl _ _ hS')⟩
     ·rw [fineB_f (not_fine_two (hinvX.reach _ _ eD) (hstep1) kxD), decide_eq_false kxD]
      refine RR [] .z (.i 106 (.bool true) (.d (.d (.d (.d (.d (.d (.k .a)))))))) .a ?_
      refine RZ (NT (CT (SQ (RG ?_))))
      refine RR [] .z (.i 5 (.bool false) (.i 4 (Value.map none) (.d (.k (.d (.d (.k .a))))))) .a ?_
      refine RZ (NT (RE (BR (TR (BR (TR ?_))))))
      refine NE [] .z .a [] (.tuple #[Value.map none, .bool false]) ?_
      exact ⟨rfl, rfl⟩
    | none =>
     have hpuD := told_push l ((k : Int) + 1) L eD u.ins.length hj1.1 hj1.2
     have invD := inv_push hinvX eD (hstep1) hj1
     have bdD : ∀ i h, lk (l ++ [(((k : Int) + 1), L)]) i = some h → 0 ≤ h ∧ h ≤ 256 := fun i h e => by
      rw [lk_app _ _ _ _ eD] at e
      split at e
      ·cases e; exact hL0
      ·exact hbd i h e
     have hhD : lk (l ++ [(((k : Int) + 1), L)]) (k : Int) = some h := by
      rw [lk_app _ _ _ _ eD, if_neg (fun e => by rw [← e, hh] at eD; cases eD)]
      exact hh
     have heD : lk (l ++ [(((k : Int) + 1), L)]) ((k : Int) + 1) = some L := by rw [lk_app _ _ _ _ eD, if_pos rfl]
     have hlnD : (q' ++ [((k : Int) + 1)]).length = (q').length + 1 := by rw [List.length_append]; rfl
     refine RC (dst := some 103) [0, 1, 0] (.d (.d (.d (.k .a)))) (on_new' g3 g ad c1 l q' ((k : Int) + 1) L eD (by omega)) ?_
     rintro v _ ⟨aD, cD, rfl, rfl⟩
     refine RR [] .z (.i 106 (.bool false) (.d (.d (.d (.d (.d (.d (.k .a)))))))) .a ?_
     refine RZ (NT (CF (SK (BN ?_))))
     exact fun a' w' hS' => ⟨⟨((l ++ [(((k : Int) + 1), L)]), (q' ++ [((k : Int) + 1)]), aD, cD), inv_done invD hhD hokT (fun j hj => by rw [hnx, hnx1] at hj; rw [List.mem_singleton.1 hj, hlf]; exact heD), by dsimp only; omega, bdD⟩, by dsimp only; omega, ent_fr (by kernel_rfl) _ _ (ent_hp [0, 0, 0, 0, 0, 0, 0, 0] rfl _ _ hS')⟩
   by_cases kE : (k : Int) + 1 = u.ins.length
   ·rw [fineB_f (not_fine_rng hstep1 (fun h => by rw [hgn] at h; omega))]
    refine SR 52 (decide (h < T)) false (decide_eq_false (by omega)) ?_
    refine RR [7] (.d (.d (.d (.d (.d (.d .a)))))) (.i 58 (.bool (decide (L > u.stack))) (.d (.d (.k .a)))) .a ?_
    refine SR 58 (decide (L > u.stack)) false (decide_eq_false (by omega)) ?_
    refine RR [8] (.d (.d (.d (.d .a)))) (.i 62 (.bool (op == (0 : Int))) (.k (.d (.k .a)))) .a ?_
    refine SR 62 (op == (0 : Int)) false (by simp only [bne_eq_false_iff_eq, beq_eq_false_iff_ne, ne_eq]; omega) ?_
    refine RR [] .z (.i 48 (.bool false) (.d (.d (.d (.k (.d (.k .a))))))) .a ?_
    refine RZ (NT (CF (SQ (RG ?_))))
    refine RR [8] .z (.i 67 (.bool (op == (23 : Int))) (.d (.k .a))) .a ?_
    refine RZ (NT ?_)
    refine SC 67 (op == (23 : Int)) false (by simp only [bne_eq_false_iff_eq, beq_eq_false_iff_ne, ne_eq]; omega) ?_
    refine CF (SQ (RG ?_))
    refine RR [8] (.d (.d (.d (.d .a)))) (.i 77 (.bool (op == (20 : Int))) (.d (.d (.k .a)))) .a ?_
    refine SR 77 (op == (20 : Int)) false (by simp only [bne_eq_false_iff_eq, beq_eq_false_iff_ne, ne_eq]; omega) ?_
    refine RR [8] .z (.i 73 (.bool (op == (21 : Int))) (.d (.d (.k .a)))) .a ?_
    refine RZ (NT ?_)
    refine SC 73 (op == (21 : Int)) false (by simp only [bne_eq_false_iff_eq, beq_eq_false_iff_ne, ne_eq]; omega) ?_
    refine CF (SK (BN (NT (SQ (RG ?_)))))
    refine RR [8] (.d (.d (.d (.d .a)))) (.i 91 (.bool (op != (20 : Int))) (.d (.d (.k (.d (.k .a)))))) .a ?_
    refine SR 91 (op != (20 : Int)) true (by simp only [bne_iff_ne, beq_iff_eq, ne_eq]; omega) ?_
    refine RV true [7] (.d (.d (.d (.d (.d (.d (.d .a))))))) (.i 98 (.bool ((↑k : Int) + (1 : Int) == (↑u.ins.length : Int))) (.k (.d (.k .a)))) .a ([inI64 ((↑k : Int) + (1 : Int))]) ⟨by unfold inI64; omega, trivial⟩ ?_
    refine SR 98 ((↑k : Int) + (1 : Int) == (↑u.ins.length : Int)) true (by simp only [bne_iff_ne, beq_iff_eq, ne_eq]; omega) ?_
    refine RR [] .z (.i 106 (.bool true) (.d (.d (.d (.d (.d (.k .a))))))) .a ?_
    refine RZ (NT (CT (SQ (RG ?_))))
    refine RR [] .z (.i 5 (.bool false) (.i 4 (Value.map none) (.d (.k (.d (.d (.k .a))))))) .a ?_
    refine RZ (NT (RE (BR (TR (BR (TR ?_))))))
    refine NE [] .z .a [] (.tuple #[Value.map none, .bool false]) ?_
    exact ⟨rfl, rfl⟩
   have hj1 : 0 ≤ (k : Int) + 1 ∧ (k : Int) + 1 < (u.ins.length : Int) := by omega
   refine SR 52 (decide (h < T)) false (decide_eq_false (by omega)) ?_
   refine RR [7] (.d (.d (.d (.d (.d (.d .a)))))) (.i 58 (.bool (decide (L > u.stack))) (.d (.d (.k .a)))) .a ?_
   refine SR 58 (decide (L > u.stack)) false (decide_eq_false (by omega)) ?_
   refine RR [8] (.d (.d (.d (.d .a)))) (.i 62 (.bool (op == (0 : Int))) (.k (.d (.k .a)))) .a ?_
   refine SR 62 (op == (0 : Int)) false (by simp only [bne_eq_false_iff_eq, beq_eq_false_iff_ne, ne_eq]; omega) ?_
   refine RR [] .z (.i 48 (.bool false) (.d (.d (.d (.k (.d (.k .a))))))) .a ?_
   refine RZ (NT (CF (SQ (RG ?_))))
   refine RR [8] .z (.i 67 (.bool (op == (23 : Int))) (.d (.k .a))) .a ?_
   refine RZ (NT ?_)
   refine SC 67 (op == (23 : Int)) false (by simp only [bne_eq_false_iff_eq, beq_eq_false_iff_ne, ne_eq]; omega) ?_
   refine CF (SQ (RG ?_))
   refine RR [8] (.d (.d (.d (.d .a)))) (.i 77 (.bool (op == (20 : Int))) (.d (.d (.k .a)))) .a ?_
   refine SR 77 (op == (20 : Int)) false (by simp only [bne_eq_false_iff_eq, beq_eq_false_iff_ne, ne_eq]; omega) ?_
   refine RR [8] .z (.i 73 (.bool (op == (21 : Int))) (.d (.d (.k .a)))) .a ?_
   refine RZ (NT ?_)
   refine SC 73 (op == (21 : Int)) false (by simp only [bne_eq_false_iff_eq, beq_eq_false_iff_ne, ne_eq]; omega) ?_
   refine CF (SK (BN (NT (SQ (RG ?_)))))
   refine RR [8] (.d (.d (.d (.d .a)))) (.i 91 (.bool (op != (20 : Int))) (.d (.d (.k (.d (.k .a)))))) .a ?_
   refine SR 91 (op != (20 : Int)) true (by simp only [bne_iff_ne, beq_iff_eq, ne_eq]; omega) ?_
   refine RV true [7] (.d (.d (.d (.d (.d (.d (.d .a))))))) (.i 98 (.bool ((↑k : Int) + (1 : Int) == (↑u.ins.length : Int))) (.k (.d (.k .a)))) .a ([inI64 ((↑k : Int) + (1 : Int))]) ⟨by unfold inI64; omega, trivial⟩ ?_
   refine SR 98 ((↑k : Int) + (1 : Int) == (↑u.ins.length : Int)) false (by simp only [bne_eq_false_iff_eq, beq_eq_false_iff_ne, ne_eq]; omega) ?_
   refine RV true [] (.d (.d (.d (.d .a)))) (.i 102 (.int .i64 L) (.i 101 (.int .i64 ((↑k : Int) + 1)) (.i 99 (.pointer (some ⟨g3, 0, none⟩)) (.k (.d (.k (.d (.d (.k .a))))))))) .a ([inI64 ((↑k : Int) + (1 : Int))]) ⟨by unfold inI64; omega, trivial⟩ ?_
   cases eD : lk l ((k : Int) + 1) with
   | some xD =>
    refine RC (dst := some 103) [0, 1, 0] (.d (.d (.d (.k .a)))) (on_old' g3 g ad c1 l q' ((k : Int) + 1) L xD eD) ?_
    rintro v _ ⟨rfl, rfl⟩
    by_cases kxD : xD = L
    ·rw [decide_eq_true kxD]
     have eeD : lk l ((k : Int) + 1) = some L := by rw [eD, kxD]
     refine RR [] .z (.i 106 (.bool false) (.d (.d (.d (.d (.d (.d (.k .a)))))))) .a ?_
     refine RZ (NT (CF (SK (BN ?_))))
     exact fun a' w' hS' => ⟨⟨(l, q', ad, c1), inv_done hinvX hh hokT (fun j hj => by rw [hnx, hnx1] at hj; rw [List.mem_singleton.1 hj, hlf]; exact eeD), by dsimp only; omega, hbd⟩, by dsimp only; omega, ent_fr (by kernel_rfl) _ _ (ent_hp [0, 0, 0, 0, 0, 0, 0, 0] rfl _ _ hS')⟩
    ·rw [fineB_f (not_fine_two (hinvX.reach _ _ eD) (hstep1) kxD), decide_eq_false kxD]
     refine RR [] .z (.i 106 (.bool true) (.d (.d (.d (.d (.d (.d (.k .a)))))))) .a ?_
     refine RZ (NT (CT (SQ (RG ?_))))
     refine RR [] .z (.i 5 (.bool false) (.i 4 (Value.map none) (.d (.k (.d (.d (.k .a))))))) .a ?_
     refine RZ (NT (RE (BR (TR (BR (TR ?_))))))
     refine NE [] .z .a [] (.tuple #[Value.map none, .bool false]) ?_
     exact ⟨rfl, rfl⟩
   | none =>
    have hpuD := told_push l ((k : Int) + 1) L eD u.ins.length hj1.1 hj1.2
    have invD := inv_push hinvX eD (hstep1) hj1
    have bdD : ∀ i h, lk (l ++ [(((k : Int) + 1), L)]) i = some h → 0 ≤ h ∧ h ≤ 256 := fun i h e => by
     rw [lk_app _ _ _ _ eD] at e
     split at e
     ·cases e; exact hL0
     ·exact hbd i h e
    have hhD : lk (l ++ [(((k : Int) + 1), L)]) (k : Int) = some h := by
     rw [lk_app _ _ _ _ eD, if_neg (fun e => by rw [← e, hh] at eD; cases eD)]
     exact hh
    have heD : lk (l ++ [(((k : Int) + 1), L)]) ((k : Int) + 1) = some L := by rw [lk_app _ _ _ _ eD, if_pos rfl]
    have hlnD : (q' ++ [((k : Int) + 1)]).length = (q').length + 1 := by rw [List.length_append]; rfl
    refine RC (dst := some 103) [0, 1, 0] (.d (.d (.d (.k .a)))) (on_new' g3 g ad c1 l q' ((k : Int) + 1) L eD (by omega)) ?_
    rintro v _ ⟨aD, cD, rfl, rfl⟩
    refine RR [] .z (.i 106 (.bool false) (.d (.d (.d (.d (.d (.d (.k .a)))))))) .a ?_
    refine RZ (NT (CF (SK (BN ?_))))
    exact fun a' w' hS' => ⟨⟨((l ++ [(((k : Int) + 1), L)]), (q' ++ [((k : Int) + 1)]), aD, cD), inv_done invD hhD hokT (fun j hj => by rw [hnx, hnx1] at hj; rw [List.mem_singleton.1 hj, hlf]; exact heD), by dsimp only; omega, bdD⟩, by dsimp only; omega, ent_fr (by kernel_rfl) _ _ (ent_hp [0, 0, 0, 0, 0, 0, 0, 0] rfl _ _ hS')⟩
end Go.Proofs.YtgcfomhlgipllaaGreatDoor
namespace Go.Proofs.YtgcfomhlgipllaaGreatDoor
open Go Go.Sx
theorem shape_spec (x : ShV) (hx : x.ok) : Does Tryz.prog 89 [.agg (shC x).toArray] [ro x.fa (strsC x.fields), gWords] (fun v hp' => v = .bool (shapeB x.p) ∧ hp' = []) := by
 obtain ⟨h1, h2, h3⟩ := hx
 have hap := apartT_spec x.fa x.fc x.fields h2 (fun t ht => h3 t ht)
 rw [List.map_id] at hap
 unfold shC
 by_cases k0 : ¬ 1 ≤ x.fields.length
 ·rw [show shapeB x.p = false from by unfold shapeB ShV.p; dsimp only; rw [decide_eq_false k0]; rfl]
  refine fn_enter Tryz.func89 rfl 18 rfl fun w0 h0 => ?_
  refine SQ (RG ?_)
  refine RP [] (.d .a) 1 .z .a 111 [.string (mkS x.name), .slice x.fa x.fields.length x.fc] fun g1 => ?_
  refine RR [] .z (.i 2 (.bool false) .a) .a ?_
  refine RZ (NT (SQ (RG ?_)))
  refine RR [2] .z (.i 3 (.int .i64 (↑x.fields.length : Int)) .a) .a ?_
  refine RZ (NT (SQ (RG ?_)))
  refine RR [] (.d (.d (.d .a))) (.i 9 (.bool (decide ((↑x.fields.length : Int) ≥ (1 : Int)))) .a) .a ?_
  refine SR 9 (decide ((↑x.fields.length : Int) ≥ (1 : Int))) false (decide_eq_false (by omega)) ?_
  refine RR [] .z (.d (.d (.d (.k .z)))) .a ?_
  refine RZ (NT (RE ?_))
  refine NE [] .z .a [] (.bool false) ?_
  exact ⟨rfl, rfl⟩
 rw [Decidable.not_not] at k0
 by_cases k1 : ¬ x.fields.length ≤ 8
 ·rw [show shapeB x.p = false from by unfold shapeB ShV.p; dsimp only; rw [decide_eq_false k1]; simp]
  refine fn_enter Tryz.func89 rfl 18 rfl fun w0 h0 => ?_
  refine SQ (RG ?_)
  refine RP [] (.d .a) 1 .z .a 111 [.string (mkS x.name), .slice x.fa x.fields.length x.fc] fun g1 => ?_
  refine RR [] .z (.i 2 (.bool false) .a) .a ?_
  refine RZ (NT (SQ (RG ?_)))
  refine RR [2] .z (.i 3 (.int .i64 (↑x.fields.length : Int)) .a) .a ?_
  refine RZ (NT (SQ (RG ?_)))
  refine RR [] (.d (.d (.d .a))) (.i 9 (.bool (decide ((↑x.fields.length : Int) ≥ (1 : Int)))) .a) .a ?_
  refine SR 9 (decide ((↑x.fields.length : Int) ≥ (1 : Int))) true (decide_eq_true (by omega)) ?_
  refine RR [] (.d (.d (.d (.d .a)))) (.i 13 (.bool (decide ((↑x.fields.length : Int) ≤ (8 : Int)))) (.d (.d (.d (.k .a))))) .a ?_
  refine SR 13 (decide ((↑x.fields.length : Int) ≤ (8 : Int))) false (decide_eq_false (by omega)) ?_
  refine RR [] .z (.d (.d (.k .z))) .a ?_
  refine RZ (NT (RE ?_))
  refine NE [] .z .a [] (.bool false) ?_
  exact ⟨rfl, rfl⟩
 rw [Decidable.not_not] at k1
 rw [show shapeB x.p = namesB x.fields from by unfold shapeB ShV.p; dsimp only; rw [decide_eq_true k0, decide_eq_true k1]; rfl]
 refine fn_enter Tryz.func89 rfl 18 rfl fun w0 h0 => ?_
 refine SQ (RG ?_)
 refine RP [] (.d .a) 1 .z .a 111 [.string (mkS x.name), .slice x.fa x.fields.length x.fc] fun g1 => ?_
 refine RR [] .z (.i 2 (.bool false) .a) .a ?_
 refine RZ (NT (SQ (RG ?_)))
 refine RR [2] .z (.i 3 (.int .i64 (↑x.fields.length : Int)) .a) .a ?_
 refine RZ (NT (SQ (RG ?_)))
 refine RR [] (.d (.d (.d .a))) (.i 9 (.bool (decide ((↑x.fields.length : Int) ≥ (1 : Int)))) .a) .a ?_
 refine SR 9 (decide ((↑x.fields.length : Int) ≥ (1 : Int))) true (decide_eq_true (by omega)) ?_
 refine RR [] (.d (.d (.d (.d .a)))) (.i 13 (.bool (decide ((↑x.fields.length : Int) ≤ (8 : Int)))) (.d (.d (.d (.k .a))))) .a ?_
 refine SR 13 (decide ((↑x.fields.length : Int) ≤ (8 : Int))) true (decide_eq_true (by omega)) ?_
 refine RR [2] (.d (.d .a)) (.i 15 (.slice x.fa x.fields.length x.fc) (.k (.d (.k .z)))) .a ?_
 refine RCG (dst := some 16) .a (hap) (GV (GV (GI []) 1 view_ro) 0 view_ro) ?_
 rintro v _ ⟨rfl, rfl⟩
 refine RR [] .z (.i 2 (.bool (namesB x.fields)) .z) .a ?_
 refine RZ (NT (RE ?_))
 refine NE [] .z .a [] (.bool (namesB x.fields)) ?_
 exact ⟨rfl, rfl⟩
def coHp (c : CoV) : Hp := [ro c.sa (strsC c.strs), ro c.ha (c.shapes.flatMap shC), gSh c.shapes, ro c.ua (c.units.flatMap unC), gUn c.units]
theorem formB_f1 {c : CodeP} (h : headC c = false) : rightC c = false := by unfold rightC formB; rw [h]; rfl
theorem formB_f2 {c : CodeP} (h : c.strs.all plainB = false) : rightC c = false := by unfold rightC formB; rw [h]; simp
theorem formB_f3 {c : CodeP} (h : c.shapes.all shapeB = false) : rightC c = false := by unfold rightC formB; rw [h]; simp
theorem formB_f4 {c : CodeP} (h : namesB (c.shapes.map (·.1)) = false) : rightC c = false := by unfold rightC formB; rw [h]; simp
theorem formB_f5 {c : CodeP} (h : namesB (c.units.map (·.name)) = false) : rightC c = false := by unfold rightC formB; rw [h]; simp
theorem formB_f6 {c : CodeP} (h : mainB c = false) : rightC c = false := by unfold rightC formB; rw [h]; simp
theorem formB_f7 {c : CodeP} (h : c.units.all (unitB c) = false) : rightC c = false := by unfold rightC formB; rw [h]; simp
theorem all_f {α : Type} {p : α → Bool} {l : List α} {i : Nat} (h : i < l.length) (hp : p l[i] = false) : l.all p = false := by
 cases h2 : l.all p with
 | false => rfl
 | true => rw [List.all_eq_true.1 h2 _ (List.getElem_mem h)] at hp; cases hp
theorem all_t {α : Type} {p : α → Bool} {l : List α} (h : ∀ j, (hj : j < l.length) → p l[j] = true) : l.all p = true := List.all_eq_true.2 fun x hx => by
 obtain ⟨j, hj⟩ := List.getElem?_of_mem hx
 obtain ⟨hj1, rfl⟩ := List.getElem?_eq_some_iff.1 hj
 exact h j hj1
theorem all_next {α : Type} {p : α → Bool} {l : List α} {i : Nat} (hlt : i < l.length) (hall : ∀ j, (hj : j < l.length) → j < i → p l[j] = true) (h : p l[i] = true) : ∀ j, (hj : j < l.length) → j < i + 1 → p l[j] = true := fun j hj hji => by
 rcases Nat.lt_or_ge j i with h1 | h1
 ·exact hall j hj h1
 ·obtain rfl : j = i := by omega
  exact h
set_option maxHeartbeats 8000000 in
theorem right_spec (c : CoV) (hc : c.ok) : Does Tryz.prog 39 [.agg (coC c).toArray] (coHp c ++ [gWords]) (fun v hp' => v = .bool (rightC c.p) ∧ hp' = []) := by
 obtain ⟨hs1, hs2, hh1, hh2, hu1, hu2, hmr⟩ := hc
 have hCo : coC c = [.slice c.sa c.strs.length c.sc, .slice c.ha c.shapes.length c.hc, .slice c.ua c.units.length c.uc, .int .i64 c.main] := rfl
 have hbad : ¬ (c.strs.length ≤ 1024 ∧ c.shapes.length ≤ 16 ∧ c.units.length ≤ 32 ∧ 0 ≤ c.main ∧ c.main < c.units.length) → rightC c.p = false := fun h => formB_f1 (by
  cases h2 : headC c.p with
  | false => rfl
  | true =>
   have h3 := (headC_iff c.p).1 h2
   have h4 : (c.shapes.map ShV.p).length ≤ 16 := h3.2.1
   have h5 : (c.units.map UnV.p).length ≤ 32 := h3.2.2.1
   have h6 : c.main < ((c.units.map UnV.p).length : Int) := h3.2.2.2.2
   rw [List.length_map] at h4 h5 h6
   exact absurd ⟨h3.1, h4, h5, h3.2.2.2.1, h6⟩ h)
 unfold coHp
 rw [hCo]
 refine fn_enter Tryz.func39 rfl 112 rfl fun w0 h0 => ?_
 refine SQ (RG ?_)
 refine RP [] (.d .a) 1 .z .a 26 [.slice c.sa c.strs.length c.sc, .slice c.ha c.shapes.length c.hc, .slice c.ua c.units.length c.uc, .int .i64 c.main] fun g1 => ?_
 refine RR [] .z (.i 2 (.bool false) .a) .a ?_
 refine RZ (NT (SQ (SQ (RG ?_))))
 refine RR [6] (.d (.d (.d (.d (.d .a))))) (.i 18 (.bool (decide ((↑c.strs.length : Int) > (1024 : Int)))) .a) .a ?_
 by_cases k0 : ¬ c.strs.length ≤ 1024
 ·rw [hbad (fun h => k0 h.1)]
  refine SR 18 (decide ((↑c.strs.length : Int) > (1024 : Int))) true (decide_eq_true (by omega)) ?_
  refine RR [] .z (.i 38 (.bool true) (.d (.d (.k .a)))) .a ?_
  refine RZ (NT (CT (SQ (RG ?_))))
  refine RR [] .z (.d (.k .a)) .a ?_
  refine RZ (NT (RE (TR ?_)))
  refine NE [] .z .a [] (.bool false) ?_
  exact ⟨rfl, rfl⟩
 rw [Decidable.not_not] at k0
 refine SR 18 (decide ((↑c.strs.length : Int) > (1024 : Int))) false (decide_eq_false (by omega)) ?_
 refine RR [6] (.d (.d (.d (.d (.d (.d .a)))))) (.i 24 (.bool (decide ((↑c.shapes.length : Int) > (16 : Int)))) (.d (.d (.k .a)))) .a ?_
 by_cases k1 : ¬ c.shapes.length ≤ 16
 ·rw [hbad (fun h => k1 h.2.1)]
  refine SR 24 (decide ((↑c.shapes.length : Int) > (16 : Int))) true (decide_eq_true (by omega)) ?_
  refine RR [] .z (.i 38 (.bool true) (.d (.d (.k .a)))) .a ?_
  refine RZ (NT (CT (SQ (RG ?_))))
  refine RR [] .z (.d (.k .a)) .a ?_
  refine RZ (NT (RE (TR ?_)))
  refine NE [] .z .a [] (.bool false) ?_
  exact ⟨rfl, rfl⟩
 rw [Decidable.not_not] at k1
 refine SR 24 (decide ((↑c.shapes.length : Int) > (16 : Int))) false (decide_eq_false (by omega)) ?_
 refine RR [6] (.d (.d (.d (.d (.d (.d .a)))))) (.i 30 (.bool (decide ((↑c.units.length : Int) > (32 : Int)))) (.d (.d (.k .a)))) .a ?_
 by_cases k2 : ¬ c.units.length ≤ 32
 ·rw [hbad (fun h => k2 h.2.2.1)]
  refine SR 30 (decide ((↑c.units.length : Int) > (32 : Int))) true (decide_eq_true (by omega)) ?_
  refine RR [] .z (.i 38 (.bool true) (.d (.d (.k .a)))) .a ?_
  refine RZ (NT (CT (SQ (RG ?_))))
  refine RR [] .z (.d (.k .a)) .a ?_
  refine RZ (NT (RE (TR ?_)))
  refine NE [] .z .a [] (.bool false) ?_
  exact ⟨rfl, rfl⟩
 rw [Decidable.not_not] at k2
 refine SR 30 (decide ((↑c.units.length : Int) > (32 : Int))) false (decide_eq_false (by omega)) ?_
 refine RR [6, 6] (.d (.d (.d (.d (.d .a))))) (.i 35 (.int .i64 (↑c.units.length : Int)) (.i 32 (.int .i64 c.main) (.k (.d (.k .a))))) .a ?_
 refine RC (dst := some 36) [] .a (upto_spec c.main c.units.length) ?_
 rintro v _ ⟨rfl, rfl⟩
 cases k3 : uptoB c.main c.units.length with
 | false =>
  rw [hbad (fun h => by have := (uptoB_iff c.main c.units.length).2 h.2.2.2; rw [k3] at this; cases this)]
  refine RR [] .z (.i 38 (.bool true) (.d (.d (.d (.d (.k .a)))))) .a ?_
  refine RZ (NT (CT (SQ (RG ?_))))
  refine RR [] .z (.d (.k .a)) .a ?_
  refine RZ (NT (RE (TR ?_)))
  refine NE [] .z .a [] (.bool false) ?_
  exact ⟨rfl, rfl⟩
 | true =>
 obtain ⟨hm0, hm1⟩ := (uptoB_iff _ _).1 k3
 refine RR [] .z (.i 38 (.bool false) (.d (.d (.d (.d (.k .a)))))) .a ?_
 refine RZ (NT (CF (SK (NT (SQ (SQ (RG ?_)))))))
 refine RR [6] .z (.i 42 (.int .i64 0) (.i 41 (.int .i64 (↑c.strs.length : Int)) (.i 40 (.slice c.sa c.strs.length c.sc) (.d (.k .a))))) .a ?_
 refine RZ (NT (BK ?_))
 refine wpc_loop (X := {i : Nat // i ≤ c.strs.length ∧ ∀ j, (hj : j < c.strs.length) → j < i → plainB c.strs[j] = true}) (fun x => St.mk [(42, .int .i64 (x.1 : Int)), (41, .int .i64 c.strs.length), (40, .slice c.sa c.strs.length c.sc), (2, .bool false), (1, .pointer (some ⟨g1, 0, none⟩))]
  [ro c.sa (strsC c.strs), ro c.ha (c.shapes.flatMap shC), gSh c.shapes, ro c.ua (c.units.flatMap unC), gUn c.units, gWords, .blk g1 26 [.slice c.sa c.strs.length c.sc, .slice c.ha c.shapes.length c.hc, .slice c.ua c.units.length c.uc, .int .i64 c.main]]) (fun x => c.strs.length - x.1) ⟨0, Nat.zero_le _, fun j _ h => absurd h (Nat.not_lt_zero _)⟩ (ent_fr (by kernel_rfl)) ?_
 rintro ⟨i, hi, hall⟩
 dsimp only at hi hall ⊢
 by_cases hlt : i < c.strs.length
 ·have hts := hs2 _ (List.getElem_mem hlt)
  unfold okText at hts
  refine wpc_fact (fun w h => ro_addr h 0 rfl (by rw [strsC_len]; omega)) ?_
  rintro ⟨g0, o0, hsa⟩
  rw [hsa]
  refine SQ (RG ?_)
  refine RR [] .z (.i 43 (.bool (decide ((↑i : Int) < (↑c.strs.length : Int)))) .a) .a ?_
  refine RZ (NT (SQ ?_))
  refine SC 43 (decide ((↑i : Int) < (↑c.strs.length : Int))) true (decide_eq_true (by omega)) ?_
  refine CT (SK (NT (SQ (BK (SQ (RG ?_))))))
  refine RV true [] (.d .a) (.i 44 (.pointer (some ⟨g0, o0 + i * 1, none⟩)) (.d (.d (.k .a)))) .a [(0 : Int) ≤ (↑i : Int) ∧ (↑i : Int) < (↑c.strs.length : Int)] ⟨by omega, trivial⟩ ?_
  refine wpr_eq (ld (t := 9) (a := ⟨g0, o0 + i * 1, none⟩) (dst := some 45) (by kernel_rfl) false 1 (by kernel_rfl) (by simp) [.string (mkS c.strs[i])] rfl (fun w h => ld_ro h 0 rfl (i * 1) (strs_at hlt))) ?_
  refine RR [] .z (.i 4 (.string (mkS c.strs[i])) (.d (.d (.k .a)))) .a ?_
  refine RZ (NT (SQ (RG ?_)))
  refine RR [] (.d .a) (.i 46 (.string (mkS c.strs[i])) (.d (.k .a))) .a ?_
  refine RC (dst := some 47) [] .a (cplain_spec c.strs[i] hts) ?_
  rintro v _ ⟨rfl, rfl⟩
  cases hb : plainB c.strs[i] with
  | false =>
   rw [formB_f2 (c := c.p) (all_f (l := c.strs) hlt hb)]
   refine RR [] .z (.i 48 (.bool true) (.d (.d (.k .a)))) .a ?_
   refine RZ (NT (CT (SQ (RG ?_))))
   refine RR [] .z (.i 2 (.bool false) (.d (.k (.k (.k (.d (.k .a))))))) .a ?_
   refine RZ (NT (RE (BR (TR (TR (BR (TR ?_)))))))
   refine NE [] .z .a [] (.bool false) ?_
   exact ⟨rfl, rfl⟩
  | true =>
   refine RR [] .z (.i 48 (.bool false) (.d (.d (.k .a)))) .a ?_
   refine RZ (NT (CF (SK (BN (NT (RG ?_))))))
   refine RV true [] .z (.i 42 (.int .i64 ((↑i : Int) + 1)) (.d (.d (.k .a)))) .a ([inI64 ((↑i : Int) + (1 : Int))]) ⟨by unfold inI64; omega, trivial⟩ ?_
   refine RZ ?_
   rw [← hsa]
   exact fun a' w' hS' => ⟨⟨i + 1, hlt, all_next (p := plainB) hlt hall hb⟩, by dsimp only; omega, ent_fr (by kernel_rfl) _ _ (ent_hp [0, 0, 0, 0, 0, 0, 0] rfl _ _ hS')⟩
 obtain rfl : i = c.strs.length := by omega
 have hA1 : c.p.strs.all plainB = true := all_t fun j hj => hall j hj hj
 clear hall
 refine SQ (RG ?_)
 refine RR [] .z (.i 43 (.bool (decide ((↑c.strs.length : Int) < (↑c.strs.length : Int)))) .a) .a ?_
 refine RZ (NT (SQ ?_))
 refine SC 43 (decide ((↑c.strs.length : Int) < (↑c.strs.length : Int))) false (by simp) ?_
 refine CF (EX (TE (TE (BH (NT (SQ (SQ (RG ?_))))))))
 refine RR [6] .z (.i 53 (.int .i64 0) (.i 52 (.int .i64 (↑c.shapes.length : Int)) (.i 51 (.slice c.ha c.shapes.length c.hc) (.d (.d (.d (.d (.d (.k .a))))))))) .a ?_
 refine RZ (NT (BK ?_))
 refine wpc_loop (X := {i : Nat // i ≤ c.shapes.length ∧ ∀ j, (hj : j < c.shapes.length) → j < i → shapeB c.shapes[j].p = true}) (fun x => St.mk [(53, .int .i64 (x.1 : Int)), (52, .int .i64 c.shapes.length), (51, .slice c.ha c.shapes.length c.hc), (2, .bool false), (1, .pointer (some ⟨g1, 0, none⟩))]
  [ro c.sa (strsC c.strs), ro c.ha (c.shapes.flatMap shC), gSh c.shapes, ro c.ua (c.units.flatMap unC), gUn c.units, gWords, .blk g1 26 [.slice c.sa c.strs.length c.sc, .slice c.ha c.shapes.length c.hc, .slice c.ua c.units.length c.uc, .int .i64 c.main]]) (fun x => c.shapes.length - x.1) ⟨0, Nat.zero_le _, fun j _ h => absurd h (Nat.not_lt_zero _)⟩ (ent_fr (by kernel_rfl)) ?_
 rintro ⟨i, hi, hall⟩
 dsimp only at hi hall ⊢
 by_cases hlt : i < c.shapes.length
 ·have hsh := shape_spec c.shapes[i] (hh2 _ (List.getElem_mem hlt))
  unfold shC at hsh
  refine wpc_fact (fun w h => ro_addr h 1 rfl (by rw [shs_len]; omega)) ?_
  rintro ⟨g0, o0, hha⟩
  rw [hha]
  refine SQ (RG ?_)
  refine RR [] .z (.i 54 (.bool (decide ((↑i : Int) < (↑c.shapes.length : Int)))) .a) .a ?_
  refine RZ (NT (SQ ?_))
  refine SC 54 (decide ((↑i : Int) < (↑c.shapes.length : Int))) true (decide_eq_true (by omega)) ?_
  refine CT (SK (NT (SQ (BK (SQ (RG ?_))))))
  refine RV true [] (.d .a) (.i 55 (.pointer (some ⟨g0, o0 + i * 2, none⟩)) (.d (.d (.k .a)))) .a [(0 : Int) ≤ (↑i : Int) ∧ (↑i : Int) < (↑c.shapes.length : Int)] ⟨by omega, trivial⟩ ?_
  refine wpr_eq (ld (t := 111) (a := ⟨g0, o0 + i * 2, none⟩) (dst := some 56) (by kernel_rfl) true 2 (by kernel_rfl) (by simp) (shC c.shapes[i]) rfl (fun w h => ld_ro h 1 rfl (i * 2) (shs_at hlt))) ?_
  refine RP [] (.d .a) 6 (.i 56 (.agg #[.string (mkS c.shapes[i].name), .slice c.shapes[i].fa c.shapes[i].fields.length c.shapes[i].fc]) (.d (.d (.k .a)))) .a 111 [.string ⟨#[]⟩, .slice none 0 0] fun g2 => ?_
  refine RR [7, 7] .z (.k (.d (.k .a))) (.k (.k (.k (.k (.k (.k (.k (.u (.i (.string (mkS c.shapes[i].name)) (.i (.slice c.shapes[i].fa c.shapes[i].fields.length c.shapes[i].fc) .z)) .a)))))))) ?_
  refine RZ (NT (SQ (RG ?_)))
  refine RR [7, 7] (.d .a) (.i 57 (.agg #[.string (mkS c.shapes[i].name), .slice c.shapes[i].fa c.shapes[i].fields.length c.shapes[i].fc]) (.d (.k .a))) .a ?_
  refine wpr_ent (ent_copy 2 (ro c.shapes[i].fa (strsC c.shapes[i].fields)) rfl (fun h => h) (view_in (shRo_in hlt) view_ro)) ?_
  refine RCG (dst := some 58) .a (hsh) (GV (GV (GI []) 6 view_ro) 0 view_ro) ?_
  rintro v _ ⟨rfl, rfl⟩
  cases hb : shapeB c.shapes[i].p with
  | false =>
   rw [formB_f3 (c := c.p) (all_f (l := c.shapes.map ShV.p) (i := i) (by rw [List.length_map]; exact hlt) (by rw [List.getElem_map]; exact hb))]
   refine RR [] .z (.i 59 (.bool true) (.d (.d (.k .a)))) .a ?_
   refine RZ (NT (CT (SQ (RG ?_))))
   refine RR [] .z (.i 2 (.bool false) (.d (.k (.k (.k (.d (.k .a))))))) .a ?_
   refine RZ (NT (RE (BR (TR (TR (BR (TR ?_)))))))
   refine NE [] .z .a [] (.bool false) ?_
   exact ⟨rfl, rfl⟩
  | true =>
   refine RR [] .z (.i 59 (.bool false) (.d (.d (.k .a)))) .a ?_
   refine RZ (NT (CF (SK (BN (NT (RG ?_))))))
   refine RV true [] .z (.i 53 (.int .i64 ((↑i : Int) + 1)) (.d (.d (.k .a)))) .a ([inI64 ((↑i : Int) + (1 : Int))]) ⟨by unfold inI64; omega, trivial⟩ ?_
   refine RZ ?_
   rw [← hha]
   exact fun a' w' hS' => ⟨⟨i + 1, hlt, all_next (p := fun x : ShV => shapeB x.p) hlt hall hb⟩, by dsimp only; omega, ent_fr (by kernel_rfl) _ _ (ent_hp [1, 1, 1, 1, 1, 1, 1] rfl _ _ hS')⟩
 obtain rfl : i = c.shapes.length := by omega
 have hA2 : c.p.shapes.all shapeB = true := all_t (l := c.shapes.map ShV.p) fun j hj => by rw [List.length_map] at hj; rw [List.getElem_map]; exact hall j hj hj
 clear hall
 refine SQ (RG ?_)
 refine RR [] .z (.i 54 (.bool (decide ((↑c.shapes.length : Int) < (↑c.shapes.length : Int)))) .a) .a ?_
 refine RZ (NT (SQ ?_))
 refine SC 54 (decide ((↑c.shapes.length : Int) < (↑c.shapes.length : Int))) false (by simp) ?_
 refine CF (EX (TE (TE (BH (NT (SQ (SQ (RG ?_))))))))
 refine RR [6] (.d (.d .a)) (.i 62 (.slice c.ha c.shapes.length c.hc) (.d (.d (.d (.d (.d (.k .a))))))) .a ?_
 refine RCG (dst := some 63) .a (apartS_spec c.ha c.hc c.shapes hh1 (fun x hx => (hh2 x hx).1)) (GV (GV (GI []) 5 view_ro) 1 view_ro) ?_
 rintro v _ ⟨rfl, rfl⟩
 have eN1 : c.p.shapes.map (·.1) = c.shapes.map ShV.name := by show (c.shapes.map ShV.p).map (·.1) = _; rw [List.map_map]; rfl
 have eN2 : c.p.units.map (·.name) = c.units.map UnV.name := by show (c.units.map UnV.p).map (·.name) = _; rw [List.map_map]; rfl
 cases hN1 : namesB (c.shapes.map ShV.name) with
 | false =>
  rw [formB_f4 (c := c.p) (by rw [eN1]; exact hN1)]
  refine RR [] .z (.i 70 (.bool true) (.d (.d (.k .a)))) .a ?_
  refine RZ (NT (CT (SQ (RG ?_))))
  refine RR [] .z (.d (.k .a)) .a ?_
  refine RZ (NT (RE (TR ?_)))
  refine NE [] .z .a [] (.bool false) ?_
  exact ⟨rfl, rfl⟩
 | true =>
 refine RR [6] (.d (.d (.d (.d .a)))) (.i 67 (.slice c.ua c.units.length c.uc) (.i 65 (.bool false) (.d (.d (.k .a))))) .a ?_
 refine RCG (dst := some 68) .a (apartU_spec c.ua c.uc c.units hu1 (fun x hx => (hu2 x hx).1)) (GV (GV (GI []) 5 view_ro) 3 view_ro) ?_
 rintro v _ ⟨rfl, rfl⟩
 cases hN2 : namesB (c.units.map UnV.name) with
 | false =>
  rw [formB_f5 (c := c.p) (by rw [eN2]; exact hN2)]
  refine RR [] .z (.i 70 (.bool true) (.d (.d (.d (.k .a))))) .a ?_
  refine RZ (NT (CT (SQ (RG ?_))))
  refine RR [] .z (.d (.k .a)) .a ?_
  refine RZ (NT (RE (TR ?_)))
  refine NE [] .z .a [] (.bool false) ?_
  exact ⟨rfl, rfl⟩
 | true =>
 obtain ⟨mn, hmn⟩ := Int.eq_ofNat_of_zero_le hm0
 have hmlt : mn < c.units.length := by omega
 have eM : mainB c.p = (decide (c.units[mn].params = 0) && !c.units[mn].result) := by
  unfold mainB
  have e : c.p.units[c.p.main.toNat]? = some c.units[mn].p := by
   show (c.units.map UnV.p)[c.main.toNat]? = _
   rw [hmn, Int.toNat_natCast, List.getElem?_map, List.getElem?_eq_getElem hmlt]; rfl
  rw [e]; rfl
 refine wpr_fact (fun w h => ro_addr h 3 rfl (by rw [uns_len]; omega)) ?_
 rintro ⟨g0, o0, hua⟩
 rw [hua, hmn]
 refine RR [] .z (.i 70 (.bool false) (.d (.d (.d (.k .a))))) .a ?_
 refine RZ (NT (CF (SK (NT (SQ (RG ?_))))))
 refine RV true [6, 6] (.d (.d (.d (.d (.d .a))))) (.i 75 (.pointer (some ⟨g0, o0 + mn * 7, none⟩)) (.d (.k .a))) .a [(0 : Int) ≤ (↑mn : Int) ∧ (↑mn : Int) < (↑c.units.length : Int)] ⟨by omega, trivial⟩ ?_
 refine wpr_eq (ld (t := 59) (a := ⟨g0, o0 + mn * 7, none⟩) (dst := some 76) (by kernel_rfl) true 7 (by kernel_rfl) (by simp) (unC c.units[mn]) rfl (fun w h => ld_ro h 3 rfl (mn * 7) (uns_at hmlt))) ?_
 refine RP [] (.d .a) 7 (.i 76 (.agg #[.string (mkS c.units[mn].name), .int .i64 c.units[mn].params, .int .i64 c.units[mn].slots, .int .i64 c.units[mn].stack, .bool c.units[mn].result, .slice c.units[mn].ia c.units[mn].ins.length c.units[mn].ic, .slice c.units[mn].va c.units[mn].vars.length c.units[mn].vc]) (.d (.d (.k .a)))) .a 59 [.string ⟨#[]⟩, .int .i64 0, .int .i64 0, .int .i64 0, .bool false, .slice none 0 0, .slice none 0 0] fun g2 => ?_
 refine RR [7, 7, 7, 7, 7, 7, 7] .z (.k (.d (.k .a))) (.k (.k (.k (.k (.k (.k (.k (.u (.i (.string (mkS c.units[mn].name)) (.i (.int .i64 c.units[mn].params) (.i (.int .i64 c.units[mn].slots) (.i (.int .i64 c.units[mn].stack) (.i (.bool c.units[mn].result) (.i (.slice c.units[mn].ia c.units[mn].ins.length c.units[mn].ic) (.i (.slice c.units[mn].va c.units[mn].vars.length c.units[mn].vc) .z))))))) .a)))))))) ?_
 refine RZ (NT (SQ (SQ (RG ?_))))
 refine RR [7] (.d (.d (.d (.d .a)))) (.i 80 (.bool (c.units[mn].params != (0 : Int))) .a) .a ?_
 by_cases kP : ¬ c.units[mn].params = 0
 ·rw [formB_f6 (c := c.p) (by rw [eM, decide_eq_false kP]; rfl)]
  refine SR 80 (c.units[mn].params != (0 : Int)) true (by simp only [bne_iff_ne, beq_iff_eq, ne_eq]; omega) ?_
  refine RR [] .z (.i 83 (.bool true) (.d (.d (.d (.k .a))))) .a ?_
  refine RZ (NT (CT (SQ (RG ?_))))
  refine RR [] .z (.d (.k .a)) .a ?_
  refine RZ (NT (RE (TR ?_)))
  refine NE [] .z .a [] (.bool false) ?_
  exact ⟨rfl, rfl⟩
 rw [Decidable.not_not] at kP
 refine SR 80 (c.units[mn].params != (0 : Int)) false (by simp only [bne_eq_false_iff_eq, beq_eq_false_iff_ne, ne_eq]; omega) ?_
 refine RR [7] .z (.i 83 (.bool c.units[mn].result) (.d (.d (.d (.k .a))))) .a ?_
 refine RZ (NT ?_)
 cases hr : c.units[mn].result with
 | true =>
  rw [formB_f6 (c := c.p) (by rw [eM, hr]; simp)]
  refine CT (SQ (RG ?_))
  refine RR [] .z (.d (.k .a)) .a ?_
  refine RZ (NT (RE (TR ?_)))
  refine NE [] .z .a [] (.bool false) ?_
  exact ⟨rfl, rfl⟩
 | false =>
 have hA3 : mainB c.p = true := by rw [eM, hr, decide_eq_true kP]; rfl
 rw [← hua, ← hmn]
 refine CF (SK (NT (SQ (SQ (RG ?_)))))
 refine RR [6] .z (.i 87 (.int .i64 0) (.i 86 (.int .i64 (↑c.units.length : Int)) (.i 85 (.slice c.ua c.units.length c.uc) (.d (.k .a))))) .a ?_
 refine RZ (NT (BK ?_))
 refine wpc_loop (X := {i : Nat // i ≤ c.units.length ∧ ∀ j, (hj : j < c.units.length) → j < i → unitB c.p c.units[j].p = true}) (fun x => St.mk [(87, .int .i64 (x.1 : Int)), (86, .int .i64 c.units.length), (85, .slice c.ua c.units.length c.uc), (2, .bool false), (1, .pointer (some ⟨g1, 0, none⟩))]
  [ro c.sa (strsC c.strs), ro c.ha (c.shapes.flatMap shC), gSh c.shapes, ro c.ua (c.units.flatMap unC), gUn c.units, gWords, .blk g1 26 [.slice c.sa c.strs.length c.sc, .slice c.ha c.shapes.length c.hc, .slice c.ua c.units.length c.uc, .int .i64 c.main]]) (fun x => c.units.length - x.1) ⟨0, Nat.zero_le _, fun j _ h => absurd h (Nat.not_lt_zero _)⟩ (Ent.trans (ent_hp [0, 0, 0, 0, 0, 0, 0] rfl) (ent_fr (by kernel_rfl))) ?_
 rintro ⟨i, hi, hall⟩
 dsimp only at hi hall ⊢
 by_cases hlt : i < c.units.length
 ·have hun := unit_spec c c.units[i] (hu2 _ (List.getElem_mem hlt))
  rw [hCo] at hun
  unfold unC at hun
  refine wpc_fact (fun w h => ro_addr h 3 rfl (by rw [uns_len]; omega)) ?_
  rintro ⟨g0, o0, hua⟩
  rw [hua] at hun ⊢
  refine SQ (RG ?_)
  refine RR [] .z (.i 88 (.bool (decide ((↑i : Int) < (↑c.units.length : Int)))) .a) .a ?_
  refine RZ (NT (SQ ?_))
  refine SC 88 (decide ((↑i : Int) < (↑c.units.length : Int))) true (decide_eq_true (by omega)) ?_
  refine CT (SK (NT (SQ (BK (SQ (RG ?_))))))
  refine RV true [] (.d .a) (.i 89 (.pointer (some ⟨g0, o0 + i * 7, none⟩)) (.d (.d (.k .a)))) .a [(0 : Int) ≤ (↑i : Int) ∧ (↑i : Int) < (↑c.units.length : Int)] ⟨by omega, trivial⟩ ?_
  refine wpr_eq (ld (t := 59) (a := ⟨g0, o0 + i * 7, none⟩) (dst := some 90) (by kernel_rfl) true 7 (by kernel_rfl) (by simp) (unC c.units[i]) rfl (fun w h => ld_ro h 3 rfl (i * 7) (uns_at hlt))) ?_
  refine RP [] (.d .a) 9 (.i 90 (.agg #[.string (mkS c.units[i].name), .int .i64 c.units[i].params, .int .i64 c.units[i].slots, .int .i64 c.units[i].stack, .bool c.units[i].result, .slice c.units[i].ia c.units[i].ins.length c.units[i].ic, .slice c.units[i].va c.units[i].vars.length c.units[i].vc]) (.d (.d (.k .a)))) .a 59 [.string ⟨#[]⟩, .int .i64 0, .int .i64 0, .int .i64 0, .bool false, .slice none 0 0, .slice none 0 0] fun g3 => ?_
  refine RR [7, 7, 7, 7, 7, 7, 7] .z (.k (.d (.k .a))) (.k (.k (.k (.k (.k (.k (.k (.u (.i (.string (mkS c.units[i].name)) (.i (.int .i64 c.units[i].params) (.i (.int .i64 c.units[i].slots) (.i (.int .i64 c.units[i].stack) (.i (.bool c.units[i].result) (.i (.slice c.units[i].ia c.units[i].ins.length c.units[i].ic) (.i (.slice c.units[i].va c.units[i].vars.length c.units[i].vc) .z))))))) .a)))))))) ?_
  refine RZ (NT (SQ (RG ?_)))
  refine RR [6, 6, 6, 6, 7, 7, 7, 7, 7, 7, 7] (.d (.d .a)) (.i 92 (.agg #[.string (mkS c.units[i].name), .int .i64 c.units[i].params, .int .i64 c.units[i].slots, .int .i64 c.units[i].stack, .bool c.units[i].result, .slice c.units[i].ia c.units[i].ins.length c.units[i].ic, .slice c.units[i].va c.units[i].vars.length c.units[i].vc]) (.i 91 (.agg #[.slice c.sa c.strs.length c.sc, .slice c.ha c.shapes.length c.hc, .slice (some ⟨g0, o0, none⟩) c.units.length c.uc, .int .i64 c.main]) (.d (.k .a)))) .a ?_
  refine wpr_ent (ent_copy 4 (ro c.units[i].ia (c.units[i].ins.flatMap insC)) rfl (fun h => h) (view_in (unRo_in1 hlt) view_ro)) ?_
  refine wpr_ent (ent_copy 5 (ro c.units[i].va (c.units[i].vars.flatMap varC)) rfl (fun h => h) (view_in (unRo_in2 hlt) view_ro)) ?_
  refine RCG (dst := some 93) .a (hun) (GV (GV (GV (GI []) 7 view_ro) 0 view_ro) 1 view_ro) ?_
  rintro v _ ⟨rfl, rfl⟩
  cases hb : unitB c.p c.units[i].p with
  | false =>
   rw [formB_f7 (c := c.p) (all_f (l := c.units.map UnV.p) (i := i) (by rw [List.length_map]; exact hlt) (by rw [List.getElem_map]; exact hb))]
   refine RR [] .z (.i 94 (.bool true) (.d (.d (.d (.k .a))))) .a ?_
   refine RZ (NT (CT (SQ (RG ?_))))
   refine RR [] .z (.i 2 (.bool false) (.d (.k (.k (.k (.d (.k .a))))))) .a ?_
   refine RZ (NT (RE (BR (TR (TR (BR (TR ?_)))))))
   refine NE [] .z .a [] (.bool false) ?_
   exact ⟨rfl, rfl⟩
  | true =>
   refine RR [] .z (.i 94 (.bool false) (.d (.d (.d (.k .a))))) .a ?_
   refine RZ (NT (CF (SK (BN (NT (RG ?_))))))
   refine RV true [] .z (.i 87 (.int .i64 ((↑i : Int) + 1)) (.d (.d (.k .a)))) .a ([inI64 ((↑i : Int) + (1 : Int))]) ⟨by unfold inI64; omega, trivial⟩ ?_
   refine RZ ?_
   rw [← hua]
   exact fun a' w' hS' => ⟨⟨i + 1, hlt, all_next (p := fun x : UnV => unitB c.p x.p) hlt hall hb⟩, by dsimp only; omega, ent_fr (by kernel_rfl) _ _ (ent_hp [2, 2, 2, 2, 2, 2, 2] rfl _ _ hS')⟩
 obtain rfl : i = c.units.length := by omega
 have hA4 : c.p.units.all (unitB c.p) = true := all_t (l := c.units.map UnV.p) fun j hj => by rw [List.length_map] at hj; rw [List.getElem_map]; exact hall j hj hj
 have hUall : ∀ j, (hj : j < c.units.length) → unitB c.p c.units[j].p = true := fun j hj => hall j hj hj
 clear hall
 have hpu : ∀ y ∈ c.units, 0 ≤ y.params ∧ y.params ≤ 8 := fun y hy => by
  obtain ⟨j, hj⟩ := List.getElem?_of_mem hy
  obtain ⟨hj1, rfl⟩ := List.getElem?_eq_some_iff.1 hj
  have := unitB_head (hUall j hj1)
  exact ⟨this.1, this.2.1⟩
 have hform : formB c.p = true := by
  have h1 : headC c.p = true := (headC_iff c.p).2 ⟨k0, by show (c.shapes.map ShV.p).length ≤ 16; rw [List.length_map]; exact k1, by show (c.units.map UnV.p).length ≤ 32; rw [List.length_map]; exact k2, hm0, by show c.main < ((c.units.map UnV.p).length : Int); rw [List.length_map]; exact hm1⟩
  unfold formB
  rw [h1, hA1, hA2, eN1, hN1, eN2, hN2, hA3, hA4]; rfl
 have hR : rightC c.p = c.p.units.all (fun u => fineB (gr c.p u)) := by unfold rightC; rw [hform]; rfl
 rw [hR]
 refine SQ (RG ?_)
 refine RR [] .z (.i 88 (.bool (decide ((↑c.units.length : Int) < (↑c.units.length : Int)))) .a) .a ?_
 refine RZ (NT (SQ ?_))
 refine SC 88 (decide ((↑c.units.length : Int) < (↑c.units.length : Int))) false (by simp) ?_
 refine CF (EX (TE (TE (BH (NT (SQ (SQ (RG ?_))))))))
 refine RR [6] .z (.i 99 (.int .i64 0) (.i 98 (.int .i64 (↑c.units.length : Int)) (.i 97 (.slice c.ua c.units.length c.uc) (.d (.d (.d (.d (.d (.k .a))))))))) .a ?_
 refine RZ (NT (BK ?_))
 refine wpc_loop (X := {i : Nat // i ≤ c.units.length ∧ ∀ j, (hj : j < c.units.length) → j < i → fineB (gr c.p c.units[j].p) = true}) (fun x => St.mk [(99, .int .i64 (x.1 : Int)), (98, .int .i64 c.units.length), (97, .slice c.ua c.units.length c.uc), (2, .bool false), (1, .pointer (some ⟨g1, 0, none⟩))]
  [ro c.sa (strsC c.strs), ro c.ha (c.shapes.flatMap shC), gSh c.shapes, ro c.ua (c.units.flatMap unC), gUn c.units, gWords, .blk g1 26 [.slice c.sa c.strs.length c.sc, .slice c.ha c.shapes.length c.hc, .slice c.ua c.units.length c.uc, .int .i64 c.main]]) (fun x => c.units.length - x.1) ⟨0, Nat.zero_le _, fun j _ h => absurd h (Nat.not_lt_zero _)⟩ (ent_fr (by kernel_rfl)) ?_
 rintro ⟨i, hi, hall⟩
 dsimp only at hi hall ⊢
 by_cases hlt : i < c.units.length
 ·have hun := heights_spec c hu1 hh1 (fun s hs => (hh2 s hs).2.1) hpu c.units[i] (hUall i hlt)
  rw [hCo, show unC c.units[i] = [.string (mkS c.units[i].name), .int .i64 c.units[i].params, .int .i64 c.units[i].slots, .int .i64 c.units[i].stack, .bool c.units[i].result, .slice c.units[i].ia c.units[i].ins.length c.units[i].ic, .slice c.units[i].va c.units[i].vars.length c.units[i].vc] from rfl] at hun
  refine wpc_fact (fun w h => ro_addr h 3 rfl (by rw [uns_len]; omega)) ?_
  rintro ⟨g0, o0, hua⟩
  rw [hua] at hun ⊢
  refine SQ (RG ?_)
  refine RR [] .z (.i 100 (.bool (decide ((↑i : Int) < (↑c.units.length : Int)))) .a) .a ?_
  refine RZ (NT (SQ ?_))
  refine SC 100 (decide ((↑i : Int) < (↑c.units.length : Int))) true (decide_eq_true (by omega)) ?_
  refine CT (SK (NT (SQ (BK (SQ (RG ?_))))))
  refine RV true [] (.d .a) (.i 101 (.pointer (some ⟨g0, o0 + i * 7, none⟩)) (.d (.d (.k .a)))) .a [(0 : Int) ≤ (↑i : Int) ∧ (↑i : Int) < (↑c.units.length : Int)] ⟨by omega, trivial⟩ ?_
  refine wpr_eq (ld (t := 59) (a := ⟨g0, o0 + i * 7, none⟩) (dst := some 102) (by kernel_rfl) true 7 (by kernel_rfl) (by simp) (unC c.units[i]) rfl (fun w h => ld_ro h 3 rfl (i * 7) (uns_at hlt))) ?_
  refine RP [] (.d .a) 11 (.i 102 (.agg #[.string (mkS c.units[i].name), .int .i64 c.units[i].params, .int .i64 c.units[i].slots, .int .i64 c.units[i].stack, .bool c.units[i].result, .slice c.units[i].ia c.units[i].ins.length c.units[i].ic, .slice c.units[i].va c.units[i].vars.length c.units[i].vc]) (.d (.d (.k .a)))) .a 59 [.string ⟨#[]⟩, .int .i64 0, .int .i64 0, .int .i64 0, .bool false, .slice none 0 0, .slice none 0 0] fun g3 => ?_
  refine RR [7, 7, 7, 7, 7, 7, 7] .z (.k (.d (.k .a))) (.k (.k (.k (.k (.k (.k (.k (.u (.i (.string (mkS c.units[i].name)) (.i (.int .i64 c.units[i].params) (.i (.int .i64 c.units[i].slots) (.i (.int .i64 c.units[i].stack) (.i (.bool c.units[i].result) (.i (.slice c.units[i].ia c.units[i].ins.length c.units[i].ic) (.i (.slice c.units[i].va c.units[i].vars.length c.units[i].vc) .z))))))) .a)))))))) ?_
  refine RZ (NT (SQ (RG ?_)))
  refine RR [6, 6, 6, 6, 7, 7, 7, 7, 7, 7, 7] (.d (.d .a)) (.i 105 (.agg #[.string (mkS c.units[i].name), .int .i64 c.units[i].params, .int .i64 c.units[i].slots, .int .i64 c.units[i].stack, .bool c.units[i].result, .slice c.units[i].ia c.units[i].ins.length c.units[i].ic, .slice c.units[i].va c.units[i].vars.length c.units[i].vc]) (.i 104 (.agg #[.slice c.sa c.strs.length c.sc, .slice c.ha c.shapes.length c.hc, .slice (some ⟨g0, o0, none⟩) c.units.length c.uc, .int .i64 c.main]) (.d (.k .a)))) .a ?_
  refine wpr_ent (ent_copy 4 (ro c.units[i].ia (c.units[i].ins.flatMap insC)) rfl (fun h => h) (view_in (unRo_in1 hlt) view_ro)) ?_
  refine RCG (dst := some 106) .a (hun) (GV (GV (GV (GI []) 0 view_ro) 2 view_ro) 4 view_ro) ?_
  intro v hp' hv
  cases hb : fineB (gr c.p c.units[i].p) with
  | false =>
   rw [if_neg (by rw [hb]; decide)] at hv
   obtain ⟨rfl, rfl⟩ := hv
   rw [show c.p.units.all (fun u => fineB (gr c.p u)) = false from all_f (l := c.units.map UnV.p) (p := fun u => fineB (gr c.p u)) (i := i) (by rw [List.length_map]; exact hlt) (by rw [List.getElem_map]; exact hb)]
   refine RR [] .z (.i 13 (.bool false) (.d (.d (.d (.k .a))))) .a ?_
   refine RZ (NT (SQ (RG ?_)))
   refine RR [] .z (.i 110 (.bool true) (.d (.k .a))) .a ?_
   refine RZ (NT (CT (SQ (RG ?_))))
   refine RR [] .z (.i 2 (.bool false) (.d (.k (.k (.k (.d (.k .a))))))) .a ?_
   refine RZ (NT (RE (BR (TR (TR (BR (TR ?_)))))))
   refine NE [] .z .a [] (.bool false) ?_
   exact ⟨rfl, rfl⟩
  | true =>
   rw [if_pos hb] at hv
   obtain ⟨g5, l5, rfl, rfl, -⟩ := hv
   refine RR [] .z (.i 13 (.bool true) (.d (.d (.d (.k .a))))) .a ?_
   refine RZ (NT (SQ (RG ?_)))
   refine RR [] .z (.i 110 (.bool false) (.d (.k .a))) .a ?_
   refine RZ (NT (CF (SK (BN (NT (RG ?_))))))
   refine RV true [] .z (.i 99 (.int .i64 ((↑i : Int) + 1)) (.d (.d (.k .a)))) .a ([inI64 ((↑i : Int) + (1 : Int))]) ⟨by unfold inI64; omega, trivial⟩ ?_
   refine RZ ?_
   rw [← hua]
   exact fun a' w' hS' => ⟨⟨i + 1, hlt, all_next (p := fun x : UnV => fineB (gr c.p x.p)) hlt hall hb⟩, by dsimp only; omega, ent_fr (by kernel_rfl) _ _ (ent_hp [2, 2, 2, 2, 2, 2, 2] rfl _ _ hS')⟩
 obtain rfl : i = c.units.length := by omega
 rw [show c.p.units.all (fun u => fineB (gr c.p u)) = true from all_t (l := c.units.map UnV.p) (p := fun u => fineB (gr c.p u)) (fun j hj => by rw [List.length_map] at hj; rw [List.getElem_map]; exact hall j hj hj)]
 refine SQ (RG ?_)
 refine RR [] .z (.i 100 (.bool (decide ((↑c.units.length : Int) < (↑c.units.length : Int)))) .a) .a ?_
 refine RZ (NT (SQ ?_))
 refine SC 100 (decide ((↑c.units.length : Int) < (↑c.units.length : Int))) false (by simp) ?_
 refine CF (EX (TE (TE (BH (NT (SQ (RG ?_)))))))
 refine RR [] .z (.i 2 (.bool true) .z) .a ?_
 refine RZ (NT (RE ?_))
 refine NE [] .z .a [] (.bool true) ?_
 exact ⟨rfl, rfl⟩
end Go.Proofs.YtgcfomhlgipllaaGreatDoor
namespace Go.Proofs.YtgcfomhlgipllaaGreatDoor
open Go Go.Sx
theorem ccheck_spec (c : CoV) (hc : c.ok) : Does Tryz.prog 18 [.agg (coC c).toArray] (coHp c ++ [gWords]) (fun v hp' => v = .int .i64 (if rightC c.p then 0 else 2) ∧ hp' = []) := by
 have h := right_spec c hc
 rw [show coC c = [.slice c.sa c.strs.length c.sc, .slice c.ha c.shapes.length c.hc, .slice c.ua c.units.length c.uc, .int .i64 c.main] from rfl] at h ⊢
 unfold coHp at h ⊢
 refine fn_enter Tryz.func18 rfl 6 rfl fun w0 h0 => ?_
 refine SQ (RG ?_)
 refine RP [] (.d .a) 1 .z .a 26 [.slice c.sa c.strs.length c.sc, .slice c.ha c.shapes.length c.hc, .slice c.ua c.units.length c.uc, .int .i64 c.main] fun g1 => ?_
 refine RR [] .z (.i 2 (.int .i64 0) .a) .a ?_
 refine RZ (NT (SQ (SQ (RG ?_))))
 refine RR [6, 6, 6, 6] (.d .a) (.i 3 (.agg #[.slice c.sa c.strs.length c.sc, .slice c.ha c.shapes.length c.hc, .slice c.ua c.units.length c.uc, .int .i64 c.main]) (.k .z)) .a ?_
 refine RCG (dst := some 4) .a (h) (GV (GV (GV (GV (GV (GV (GI []) 5 view_ro) 4 view_self) 3 view_ro) 2 view_self) 1 view_ro) 0 view_ro) ?_
 rintro v _ ⟨rfl, rfl⟩
 cases hb : rightC c.p with
 | true =>
  refine RR [] .z (.i 5 (.bool false) (.d (.d (.k .a)))) .a ?_
  refine RZ (NT (CF (SK (NT (SQ (RG ?_))))))
  refine RR [] .z (.d (.k .a)) .a ?_
  refine RZ (NT (RE ?_))
  refine NE [] .z .a [] (.int .i64 0) ?_
  exact ⟨rfl, rfl⟩
 | false =>
  refine RR [] .z (.i 5 (.bool true) (.d (.d (.k .a)))) .a ?_
  refine RZ (NT (CT (SQ (RG ?_))))
  refine RR [] .z (.i 2 (.int .i64 2) .z) .a ?_
  refine RZ (NT (RE (TR ?_)))
  refine NE [] .z .a [] (.int .i64 2) ?_
  exact ⟨rfl, rfl⟩
theorem htsL_len (c : CodeP) (u : UnitP) : (htsL (gr c u)).length = u.ins.length := by
 unfold htsL
 rw [List.length_map, List.length_range]
 show (u.ins.length : Int).toNat = _
 omega
theorem htsL_at (c : CodeP) (u : UnitP) {i : Nat} (h : i < u.ins.length) : (htsL (gr c u))[i]'(by rw [htsL_len]; exact h) = hAt (gr c u) (i : Int) := by
 simp [htsL]
theorem htsL_take (c : CodeP) (u : UnitP) {i : Nat} (h : i < u.ins.length) : (htsL (gr c u)).take (i + 1) = (htsL (gr c u)).take i ++ [hAt (gr c u) (i : Int)] := by
 rw [← htsL_at c u h, List.take_append_getElem]
theorem right_form {c : CodeP} (h : rightC c = true) : formB c = true ∧ ∀ u ∈ c.units, fineB (gr c u) = true := by
 unfold rightC at h
 simp only [Bool.and_eq_true] at h
 exact ⟨h.1, List.all_eq_true.1 h.2⟩
theorem form_units {c : CodeP} (h : formB c = true) : ∀ u ∈ c.units, unitB c u = true := by
 unfold formB at h
 simp only [Bool.and_eq_true] at h
 exact List.all_eq_true.1 h.2
theorem un_in {c : CoV} {i : Nat} (h : i < c.units.length) : c.units[i].p ∈ c.p.units := List.mem_map.2 ⟨c.units[i], List.getElem_mem h, rfl⟩
theorem form_params {c : CoV} (h : formB c.p = true) : ∀ y ∈ c.units, 0 ≤ y.params ∧ y.params ≤ 8 := fun y hy => by
 have := unitB_head (form_units h y.p (List.mem_map.2 ⟨y, hy, rfl⟩))
 exact ⟨this.1, this.2.1⟩
set_option maxHeartbeats 8000000 in
theorem cHeights_spec (c : CoV) (hc : c.ok) (n : Int) : Does Tryz.prog 16 [.agg (coC c).toArray, .int .i64 n] (coHp c ++ [gWords])
  (fun v hp' => if rightC c.p = false then v = .tuple #[.slice none 0 0, .int .i64 2] ∧ hp' = []
   else if uptoB n c.units.length = false then v = .tuple #[.slice none 0 0, .int .i64 10] ∧ hp' = []
   else ∃ k, ∃ h : k < c.units.length, n = (k : Int) ∧ ∃ a' c', v = .tuple #[.slice a' (htsL (gr c.p c.units[k].p)).length c', .int .i64 0] ∧ hp' = [row 3 1 a' (htsL (gr c.p c.units[k].p)).length c' (ints (htsL (gr c.p c.units[k].p)))]) := by
 have hR := right_spec c hc
 obtain ⟨hs1, hs2, hh1, hh2, hu1, hu2, hmr⟩ := hc
 have hCo : coC c = [.slice c.sa c.strs.length c.sc, .slice c.ha c.shapes.length c.hc, .slice c.ua c.units.length c.uc, .int .i64 c.main] := rfl
 rw [hCo] at hR ⊢
 unfold coHp at hR ⊢
 refine fn_enter Tryz.func16 rfl 57 rfl fun w0 h0 => ?_
 refine SQ (RG ?_)
 refine RP [] (.d .a) 2 (.d (.k .a)) .a 26 [.slice c.sa c.strs.length c.sc, .slice c.ha c.shapes.length c.hc, .slice c.ua c.units.length c.uc, .int .i64 c.main] fun g1 => ?_
 refine RR [] .z (.i 5 (.int .i64 0) (.i 4 (.slice none 0 0) .a)) .a ?_
 refine RZ (NT (SQ (BK (SQ (RG ?_)))))
 refine RR [6, 6, 6, 6] (.d .a) (.i 13 (.agg #[.slice c.sa c.strs.length c.sc, .slice c.ha c.shapes.length c.hc, .slice c.ua c.units.length c.uc, .int .i64 c.main]) .a) .a ?_
 refine RCG (dst := some 14) .a (hR) (GV (GV (GV (GV (GV (GV (GI []) 5 view_ro) 4 view_self) 3 view_ro) 2 view_self) 1 view_ro) 0 view_ro) ?_
 rintro v _ ⟨rfl, rfl⟩
 cases hb : rightC c.p with
 | false =>
  refine RR [] .z (.i 12 (.bool true) (.d (.d (.k .a)))) .a ?_
  refine RZ (NT (CT (SQ (RG ?_))))
  refine RR [] .z (.i 5 (.int .i64 2) (.d (.d (.k .a)))) .a ?_
  refine RZ (NT (RE (BR (TR ?_))))
  refine NE [] .z .a [] (.tuple #[.slice none 0 0, .int .i64 2]) ?_
  rw [if_pos rfl]
  exact ⟨rfl, rfl⟩
 | true =>
 refine RR [] .z (.i 12 (.bool false) (.d (.d (.k .a)))) .a ?_
 refine RZ (NT (CF (SQ (RG ?_))))
 refine RR [6] (.d (.d (.d (.d .a)))) (.i 20 (.int .i64 (↑c.units.length : Int)) (.i 17 (.int .i64 n) (.d (.k .a)))) .a ?_
 refine RC (dst := some 21) [] .a (upto_spec n c.units.length) ?_
 rintro v _ ⟨rfl, rfl⟩
 cases hn : uptoB n c.units.length with
 | false =>
  refine RR [] .z (.i 16 (.bool true) (.d (.d (.d (.k .a))))) .a ?_
  refine RZ (NT (CT (SQ (RG ?_))))
  refine RR [] .z (.i 5 (.int .i64 10) (.d (.d (.k .a)))) .a ?_
  refine RZ (NT (RE (BR (TR ?_))))
  refine NE [] .z .a [] (.tuple #[.slice none 0 0, .int .i64 10]) ?_
  rw [if_neg (by decide), if_pos rfl]
  exact ⟨rfl, rfl⟩
 | true =>
 obtain ⟨hn0, hn1⟩ := (uptoB_iff _ _).1 hn
 obtain ⟨k, rfl⟩ := Int.eq_ofNat_of_zero_le hn0
 have hk : k < c.units.length := by omega
 obtain ⟨hform, hfine⟩ := right_form hb
 have hU := form_units hform _ (un_in hk)
 have hF := hfine _ (un_in hk)
 have hil := (unitB_head hU).2.2.2.2.2.2.2
 have hil : c.units[k].ins.length ≤ 4096 := hil
 have hun := heights_spec c hu1 hh1 (fun s hs => (hh2 s hs).2.1) (form_params hform) c.units[k] hU
 rw [hCo, show unC c.units[k] = [.string (mkS c.units[k].name), .int .i64 c.units[k].params, .int .i64 c.units[k].slots, .int .i64 c.units[k].stack, .bool c.units[k].result, .slice c.units[k].ia c.units[k].ins.length c.units[k].ic, .slice c.units[k].va c.units[k].vars.length c.units[k].vc] from rfl] at hun
 refine wpr_fact (fun w h => ro_addr h 3 rfl (by rw [uns_len]; omega)) ?_
 rintro ⟨g0, o0, hua⟩
 rw [hua] at hun ⊢
 refine RR [] .z (.i 16 (.bool false) (.d (.d (.d (.k .a))))) .a ?_
 refine RZ (NT (CF (SK (BN (NT (SQ ?_))))))
 refine wpc_draw (by kernel_rfl) [ro (some ⟨g0, o0, none⟩) (List.flatMap unC c.units), .blk g1 26 [.slice c.sa c.strs.length c.sc, .slice c.ha c.shapes.length c.hc, .slice (some ⟨g0, o0, none⟩) c.units.length c.uc, .int .i64 c.main]] (sub_of [3, 6] (by kernel_rfl)) 12 (by kernel_rfl) ?_
 refine wpa_take true [(0, [1, 1, 1, 1]), (1, []), (2, [1]), (3, []), (4, [])] ([(28, .pointer (some ⟨g0, o0 + k * 7, none⟩)), (24, .agg #[.slice c.sa c.strs.length c.sc, .slice c.ha c.shapes.length c.hc, .slice (some ⟨g0, o0, none⟩) c.units.length c.uc, .int .i64 c.main]), (5, .int .i64 0), (4, .slice none 0 0), (2, .pointer (some ⟨g1, 0, none⟩)), (1, .int .i64 (↑k : Int))]) (#[true, true, true, true, true, false, false, false, false, false, false, false]) [(0 : Int) ≤ (↑k : Int) ∧ (↑k : Int) < (↑c.units.length : Int)] (n := 7) (by kernel_rfl) (by kernel_rfl) (by kernel_rfl) ⟨by omega, trivial⟩ ?_
 refine wpa_qld (i := 5) (n := 6) (by kernel_rfl) (by kernel_rfl) (by kernel_rfl) (t := 59) (a := ⟨g0, o0 + k * 7, none⟩) (dst := some 29) (by kernel_rfl) true 7 (by kernel_rfl) (by simp) (unC c.units[k]) rfl (fun w h => ld_roL h 0 rfl (k * 7) (uns_at hk)) ?_
 refine wpa_ent (ent_copy 4 (ro c.units[k].ia (c.units[k].ins.flatMap insC)) rfl (fun h => h) (view_in (unRo_in1 hk) view_ro)) ?_
 refine AC (dst := some 30) 5 6 .a (hun) (GV (GV (GV (GI []) 0 view_ro) 2 view_ro) 4 view_ro) [4, 7] ?_
 intro v hp' hv
 rw [if_pos hF] at hv
 obtain ⟨g5, l5, rfl, rfl, hinv⟩ := hv
 refine TK 0 [(7, []), (8, []), (9, []), (10, []), (11, [])] (.i 6 (Value.map (some g5)) (.d (.d (.d (.d (.k .a)))))) (#[true, true, true, true, true, true, true, true, true, true, true, true]) ?_
 refine wpa_done 0 (by kernel_rfl) ?_
 refine NT (SQ (RG ?_))
 refine RR [] .z (.i 8 (.slice none 0 0) .a) .a ?_
 refine RZ (NT (SQ (SQ (RG ?_))))
 refine RV true [8] (.d (.d (.d (.d (.d .a))))) (.i 37 (.pointer (some ⟨g0, o0 + k * 7 + 5, none⟩)) (.k (.k (.k (.k .z))))) .a [(0 : Int) ≤ (↑k : Int) ∧ (↑k : Int) < (↑c.units.length : Int)] ⟨by omega, trivial⟩ ?_
 refine wpr_eq (ld (t := 56) (a := ⟨g0, o0 + k * 7 + 5, none⟩) (dst := some 38) (by kernel_rfl) false 1 (by kernel_rfl) (by simp) [.slice c.units[k].ia c.units[k].ins.length c.units[k].ic] rfl (fun w h => ld_ro h 5 rfl (k * 7 + 5) (uns_fld hk 5 1 (by decide)))) ?_
 refine RR [] .z (.i 40 (.int .i64 0) (.i 39 (.int .i64 (↑c.units[k].ins.length : Int)) (.d (.d (.k .a))))) .a ?_
 refine RZ (NT (BK ?_))
 have hlen := htsL_len c.p c.units[k].p
 have hlen : (htsL (gr c.p c.units[k].p)).length = c.units[k].ins.length := hlen
 refine wpc_loop (X := {x : Nat × Option Addr × Nat // x.1 ≤ c.units[k].ins.length}) (fun x => St.mk [(40, .int .i64 (x.1.1 : Int)), (39, .int .i64 c.units[k].ins.length), (8, .slice x.1.2.1 ((htsL (gr c.p c.units[k].p)).take x.1.1).length x.1.2.2), (6, .map (some g5)), (5, .int .i64 0), (4, .slice none 0 0)]
  [row 3 1 x.1.2.1 ((htsL (gr c.p c.units[k].p)).take x.1.1).length x.1.2.2 (ints ((htsL (gr c.p c.units[k].p)).take x.1.1)), mp kvI g5 (mI l5)]) (fun x => c.units[k].ins.length - x.1.1) ⟨(0, none, 0), Nat.zero_le _⟩ ?_ ?_
 ·exact Ent.trans (ent_nil 3 1) (Ent.trans (ent_hp [0, 0] rfl) (ent_fr (by kernel_rfl)))
 rintro ⟨⟨i, a1, c1⟩, hi⟩
 dsimp only at hi ⊢
 by_cases hlt : i < c.units[k].ins.length
 ·have hlt2 : i < c.units[k].p.ins.length := hlt
  have hE := htsL_take c.p c.units[k].p hlt2
  have hA := inv_hAt hinv (i : Int)
  have htl : ((htsL (gr c.p c.units[k].p)).take i).length = i := by rw [List.length_take]; omega
  have hm := mlook_mI (i : Int) l5
  refine SQ (RG ?_)
  refine RR [] .z (.i 41 (.bool (decide ((↑i : Int) < (↑c.units[k].ins.length : Int)))) .a) .a ?_
  refine RZ (NT (SQ ?_))
  refine SC 41 (decide ((↑i : Int) < (↑c.units[k].ins.length : Int))) true (decide_eq_true (by omega)) ?_
  refine CT (SK (NT (SQ (BK (SQ (RG ?_))))))
  refine RR [] .z (.i 9 (.int .i64 (↑i : Int)) (.d (.d (.k .a)))) .a ?_
  refine RZ (NT (SQ (RG ?_)))
  refine RR [] (.d (.d .a)) (.i 45 (.int .i64 (↑i : Int)) (.i 44 (Value.map (some g5)) (.d (.k .a)))) .a ?_
  refine wpr_eq (step_look (t := 102) (g := g5) (k := 3) (z := (.int .i64 0)) (kw := (.int .i64 (↑i : Int))) (ok := true) (dst := some 46) (by kernel_rfl) (by kernel_rfl) (keysI (by kernel_rfl)) (i : Int) rfl 1 (l := (mI l5)) (by kernel_rfl)) ?_
  rw [hm]
  cases hl : lk l5 (i : Int) with
  | some x =>
   rw [hl] at hA
   have hA : hAt (gr c.p c.units[k].p) (i : Int) = x := hA
   rw [hA] at hE
   refine RR [] .z (.i 11 (.bool true) (.i 10 (.int .i64 x) (.d (.d (.d (.k .a)))))) .a ?_
   refine RZ (NT (SQ (SQ (RG ?_))))
   refine RR [] .z (.i 50 (.bool false) (.d (.k .a))) .a ?_
   refine RZ (NT (CF (SK (NT (RG ?_)))))
   refine RN [] (.d (.d (.d .a))) 53 (fun g2 => (.slice (some ⟨g2, 0, none⟩) 1 1)) (.i 51 (.slice a1 (List.take i (htsL (gr c.p c.units[k].p))).length c1) (.d (.d (.k .a)))) .a 3 [.int .i64 x] fun g2 => ?_
   refine wpr_ent (ent_turn 2 (ro (some ⟨g2, 0, none⟩) (ints [x])) rfl (turn_rints [x] rfl) rfl) ?_
   refine wpr_app (a := a1) (n := ((List.take i (htsL (gr c.p c.units[k].p))).length)) (cap := c1) (x := (.slice (some ⟨g2, 0, none⟩) 1 1)) (t := 29) (xt := 29) (dst := some 54) (by kernel_rfl) (e := 3) (sz := 1) (bytes := 8) (by kernel_rfl) 0 (xs := (ints (List.take i (htsL (gr c.p c.units[k].p))))) (by kernel_rfl) (m := 1) (news := (ints [x])) (fun w h => src_ro h 2 rfl rfl (fun e => by cases e)) (by unfold maxLen; omega) (by omega) ?_
   intro a3 c3 hn3
   rw [ints_append, show ((htsL (gr c.p c.units[k].p)).take i).length + 1 = ((htsL (gr c.p c.units[k].p)).take i ++ [x]).length by simp, ← hE]
   refine RR [] .z (.i 8 (.slice a3 (List.take (i + 1) (htsL (gr c.p c.units[k].p))).length c3) (.d (.d (.d (.k (.k (.d (.k .a)))))))) .a ?_
   refine RZ (BN (NT (RG ?_)))
   refine RV true [] .z (.i 40 (.int .i64 ((↑i : Int) + 1)) (.k (.d (.k .a)))) .a ([inI64 ((↑i : Int) + (1 : Int))]) ⟨by unfold inI64; omega, trivial⟩ ?_
   refine RZ ?_
   exact fun a' w' hS' => ⟨⟨(i + 1, a3, c3), hlt⟩, by dsimp only; omega, ent_fr (by kernel_rfl) _ _ (ent_hp [0, 0] rfl _ _ hS')⟩
  | none =>
   rw [hl] at hA
   have hA : hAt (gr c.p c.units[k].p) (i : Int) = -1 := hA
   rw [hA] at hE
   refine RR [] .z (.i 11 (.bool false) (.i 10 (.int .i64 0) (.d (.d (.d (.k .a)))))) .a ?_
   refine RZ (NT (SQ (SQ (RG ?_))))
   refine RR [] .z (.i 50 (.bool true) (.d (.k .a))) .a ?_
   refine RZ (NT (CT (RG ?_)))
   refine RR [] .z (.i 10 (.int .i64 (-1)) (.d (.d (.k .a)))) .a ?_
   refine RZ (NT (RG ?_))
   refine RN [] (.d (.d (.d .a))) 53 (fun g2 => (.slice (some ⟨g2, 0, none⟩) 1 1)) (.i 51 (.slice a1 (List.take i (htsL (gr c.p c.units[k].p))).length c1) (.d (.k .a))) .a 3 [.int .i64 (-1)] fun g2 => ?_
   refine wpr_ent (ent_turn 2 (ro (some ⟨g2, 0, none⟩) (ints [-1])) rfl (turn_rints [-1] rfl) rfl) ?_
   refine wpr_app (a := a1) (n := ((List.take i (htsL (gr c.p c.units[k].p))).length)) (cap := c1) (x := (.slice (some ⟨g2, 0, none⟩) 1 1)) (t := 29) (xt := 29) (dst := some 54) (by kernel_rfl) (e := 3) (sz := 1) (bytes := 8) (by kernel_rfl) 0 (xs := (ints (List.take i (htsL (gr c.p c.units[k].p))))) (by kernel_rfl) (m := 1) (news := (ints [-1])) (fun w h => src_ro h 2 rfl rfl (fun e => by cases e)) (by unfold maxLen; omega) (by omega) ?_
   intro a3 c3 hn3
   rw [ints_append, show ((htsL (gr c.p c.units[k].p)).take i).length + 1 = ((htsL (gr c.p c.units[k].p)).take i ++ [-1]).length by simp, ← hE]
   refine RR [] .z (.i 8 (.slice a3 (List.take (i + 1) (htsL (gr c.p c.units[k].p))).length c3) (.d (.d (.d (.k (.k (.d (.k .a)))))))) .a ?_
   refine RZ (BN (NT (RG ?_)))
   refine RV true [] .z (.i 40 (.int .i64 ((↑i : Int) + 1)) (.k (.d (.k .a)))) .a ([inI64 ((↑i : Int) + (1 : Int))]) ⟨by unfold inI64; omega, trivial⟩ ?_
   refine RZ ?_
   exact fun a' w' hS' => ⟨⟨(i + 1, a3, c3), hlt⟩, by dsimp only; omega, ent_fr (by kernel_rfl) _ _ (ent_hp [0, 0] rfl _ _ hS')⟩
 ·obtain rfl : i = c.units[k].ins.length := by omega
  rw [← hlen, List.take_length]
  refine SQ (RG ?_)
  refine RR [] .z (.i 41 (.bool (decide ((↑(htsL (gr c.p c.units[k].p)).length : Int) < (↑(htsL (gr c.p c.units[k].p)).length : Int)))) .a) .a ?_
  refine RZ (NT (SQ ?_))
  refine SC 41 (decide ((↑(htsL (gr c.p c.units[k].p)).length : Int) < (↑(htsL (gr c.p c.units[k].p)).length : Int))) false (by simp) ?_
  refine CF (EX (TE (TE (BH (NT (SQ (RG ?_)))))))
  refine RR [] .z (.d (.d (.d (.d (.d (.d (.k (.i 4 (.slice a1 (htsL (gr c.p c.units[k].p)).length c1) .z)))))))) .a ?_
  refine RZ (NT (RE ?_))
  refine NE [0] (.k .z) (.d (.k .a)) [] (.tuple #[.slice a1 (htsL (gr c.p c.units[k].p)).length c1, .int .i64 0]) ?_
  rw [if_neg (by decide), if_neg (by decide)]
  exact ⟨k, hk, rfl, a1, c1, rfl, rfl⟩
end Go.Proofs.YtgcfomhlgipllaaGreatDoor
namespace Go.Proofs.YtgcfomhlgipllaaGreatDoor
open Go Go.Sx
/-! A right code, plain: the sizes of its parts; its heights. -/
theorem encT_len {t : List UInt8} (h : t.length ≤ 1048576) : (encT t).length ≤ 10 + t.length := by
 have := encI_len (n := (t.length : Int)) (by omega) (by omega)
 unfold encT; rw [List.length_append]; omega
theorem nameB_len {t : Tx} (h : nameB t = true) : t.length ≤ 20 := by
 unfold nameB at h
 split at h
 ·cases h
 ·simp only [Bool.and_eq_true, decide_eq_true_eq] at h
  exact h.1.1.1
theorem plainB_len {t : Tx} (h : plainB t = true) : t.length ≤ 255 := by
 unfold plainB at h
 simp only [Bool.and_eq_true, decide_eq_true_eq] at h
 exact h.1
theorem form_parts {c : CodeP} (h : formB c = true) : headC c = true ∧ (∀ t ∈ c.strs, plainB t = true) ∧ (∀ s ∈ c.shapes, shapeB s = true) ∧ namesB (c.shapes.map (·.1)) = true ∧ namesB (c.units.map (·.name)) = true ∧ mainB c = true ∧ ∀ u ∈ c.units, unitB c u = true := by
 unfold formB at h
 simp only [Bool.and_eq_true] at h
 obtain ⟨⟨⟨⟨⟨⟨h1, h2⟩, h3⟩, h4⟩, h5⟩, h6⟩, h7⟩ := h
 exact ⟨h1, List.all_eq_true.1 h2, List.all_eq_true.1 h3, h4, h5, h6, List.all_eq_true.1 h7⟩
theorem names_len {l : List Tx} (h : namesB l = true) : ∀ t ∈ l, t.length ≤ 20 := fun t ht => nameB_len (((namesB_iff l).1 h).1 t ht)
theorem shapeB_parts {s : ShP} (h : shapeB s = true) : 1 ≤ s.2.length ∧ s.2.length ≤ 8 ∧ namesB s.2 = true := by
 unfold shapeB at h
 simp only [Bool.and_eq_true, decide_eq_true_eq] at h
 exact ⟨h.1.1, h.1.2, h.2⟩
theorem unitB_vars {c : CodeP} {u : UnitP} (h : unitB c u = true) : ∀ v ∈ u.vars, varB u v = true := by
 unfold unitB at h
 simp only [Bool.and_eq_true] at h
 exact List.all_eq_true.1 h.1.2
theorem varB_len {u : UnitP} {v : VarP} (h : varB u v = true) : v.name.length ≤ 20 := by
 unfold varB at h
 simp only [Bool.and_eq_true] at h
 exact nameB_len h.1.1.1.1
theorem right_n {c : CoV} (hc : c.ok) (h : rightC c.p = true) : nCo c.p := by
 obtain ⟨hf, -⟩ := right_form h
 obtain ⟨hd, hs, hh, hn1, hn2, -, hu⟩ := form_parts hf
 obtain ⟨d1, d2, d3, -, -⟩ := (headC_iff _).1 hd
 obtain ⟨-, -, -, -, -, hu2, hm⟩ := hc
 refine ⟨⟨by omega, fun t ht => plainB_len (hs t ht)⟩, ⟨by omega, fun x hx => ?_⟩, ⟨by omega, fun x hx => ?_⟩, hm⟩
 ·have h1 := names_len hn1 x.1 (List.mem_map.2 ⟨x, hx, rfl⟩)
  obtain ⟨_, h2, h3⟩ := shapeB_parts (hh x hx)
  exact ⟨by unfold okTx; omega, by omega, fun t ht => by have := names_len h3 t ht; unfold okTx; omega⟩
 ·have h1 := names_len hn2 x.name (List.mem_map.2 ⟨x, hx, rfl⟩)
  obtain ⟨y, hy, rfl⟩ := List.mem_map.1 hx
  obtain ⟨_, p1, p2, p3, i1, v1, i2, v2⟩ := hu2 y hy
  have hv := unitB_vars (hu _ hx)
  exact ⟨by unfold okTx; omega, p1, p2, p3, trivial, ⟨i1, fun z hz => i2 z hz⟩, v1, fun z hz => by
   obtain ⟨_, q1, q2, q3⟩ := v2 z hz
   have := varB_len (hv z hz)
   exact ⟨by unfold okTx; omega, q1, q2, q3⟩⟩
theorem flat_len {α : Type} (f : α → List UInt8) (b : Nat) : ∀ l : List α, (∀ x ∈ l, (f x).length ≤ b) → (l.flatMap f).length ≤ l.length * b
 | [], _ => by simp
 | x :: l, h => by
  have h1 := h x (List.mem_cons_self ..)
  have h2 := flat_len f b l (fun y hy => h y (List.mem_cons_of_mem _ hy))
  rw [List.flatMap_cons, List.length_append, List.length_cons, Nat.succ_mul]
  omega
theorem encR_len {α : Type} (f : α → List UInt8) (b : Nat) (l : List α) (hl : l.length ≤ 1048576) (h : ∀ x ∈ l, (f x).length ≤ b) : (encR f l).length ≤ 10 + l.length * b := by
 have h1 := encI_len (n := (l.length : Int)) (by omega) (by omega)
 have h2 := flat_len f b l h
 unfold encR
 rw [List.length_append]
 omega
theorem encI_l {n : Int} (h : i64r n) : (encI n).length ≤ 10 := encI_len h.1 h.2
theorem encTx_l {t : Tx} (h : okTx t) : (encT t).length ≤ 265 := by
 unfold okTx at h
 have := encT_len (t := t) (by omega)
 omega
theorem encVr_l {v : VarP} (h : nVr v) : (encVr v).length ≤ 295 := by
 obtain ⟨h1, h2, h3, h4⟩ := h
 have e1 := encTx_l h1
 have e2 := encI_l h2
 have e3 := encI_l h3
 have e4 := encI_l h4
 unfold encVr
 simp only [List.length_append]
 omega
theorem encIn_l {x : InP} (h : i64r x.1 ∧ i64r x.2) : (encIn x).length ≤ 20 := by
 have e1 := encI_l h.1
 have e2 := encI_l h.2
 unfold encIn
 rw [List.length_append]
 omega
theorem encU_l {u : UnitP} (h : nU u) : (encU u).length ≤ 336594321 := by
 obtain ⟨h1, h2, h3, h4, -, ⟨h5, h6⟩, h7, h8⟩ := h
 have e1 := encTx_l h1
 have e2 := encI_l h2
 have e3 := encI_l h3
 have e4 := encI_l h4
 have e5 : (encB u.result).length = 1 := rfl
 have e6 := encR_len encIn 20 u.ins h5 (fun x hx => encIn_l (h6 x hx))
 have e7 := encR_len encVr 295 u.vars h7 (fun x hx => encVr_l (h8 x hx))
 unfold encU
 simp only [List.length_append]
 omega
theorem encSh_l {s : ShP} (h : okTx s.1 ∧ okR okTx s.2) : (encSh s).length ≤ 277873300 := by
 obtain ⟨h1, h2, h3⟩ := h
 have e1 := encTx_l h1
 have e2 := encR_len encT 265 s.2 h2 (fun x hx => encTx_l (h3 x hx))
 unfold encSh encTs
 rw [List.length_append]
 omega
theorem encCo_l {c : CodeP} (h : nCo c) (hd : headC c = true) : (encCo c).length ≤ 21474836480 := by
 obtain ⟨⟨h1, h2⟩, ⟨h3, h4⟩, ⟨h5, h6⟩, h7⟩ := h
 obtain ⟨d1, d2, d3, -, -⟩ := (headC_iff _).1 hd
 have e1 := encR_len encT 265 c.strs h1 (fun x hx => encTx_l (h2 x hx))
 have e2 := encR_len encSh 277873300 c.shapes h3 (fun x hx => encSh_l (h4 x hx))
 have e3 := encR_len encU 336594321 c.units h5 (fun x hx => encU_l (h6 x hx))
 have e4 := encI_l h7
 unfold encCo encTs
 simp only [List.length_append]
 omega
theorem right_head {c : CodeP} (h : rightC c = true) : headC c = true := (form_parts (right_form h).1).1
structure HFacts (c : CodeP) (u : UnitP) (i : Nat) (op a h : Int) : Prop where
 lo : -1 ≤ h
 hi : h ≤ u.stack
 mark : op = 0 → ¬ 0 < h
 next : 0 ≤ h → op ≠ 20 → op ≠ 23 → i + 1 < u.ins.length ∧ 0 ≤ hAt (gr c u) ((i + 1 : Nat) : Int)
 jump : 0 ≤ h → op = 20 ∨ op = 21 → 0 ≤ a ∧ a < u.ins.length ∧ 0 ≤ hAt (gr c u) a
end Go.Proofs.YtgcfomhlgipllaaGreatDoor
namespace Go.Proofs.YtgcfomhlgipllaaGreatDoor
open Go Go.Sx
theorem flat_take_len {α : Type} (f : α → List UInt8) (l : List α) (i : Nat) : ((l.take i).flatMap f).length ≤ (l.flatMap f).length := by
 have h : l.flatMap f = (l.take i).flatMap f ++ (l.drop i).flatMap f := by rw [← List.flatMap_append, List.take_append_drop]
 rw [h, List.length_append]; omega
theorem flat_take_succ {α : Type} (f : α → List UInt8) {l : List α} {i : Nat} (h : i < l.length) : (l.take (i + 1)).flatMap f = (l.take i).flatMap f ++ f l[i] := by
 rw [← List.take_append_getElem h, List.flatMap_append]; simp
theorem flat_take_le {α : Type} (f : α → List UInt8) {l : List α} {i : Nat} (h : i < l.length) : ((l.take i).flatMap f).length + (f l[i]).length ≤ (l.flatMap f).length := by
 have h1 := flat_take_len f l (i + 1)
 rw [flat_take_succ f h, List.length_append] at h1
 exact h1
theorem encR_l {α : Type} (f : α → List UInt8) (l : List α) : (encR f l).length = (encI l.length).length + (l.flatMap f).length := by unfold encR; rw [List.length_append]
theorem texts_spec (a : Option Addr) (c : Nat) (bs : List UInt8) (la : Option Addr) (lc : Nat) (l : List Tx) (hl : l.length ≤ 1048576) (ht : ∀ t ∈ l, okText t) (hB : bs.length + (encTs l).length ≤ 549755813888) :
  Does Tryz.prog 45 [.slice a bs.length c, .slice la l.length lc] [row 5 1 a bs.length c (u8s bs), ro la (strsC l)]
   (fun r hp' => ∃ a' c', r = .slice a' (bs ++ encTs l).length c' ∧ hp' = [row 5 1 a' (bs ++ encTs l).length c' (u8s (bs ++ encTs l))]) := by
 have hEl := encR_l encT l
 have hB : bs.length + (encR encT l).length ≤ 549755813888 := hB
 refine fn_enter Tryz.func45 rfl 22 rfl fun w0 h0 => ?_
 refine SQ (RG ?_)
 refine RR [] .z (.i 4 (.slice none 0 0) .a) .a ?_
 refine RZ (NT (SQ (RG ?_)))
 refine RR [] (.d (.d (.d .a))) (.i 9 (.int .i64 (↑l.length : Int)) (.i 7 (.slice a bs.length c) .a)) .a ?_
 refine RC (dst := some 10) [0] (.d (.k .a)) (PutInt_spec a c bs l.length (by omega) (by omega) (by omega)) ?_
 rintro r _ ⟨a1, c1, rfl, rfl⟩
 obtain ⟨b0, hb0⟩ : ∃ b0, b0 = bs ++ encI l.length := ⟨_, rfl⟩
 have hbl0 : b0.length = bs.length + (encI l.length).length := by rw [hb0, List.length_append]
 rw [← hb0]
 refine RR [] .z (.i 0 (.slice a1 b0.length c1) (.d (.d (.d (.k (.d (.k .a))))))) .a ?_
 refine RZ (NT (SQ (SQ (RG ?_))))
 refine RR [] .z (.i 13 (.int .i64 0) (.i 12 (.int .i64 (↑l.length : Int)) (.i 11 (.slice la l.length lc) (.k (.k .z))))) .a ?_
 refine RZ (NT (BK ?_))
 refine wpc_loop (X := {x : Nat × Option Addr × Nat // x.1 ≤ l.length}) (fun x => St.mk [(13, .int .i64 (x.1.1 : Int)), (12, .int .i64 l.length), (11, .slice la l.length lc), (0, .slice x.1.2.1 (b0 ++ (l.take x.1.1).flatMap encT).length x.1.2.2), (4, .slice none 0 0)]
  [row 5 1 x.1.2.1 (b0 ++ (l.take x.1.1).flatMap encT).length x.1.2.2 (u8s (b0 ++ (l.take x.1.1).flatMap encT)), ro la (strsC l)]) (fun x => l.length - x.1.1) ⟨(0, a1, c1), Nat.zero_le _⟩ ?_ ?_
 ·show Ent _ _ (St.mk [_, _, _, (0, .slice a1 (b0 ++ []).length c1), _] [row _ 1 a1 (b0 ++ []).length c1 (u8s (b0 ++ [])), _])
  rw [List.append_nil]
  exact ent_fr (by kernel_rfl)
 rintro ⟨⟨i, a2, c2⟩, hi⟩
 dsimp only at hi ⊢
 by_cases hlt : i < l.length
 ·have hme := flat_take_le encT hlt
  have hti := ht _ (List.getElem_mem hlt)
  unfold okText at hti
  obtain ⟨b2, hb2⟩ : ∃ b2, b2 = b0 ++ (l.take i).flatMap encT := ⟨_, rfl⟩
  have hbl : b2.length = b0.length + ((l.take i).flatMap encT).length := by rw [hb2, List.length_append]
  rw [← hb2]
  refine wpc_fact (fun w h => ro_addr h 1 rfl (by rw [strsC_len]; omega)) ?_
  rintro ⟨g0, o0, rfl⟩
  refine SQ (RG ?_)
  refine RR [] .z (.i 14 (.bool (decide ((↑i : Int) < (↑l.length : Int)))) .a) .a ?_
  refine RZ (NT (SQ ?_))
  refine SC 14 (decide ((↑i : Int) < (↑l.length : Int))) true (decide_eq_true (by omega)) ?_
  refine CT (SK (NT (SQ (BK (SQ (RG ?_))))))
  refine RV true [] (.d .a) (.i 15 (.pointer (some ⟨g0, o0 + i * 1, none⟩)) (.d (.d (.k .a)))) .a [(0 : Int) ≤ (↑i : Int) ∧ (↑i : Int) < (↑l.length : Int)] ⟨by omega, trivial⟩ ?_
  refine wpr_eq (ld (t := 9) (a := ⟨g0, o0 + i * 1, none⟩) (dst := some 16) (by kernel_rfl) false 1 (by kernel_rfl) (by simp) [.string (mkS l[i])] rfl (fun w h => ld_ro h 1 rfl (i * 1) (strs_at hlt))) ?_
  refine RR [] .z (.i 6 (.string (mkS l[i])) (.d (.d (.k .a)))) .a ?_
  refine RZ (NT (RG ?_))
  refine RR [] (.d (.d .a)) (.i 18 (.string (mkS l[i])) (.i 17 (.slice a2 b2.length c2) (.d (.k .a)))) .a ?_
  refine RC (dst := some 19) [0] (.d (.k .a)) (PutText_spec a2 c2 b2 l[i] (by omega) (by omega)) ?_
  rintro r _ ⟨a3, c3, rfl, rfl⟩
  rw [show b2 ++ encT l[i] = b0 ++ (l.take (i + 1)).flatMap encT from by rw [hb2, flat_take_succ encT hlt, List.append_assoc]]
  refine RR [] .z (.i 0 (.slice a3 (b0 ++ List.flatMap encT (List.take (i + 1) l)).length c3) (.d (.d (.d (.k (.k (.k (.d (.k .a))))))))) .a ?_
  refine RZ (BN (NT (RG ?_)))
  refine RV true [] .z (.i 13 (.int .i64 ((↑i : Int) + 1)) (.k (.d (.k .a)))) .a ([inI64 ((↑i : Int) + (1 : Int))]) ⟨by unfold inI64; omega, trivial⟩ ?_
  refine RZ ?_
  exact fun a' w' hS' => ⟨⟨(i + 1, a3, c3), hlt⟩, by dsimp only; omega, ent_fr (by kernel_rfl) _ _ (ent_hp [0, 0] rfl _ _ hS')⟩
 ·obtain rfl : i = l.length := by omega
  refine SQ (RG ?_)
  refine RR [] .z (.i 14 (.bool (decide ((↑l.length : Int) < (↑l.length : Int)))) .a) .a ?_
  refine RZ (NT (SQ ?_))
  refine SC 14 (decide ((↑l.length : Int) < (↑l.length : Int))) false (by simp) ?_
  refine CF (EX (TE (TE (BH (NT (SQ (RG ?_)))))))
  refine RR [] .z (.i 4 (.slice a2 (b0 ++ List.flatMap encT (List.take l.length l)).length c2) .z) .a ?_
  refine RZ (NT (RE ?_))
  refine NE [0] (.k .z) (.d (.k .a)) [] (.slice a2 (b0 ++ List.flatMap encT (List.take l.length l)).length c2) ?_
  rw [List.take_length, hb0, List.append_assoc]
  exact ⟨a2, c2, rfl, rfl⟩
theorem nums_spec (a : Option Addr) (c : Nat) (bs : List UInt8) (la : Option Addr) (lc : Nat) (l : List Int) (hl : l.length ≤ 1048576) (ht : ∀ t ∈ l, i64r t) (hB : bs.length + (l.flatMap encI).length ≤ 549755813888) :
  Does Tryz.prog 48 [.slice a bs.length c, .slice la l.length lc] [row 5 1 a bs.length c (u8s bs), ro la (ints l)]
   (fun r hp' => ∃ a' c', r = .slice a' (bs ++ l.flatMap encI).length c' ∧ hp' = [row 5 1 a' (bs ++ l.flatMap encI).length c' (u8s (bs ++ l.flatMap encI))]) := by
 refine fn_enter Tryz.func48 rfl 18 rfl fun w0 h0 => ?_
 refine SQ (RG ?_)
 refine RR [] .z (.i 4 (.slice none 0 0) .a) .a ?_
 refine RZ (NT (SQ (SQ (RG ?_))))
 refine RR [] .z (.i 9 (.int .i64 0) (.i 8 (.int .i64 (↑l.length : Int)) (.i 7 (.slice la l.length lc) (.k (.k .z))))) .a ?_
 refine RZ (NT (BK ?_))
 refine wpc_loop (X := {x : Nat × Option Addr × Nat // x.1 ≤ l.length}) (fun x => St.mk [(9, .int .i64 (x.1.1 : Int)), (8, .int .i64 l.length), (7, .slice la l.length lc), (0, .slice x.1.2.1 (bs ++ (l.take x.1.1).flatMap encI).length x.1.2.2), (4, .slice none 0 0)]
  [row 5 1 x.1.2.1 (bs ++ (l.take x.1.1).flatMap encI).length x.1.2.2 (u8s (bs ++ (l.take x.1.1).flatMap encI)), ro la (ints l)]) (fun x => l.length - x.1.1) ⟨(0, a, c), Nat.zero_le _⟩ ?_ ?_
 ·show Ent _ _ (St.mk [_, _, _, (0, .slice a (bs ++ []).length c), _] [row _ 1 a (bs ++ []).length c (u8s (bs ++ [])), _])
  rw [List.append_nil]
  exact ent_fr (by kernel_rfl)
 rintro ⟨⟨i, a2, c2⟩, hi⟩
 dsimp only at hi ⊢
 by_cases hlt : i < l.length
 ·have hme := flat_take_le encI hlt
  have hti := ht _ (List.getElem_mem hlt)
  obtain ⟨b2, hb2⟩ : ∃ b2, b2 = bs ++ (l.take i).flatMap encI := ⟨_, rfl⟩
  have hbl : b2.length = bs.length + ((l.take i).flatMap encI).length := by rw [hb2, List.length_append]
  rw [← hb2]
  refine wpc_fact (fun w h => ro_addr h 1 rfl (by rw [ints_len]; omega)) ?_
  rintro ⟨g0, o0, rfl⟩
  refine SQ (RG ?_)
  refine RR [] .z (.i 10 (.bool (decide ((↑i : Int) < (↑l.length : Int)))) .a) .a ?_
  refine RZ (NT (SQ ?_))
  refine SC 10 (decide ((↑i : Int) < (↑l.length : Int))) true (decide_eq_true (by omega)) ?_
  refine CT (SK (NT (SQ (BK (SQ (RG ?_))))))
  refine RV true [] (.d .a) (.i 11 (.pointer (some ⟨g0, o0 + i * 1, none⟩)) (.d (.d (.k .a)))) .a [(0 : Int) ≤ (↑i : Int) ∧ (↑i : Int) < (↑l.length : Int)] ⟨by omega, trivial⟩ ?_
  refine wpr_eq (ld (t := 3) (a := ⟨g0, o0 + i * 1, none⟩) (dst := some 12) (by kernel_rfl) false 1 (by kernel_rfl) (by simp) [.int .i64 l[i]] rfl (fun w h => ld_ro h 1 rfl (i * 1) (ints_at hlt))) ?_
  refine RR [] .z (.i 6 (.int .i64 l[i]) (.d (.d (.k .a)))) .a ?_
  refine RZ (NT (RG ?_))
  refine RR [] (.d (.d .a)) (.i 14 (.int .i64 l[i]) (.i 13 (.slice a2 b2.length c2) (.d (.k .a)))) .a ?_
  refine RC (dst := some 15) [0] (.d (.k .a)) (PutInt_spec a2 c2 b2 l[i] hti.1 hti.2 (by omega)) ?_
  rintro r _ ⟨a3, c3, rfl, rfl⟩
  rw [show b2 ++ encI l[i] = bs ++ (l.take (i + 1)).flatMap encI from by rw [hb2, flat_take_succ encI hlt, List.append_assoc]]
  refine RR [] .z (.i 0 (.slice a3 (bs ++ List.flatMap encI (List.take (i + 1) l)).length c3) (.d (.d (.d (.k (.k (.k (.d (.k .a))))))))) .a ?_
  refine RZ (BN (NT (RG ?_)))
  refine RV true [] .z (.i 9 (.int .i64 ((↑i : Int) + 1)) (.k (.d (.k .a)))) .a ([inI64 ((↑i : Int) + (1 : Int))]) ⟨by unfold inI64; omega, trivial⟩ ?_
  refine RZ ?_
  exact fun a' w' hS' => ⟨⟨(i + 1, a3, c3), hlt⟩, by dsimp only; omega, ent_fr (by kernel_rfl) _ _ (ent_hp [0, 0] rfl _ _ hS')⟩
 ·obtain rfl : i = l.length := by omega
  refine SQ (RG ?_)
  refine RR [] .z (.i 10 (.bool (decide ((↑l.length : Int) < (↑l.length : Int)))) .a) .a ?_
  refine RZ (NT (SQ ?_))
  refine SC 10 (decide ((↑l.length : Int) < (↑l.length : Int))) false (by simp) ?_
  refine CF (EX (TE (TE (BH (NT (SQ (RG ?_)))))))
  refine RR [] .z (.i 4 (.slice a2 (bs ++ List.flatMap encI (List.take l.length l)).length c2) .z) .a ?_
  refine RZ (NT (RE ?_))
  refine NE [0] (.k .z) (.d (.k .a)) [] (.slice a2 (bs ++ List.flatMap encI (List.take l.length l)).length c2) ?_
  rw [List.take_length]
  exact ⟨a2, c2, rfl, rfl⟩
end Go.Proofs.YtgcfomhlgipllaaGreatDoor
namespace Go.Proofs.YtgcfomhlgipllaaGreatDoor
open Go Go.Sx
theorem mp_take_succ {α β : Type} (P : α → β) (f : β → List UInt8) {l : List α} {i : Nat} (h : i < l.length) : ((l.map P).take (i + 1)).flatMap f = ((l.map P).take i).flatMap f ++ f (P l[i]) := by
 rw [flat_take_succ f (by rw [List.length_map]; exact h), List.getElem_map]
theorem mp_take_le {α β : Type} (P : α → β) (f : β → List UInt8) {l : List α} {i : Nat} (h : i < l.length) : (((l.map P).take i).flatMap f).length + (f (P l[i])).length ≤ ((l.map P).flatMap f).length := by
 have h1 := flat_take_le f (l := l.map P) (i := i) (by rw [List.length_map]; exact h)
 rwa [List.getElem_map] at h1
set_option maxHeartbeats 16000000 in
theorem cBytes_spec (c : CoV) (hc : c.ok) : Does Tryz.prog 21 [.agg (coC c).toArray] (coHp c ++ [gWords])
  (fun r hp' => if rightC c.p = true then ∃ a' c', r = .tuple #[.slice a' (encCo c.p).length c', .int .i64 0] ∧ hp' = [row 5 1 a' (encCo c.p).length c' (u8s (encCo c.p))] else r = .tuple #[.slice none 0 0, .int .i64 2] ∧ hp' = []) := by
 have hR := right_spec c hc
 obtain ⟨hs1, hs2, hh1, hh2, hu1, hu2, hm0, hm1⟩ := id hc
 have hCo : coC c = [.slice c.sa c.strs.length c.sc, .slice c.ha c.shapes.length c.hc, .slice c.ua c.units.length c.uc, .int .i64 c.main] := rfl
 rw [hCo] at hR ⊢
 unfold coHp at hR ⊢
 refine fn_enter Tryz.func21 rfl 116 rfl fun w0 h0 => ?_
 refine SQ (RG ?_)
 refine RP [] (.d .a) 1 .z .a 26 [.slice c.sa c.strs.length c.sc, .slice c.ha c.shapes.length c.hc, .slice c.ua c.units.length c.uc, .int .i64 c.main] fun g1 => ?_
 refine RR [] .z (.i 3 (.int .i64 0) (.i 2 (.slice none 0 0) .a)) .a ?_
 refine RZ (NT (SQ (SQ (RG ?_))))
 refine RR [6, 6, 6, 6] (.d .a) (.i 13 (.agg #[.slice c.sa c.strs.length c.sc, .slice c.ha c.shapes.length c.hc, .slice c.ua c.units.length c.uc, .int .i64 c.main]) .a) .a ?_
 refine RCG (dst := some 14) .a (hR) (GV (GV (GV (GV (GV (GV (GI []) 5 view_ro) 4 view_self) 3 view_ro) 2 view_self) 1 view_ro) 0 view_ro) ?_
 rintro r _ ⟨rfl, rfl⟩
 cases hb : rightC c.p with
 | false =>
  refine RR [] .z (.i 15 (.bool true) (.d (.d (.k .a)))) .a ?_
  refine RZ (NT (CT (SQ (RG ?_))))
  refine RR [] .z (.i 3 (.int .i64 2) (.d (.d (.k .a)))) .a ?_
  refine RZ (NT (RE (TR ?_)))
  refine NE [] .z .a [] (.tuple #[.slice none 0 0, .int .i64 2]) ?_
  rw [if_neg (by decide)]
  exact ⟨rfl, rfl⟩
 | true =>
 have hB := encCo_l (right_n hc hb) (right_head hb)
 have hE0 : (encCo c.p).length = (encTs c.strs).length + (encR encSh (c.shapes.map ShV.p)).length + (encR encU (c.units.map UnV.p)).length + (encI c.main).length := by
  unfold encCo CoV.p; simp only [List.length_append]
 have hE1 := encR_l encSh (c.shapes.map ShV.p)
 have hE2 := encR_l encU (c.units.map UnV.p)
 rw [List.length_map] at hE1 hE2
 refine RR [] .z (.i 15 (.bool false) (.d (.d (.k .a)))) .a ?_
 refine RZ (NT (CF (SK (NT (SQ (RG ?_))))))
 refine RR [6] (.d (.d .a)) (.i 17 (.slice c.sa c.strs.length c.sc) (.d (.k .a))) .a ?_
 refine wpr_ent (ent_nil 5 1) ?_
 refine RCG (dst := some 18) (.d (.k .a)) (texts_spec none 0 [] c.sa c.sc c.strs hs1 hs2 (by rw [List.length_nil]; omega)) (GO (GV (GJ [0]) 0 view_ro) [1, 0]) ?_
 rintro r _ ⟨a1, c1, rfl, rfl⟩
 rw [List.nil_append]
 obtain ⟨b0, hb0⟩ : ∃ b0, b0 = encTs c.strs := ⟨_, rfl⟩
 rw [← hb0] at hE0 ⊢
 refine RR [] .z (.i 4 (.slice a1 ([] ++ b0).length c1) (.d (.d (.k .a)))) .a ?_
 refine RZ (NT (SQ (RG ?_)))
 refine RR [7] (.d (.d (.d (.d .a)))) (.i 22 (.int .i64 (↑c.shapes.length : Int)) (.i 19 (.slice a1 ([] ++ b0).length c1) .a)) .a ?_
 refine RC (dst := some 23) [0] (.d (.k .a)) (PutInt_spec a1 c1 b0 c.shapes.length (by omega) (by omega) (by omega)) ?_
 rintro r _ ⟨a2, c2, rfl, rfl⟩
 obtain ⟨b1, hb1⟩ : ∃ b1, b1 = b0 ++ encI c.shapes.length := ⟨_, rfl⟩
 have hbl1 : b1.length = b0.length + (encI c.shapes.length).length := by rw [hb1, List.length_append]
 rw [← hb1]
 refine RR [] .z (.i 4 (.slice a2 b1.length c2) (.d (.d (.d (.d (.k .a)))))) .a ?_
 refine RZ (NT (SQ (SQ (RG ?_))))
 refine RR [7] .z (.i 27 (.int .i64 0) (.i 26 (.int .i64 (↑c.shapes.length : Int)) (.i 25 (.slice c.ha c.shapes.length c.hc) .a))) .a ?_
 refine RZ (NT (BK ?_))
 refine wpc_loop (X := {x : Nat × Option Addr × Nat // x.1 ≤ c.shapes.length}) (fun x => St.mk [(27, .int .i64 (x.1.1 : Int)), (26, .int .i64 c.shapes.length), (25, .slice c.ha c.shapes.length c.hc), (4, .slice x.1.2.1 (b1 ++ ((c.shapes.map ShV.p).take x.1.1).flatMap encSh).length x.1.2.2), (3, .int .i64 0), (2, .slice none 0 0), (1, .pointer (some ⟨g1, 0, none⟩))]
  [row 5 1 x.1.2.1 (b1 ++ ((c.shapes.map ShV.p).take x.1.1).flatMap encSh).length x.1.2.2 (u8s (b1 ++ ((c.shapes.map ShV.p).take x.1.1).flatMap encSh)), ro c.ha (c.shapes.flatMap shC), gSh c.shapes, ro c.ua (c.units.flatMap unC), gUn c.units, .blk g1 26 [.slice c.sa c.strs.length c.sc, .slice c.ha c.shapes.length c.hc, .slice c.ua c.units.length c.uc, .int .i64 c.main]]) (fun x => c.shapes.length - x.1.1) ⟨(0, a2, c2), Nat.zero_le _⟩ ?_ ?_
 ·show Ent _ _ (St.mk [_, _, _, (4, .slice a2 (b1 ++ []).length c2), _, _, _] [row _ 1 a2 (b1 ++ []).length c2 (u8s (b1 ++ [])), _, _, _, _, _])
  rw [List.append_nil]
  exact Ent.trans (ent_hp [0, 1, 1, 1, 1, 2] rfl) (ent_fr (by kernel_rfl))
 rintro ⟨⟨i, a3, c3⟩, hi⟩
 dsimp only at hi ⊢
 by_cases hlt : i < c.shapes.length
 ·have hme := mp_take_le ShV.p encSh hlt
  obtain ⟨b2, hb2⟩ : ∃ b2, b2 = b1 ++ ((c.shapes.map ShV.p).take i).flatMap encSh := ⟨_, rfl⟩
  have hbl : b2.length = b1.length + (((c.shapes.map ShV.p).take i).flatMap encSh).length := by rw [hb2, List.length_append]
  have hxl : (encSh c.shapes[i].p).length = (encT c.shapes[i].name).length + (encTs c.shapes[i].fields).length := by unfold encSh ShV.p; rw [List.length_append]
  rw [← hb2]
  obtain ⟨x1, x2, x3⟩ := hh2 _ (List.getElem_mem hlt)
  unfold okText at x1
  refine wpc_fact (fun w h => ro_addr h 1 rfl (by rw [shs_len]; omega)) ?_
  rintro ⟨g0, o0, hha⟩
  rw [hha]
  refine SQ (RG ?_)
  refine RR [] .z (.i 28 (.bool (decide ((↑i : Int) < (↑c.shapes.length : Int)))) .a) .a ?_
  refine RZ (NT (SQ ?_))
  refine SC 28 (decide ((↑i : Int) < (↑c.shapes.length : Int))) true (decide_eq_true (by omega)) ?_
  refine CT (SK (NT (SQ (BK (SQ (RG ?_))))))
  refine RV true [] (.d .a) (.i 29 (.pointer (some ⟨g0, o0 + i * 2, none⟩)) (.d (.d (.k .a)))) .a [(0 : Int) ≤ (↑i : Int) ∧ (↑i : Int) < (↑c.shapes.length : Int)] ⟨by omega, trivial⟩ ?_
  refine wpr_eq (ld (t := 111) (a := ⟨g0, o0 + i * 2, none⟩) (dst := some 30) (by kernel_rfl) true 2 (by kernel_rfl) (by simp) (shC c.shapes[i]) rfl (fun w h => ld_ro h 1 rfl (i * 2) (shs_at hlt))) ?_
  refine RP [] (.d .a) 6 (.i 30 (.agg #[.string (mkS c.shapes[i].name), .slice c.shapes[i].fa c.shapes[i].fields.length c.shapes[i].fc]) (.d (.d (.k .a)))) .a 111 [.string ⟨#[]⟩, .slice none 0 0] fun g2 => ?_
  refine RR [6, 6] .z (.k (.d (.k .a))) (.k (.k (.k (.k (.k (.k (.u (.i (.string (mkS c.shapes[i].name)) (.i (.slice c.shapes[i].fa c.shapes[i].fields.length c.shapes[i].fc) .z)) .a))))))) ?_
  refine RZ (NT ?_)
  refine wpc_draw (by kernel_rfl) [.blk g2 111 [.string (mkS c.shapes[i].name), .slice c.shapes[i].fa c.shapes[i].fields.length c.shapes[i].fc]] (sub_of [6] (by kernel_rfl)) 8 (by kernel_rfl) ?_
  refine TK 3 [(0, []), (1, []), (2, [0]), (4, []), (5, [0])] (.i 36 (.slice c.shapes[i].fa c.shapes[i].fields.length c.shapes[i].fc) (.i 33 (.string (mkS c.shapes[i].name)) (.i 31 (.slice a3 b2.length c3) (.d (.k .a))))) (#[true, true, true, false, true, true, false, false]) ?_
  refine AC (dst := some 34) 2 3 (.d (.k .a)) (PutText_spec a3 c3 b2 c.shapes[i].name (by omega) (by omega)) (GI [0]) [5] ?_
  rintro r _ ⟨a4, c4, rfl, rfl⟩
  refine wpa_ent (ent_copy 2 (ro c.shapes[i].fa (strsC c.shapes[i].fields)) rfl (fun h => h) (view_in (shRo_in hlt) view_ro)) ?_
  refine AC (dst := some 37) 1 6 (.k (.d (.k .a))) (texts_spec a4 c4 (b2 ++ encT c.shapes[i].name) c.shapes[i].fa c.shapes[i].fc c.shapes[i].fields x2 x3 (by rw [List.length_append]; omega)) (GO (GV (GJ [1]) 0 view_ro) [1, 0]) [6] ?_
  rintro r _ ⟨a5, c5, rfl, rfl⟩
  refine TK 0 [(7, [])] (.i 4 (.slice a5 (b2 ++ encT c.shapes[i].name ++ encTs c.shapes[i].fields).length c5) (.d (.d (.d (.d (.d (.k (.k (.k (.d (.k .a))))))))))) (#[true, true, true, true, true, true, true, true]) ?_
  refine wpa_done 0 (by kernel_rfl) ?_
  refine BN (NT (RG ?_))
  refine RV true [] .z (.i 27 (.int .i64 ((↑i : Int) + 1)) (.k (.d (.k .a)))) .a ([inI64 ((↑i : Int) + (1 : Int))]) ⟨by unfold inI64; omega, trivial⟩ ?_
  refine RZ ?_
  rw [← hha, show b2 ++ encT c.shapes[i].name ++ encTs c.shapes[i].fields = b1 ++ ((c.shapes.map ShV.p).take (i + 1)).flatMap encSh from by rw [hb2, mp_take_succ ShV.p encSh hlt]; unfold encSh ShV.p; simp]
  exact fun a' w' hS' => ⟨⟨(i + 1, a5, c5), hlt⟩, by dsimp only; omega, ent_fr (by kernel_rfl) _ _ (ent_hp [0, 1, 1, 1, 1, 1] rfl _ _ hS')⟩
 obtain rfl : i = c.shapes.length := by omega
 rw [show (c.shapes.map ShV.p).take c.shapes.length = c.shapes.map ShV.p from List.take_of_length_le (by rw [List.length_map]; exact Nat.le_refl _)]
 obtain ⟨b2, hb2⟩ : ∃ b2, b2 = b1 ++ (c.shapes.map ShV.p).flatMap encSh := ⟨_, rfl⟩
 have hbl2 : b2.length = b1.length + ((c.shapes.map ShV.p).flatMap encSh).length := by rw [hb2, List.length_append]
 rw [← hb2]
 refine SQ (RG ?_)
 refine RR [] .z (.i 28 (.bool (decide ((↑c.shapes.length : Int) < (↑c.shapes.length : Int)))) .a) .a ?_
 refine RZ (NT (SQ ?_))
 refine SC 28 (decide ((↑c.shapes.length : Int) < (↑c.shapes.length : Int))) false (by simp) ?_
 refine CF (EX (TE (TE (BH (NT (SQ (RG ?_)))))))
 refine RR [5] (.d (.d (.d (.d .a)))) (.i 42 (.int .i64 (↑c.units.length : Int)) (.i 39 (.slice a3 b2.length c3) (.d (.d (.d (.d (.d (.k .a)))))))) .a ?_
 refine RC (dst := some 43) [0] (.d (.k .a)) (PutInt_spec a3 c3 b2 c.units.length (by omega) (by omega) (by omega)) ?_
 rintro r _ ⟨a4, c4, rfl, rfl⟩
 obtain ⟨b3, hb3⟩ : ∃ b3, b3 = b2 ++ encI c.units.length := ⟨_, rfl⟩
 have hbl3 : b3.length = b2.length + (encI c.units.length).length := by rw [hb3, List.length_append]
 rw [← hb3]
 refine RR [] .z (.i 4 (.slice a4 b3.length c4) (.d (.d (.d (.d (.k .a)))))) .a ?_
 refine RZ (NT (SQ (SQ (RG ?_))))
 refine RR [5] .z (.i 47 (.int .i64 0) (.i 46 (.int .i64 (↑c.units.length : Int)) (.i 45 (.slice c.ua c.units.length c.uc) .a))) .a ?_
 refine RZ (NT (BK ?_))
 refine wpc_loop (X := {x : Nat × Option Addr × Nat // x.1 ≤ c.units.length}) (fun x => St.mk [(47, .int .i64 (x.1.1 : Int)), (46, .int .i64 c.units.length), (45, .slice c.ua c.units.length c.uc), (4, .slice x.1.2.1 (b3 ++ ((c.units.map UnV.p).take x.1.1).flatMap encU).length x.1.2.2), (3, .int .i64 0), (2, .slice none 0 0), (1, .pointer (some ⟨g1, 0, none⟩))]
  [row 5 1 x.1.2.1 (b3 ++ ((c.units.map UnV.p).take x.1.1).flatMap encU).length x.1.2.2 (u8s (b3 ++ ((c.units.map UnV.p).take x.1.1).flatMap encU)), ro c.ua (c.units.flatMap unC), gUn c.units, .blk g1 26 [.slice c.sa c.strs.length c.sc, .slice c.ha c.shapes.length c.hc, .slice c.ua c.units.length c.uc, .int .i64 c.main]]) (fun x => c.units.length - x.1.1) ⟨(0, a4, c4), Nat.zero_le _⟩ ?_ ?_
 ·show Ent _ _ (St.mk [_, _, _, (4, .slice a4 (b3 ++ []).length c4), _, _, _] [row _ 1 a4 (b3 ++ []).length c4 (u8s (b3 ++ [])), _, _, _])
  rw [List.append_nil]
  exact Ent.trans (ent_hp [0, 2, 2, 2] rfl) (ent_fr (by kernel_rfl))
 rintro ⟨⟨i, a5, c5⟩, hi⟩
 dsimp only at hi ⊢
 by_cases hlt : i < c.units.length
 ·have hme := mp_take_le UnV.p encU hlt
  obtain ⟨b4, hb4⟩ : ∃ b4, b4 = b3 ++ ((c.units.map UnV.p).take i).flatMap encU := ⟨_, rfl⟩
  have hbl4 : b4.length = b3.length + (((c.units.map UnV.p).take i).flatMap encU).length := by rw [hb4, List.length_append]
  obtain ⟨x1, x2, x3, x4, x5, x6, x7, x8⟩ := hu2 _ (List.getElem_mem hlt)
  unfold okText at x1
  have hxl : (encU c.units[i].p).length = (encT c.units[i].name).length + (encI c.units[i].params).length + (encI c.units[i].slots).length + (encI c.units[i].stack).length + (encB c.units[i].result).length + (encR encIn c.units[i].ins).length + (encR encVr c.units[i].vars).length := by unfold encU UnV.p; simp only [List.length_append]
  have hxi := encR_l encIn c.units[i].ins
  have hxv := encR_l encVr c.units[i].vars
  rw [← hb4]
  refine wpc_fact (fun w h => ro_addr h 1 rfl (by rw [uns_len]; omega)) ?_
  rintro ⟨g0, o0, hua⟩
  rw [hua]
  refine SQ (RG ?_)
  refine RR [] .z (.i 48 (.bool (decide ((↑i : Int) < (↑c.units.length : Int)))) .a) .a ?_
  refine RZ (NT (SQ ?_))
  refine SC 48 (decide ((↑i : Int) < (↑c.units.length : Int))) true (decide_eq_true (by omega)) ?_
  refine CT (SK (NT (SQ (BK (SQ (RG ?_))))))
  refine RV true [] (.d .a) (.i 49 (.pointer (some ⟨g0, o0 + i * 7, none⟩)) (.d (.d (.k .a)))) .a [(0 : Int) ≤ (↑i : Int) ∧ (↑i : Int) < (↑c.units.length : Int)] ⟨by omega, trivial⟩ ?_
  refine wpr_eq (ld (t := 59) (a := ⟨g0, o0 + i * 7, none⟩) (dst := some 50) (by kernel_rfl) true 7 (by kernel_rfl) (by simp) (unC c.units[i]) rfl (fun w h => ld_ro h 1 rfl (i * 7) (uns_at hlt))) ?_
  refine RP [] (.d .a) 8 (.i 50 (.agg #[.string (mkS c.units[i].name), .int .i64 c.units[i].params, .int .i64 c.units[i].slots, .int .i64 c.units[i].stack, .bool c.units[i].result, .slice c.units[i].ia c.units[i].ins.length c.units[i].ic, .slice c.units[i].va c.units[i].vars.length c.units[i].vc]) (.d (.d (.k .a)))) .a 59 [.string ⟨#[]⟩, .int .i64 0, .int .i64 0, .int .i64 0, .bool false, .slice none 0 0, .slice none 0 0] fun g2 => ?_
  refine RR [4, 4, 4, 4, 4, 4, 4] .z (.k (.d (.k .a))) (.k (.k (.k (.k (.u (.i (.string (mkS c.units[i].name)) (.i (.int .i64 c.units[i].params) (.i (.int .i64 c.units[i].slots) (.i (.int .i64 c.units[i].stack) (.i (.bool c.units[i].result) (.i (.slice c.units[i].ia c.units[i].ins.length c.units[i].ic) (.i (.slice c.units[i].va c.units[i].vars.length c.units[i].vc) .z))))))) .a))))) ?_
  refine RZ (NT (SQ ?_))
  have e3 : ([c.units[i].params, c.units[i].slots, c.units[i].stack].flatMap encI).length = (encI c.units[i].params).length + (encI c.units[i].slots).length + (encI c.units[i].stack).length := by simp only [List.flatMap_cons, List.flatMap_nil, List.append_nil, List.length_append]; omega
  have hb1 : (encB c.units[i].result).length = 1 := rfl
  refine wpc_draw (by kernel_rfl) [.blk g2 59 [.string (mkS c.units[i].name), .int .i64 c.units[i].params, .int .i64 c.units[i].slots, .int .i64 c.units[i].stack, .bool c.units[i].result, .slice c.units[i].ia c.units[i].ins.length c.units[i].ic, .slice c.units[i].va c.units[i].vars.length c.units[i].vc]] (sub_of [4] (by kernel_rfl)) 13 (by kernel_rfl) ?_
  refine TK 4 [(0, []), (1, []), (2, [0]), (4, []), (5, [0]), (6, []), (7, [0]), (8, []), (9, [0])] (.i 60 (.int .i64 c.units[i].stack) (.i 58 (.int .i64 c.units[i].slots) (.i 56 (.int .i64 c.units[i].params) (.i 53 (.string (mkS c.units[i].name)) (.i 51 (.slice a5 b4.length c5) .a))))) (#[true, true, true, false, true, true, true, true, true, true, false, false, false]) ?_
  refine wpa_joinx (X := Option Addr × Nat) (fun y => St.mk [(4, .slice y.1 (b4 ++ encT c.units[i].name ++ [c.units[i].params, c.units[i].slots, c.units[i].stack].flatMap encI).length y.2), (8, .pointer (some ⟨g2, 0, none⟩)), (47, .int .i64 (i : Int)), (46, .int .i64 c.units.length), (45, .slice (some ⟨g0, o0, none⟩) c.units.length c.uc), (3, .int .i64 0), (2, .slice none 0 0), (1, .pointer (some ⟨g1, 0, none⟩))] [row 5 1 y.1 (b4 ++ encT c.units[i].name ++ [c.units[i].params, c.units[i].slots, c.units[i].stack].flatMap encI).length y.2 (u8s (b4 ++ encT c.units[i].name ++ [c.units[i].params, c.units[i].slots, c.units[i].stack].flatMap encI)), ro (some ⟨g0, o0, none⟩) (c.units.flatMap unC), gUn c.units, .blk g1 26 [.slice c.sa c.strs.length c.sc, .slice c.ha c.shapes.length c.hc, .slice (some ⟨g0, o0, none⟩) c.units.length c.uc, .int .i64 c.main], .blk g2 59 [.string (mkS c.units[i].name), .int .i64 c.units[i].params, .int .i64 c.units[i].slots, .int .i64 c.units[i].stack, .bool c.units[i].result, .slice c.units[i].ia c.units[i].ins.length c.units[i].ic, .slice c.units[i].va c.units[i].vars.length c.units[i].vc]]) (fun Q1 hQ1 hk => ?_) ?_
  ·refine wpa_two (i := 3) (j := 10) (n := 3) (by kernel_rfl) ?_ ?_
   ·refine wpi_call (i := 3) (dst := some 54) (rest := [ro (some ⟨g0, o0, none⟩) (List.flatMap unC c.units), gUn c.units, .blk g1 26 [.slice c.sa c.strs.length c.sc, .slice c.ha c.shapes.length c.hc, .slice (some ⟨g0, o0, none⟩) c.units.length c.uc, .int .i64 c.main], .blk g2 59 [.string (mkS c.units[i].name), .int .i64 c.units[i].params, .int .i64 c.units[i].slots, .int .i64 c.units[i].stack, .bool c.units[i].result, .slice c.units[i].ia c.units[i].ins.length c.units[i].ic, .slice c.units[i].va c.units[i].vars.length c.units[i].vc]]) (by kernel_rfl) (PutText_spec a5 c5 b4 c.units[i].name (by omega) (by omega)) (give [0] (by kernel_rfl)) (sub_of [3] (by kernel_rfl)) ?_
    rintro r _ ⟨a6, c6, rfl, rfl⟩
    refine wpa_new (n := 2) true 10 [] (fun g3 => ([(61, .slice (some ⟨g3, 0, none⟩) 3 3), (54, .slice a6 (b4 ++ encT c.units[i].name).length c6), (8, .pointer (some ⟨g2, 0, none⟩)), (47, .int .i64 (↑i : Int)), (46, .int .i64 (↑c.units.length : Int)), (45, .slice (some ⟨g0, o0, none⟩) c.units.length c.uc), (4, .slice a5 b4.length c5), (3, .int .i64 0), (2, .slice none 0 0), (1, .pointer (some ⟨g1, 0, none⟩))])) (fun g3 => ([row 5 1 a6 (b4 ++ encT c.units[i].name).length c6 (u8s (b4 ++ encT c.units[i].name)), ro (some ⟨g0, o0, none⟩) (List.flatMap unC c.units), gUn c.units, .blk g1 26 [.slice c.sa c.strs.length c.sc, .slice c.ha c.shapes.length c.hc, .slice (some ⟨g0, o0, none⟩) c.units.length c.uc, .int .i64 c.main], .blk g2 59 [.string (mkS c.units[i].name), .int .i64 c.units[i].params, .int .i64 c.units[i].slots, .int .i64 c.units[i].stack, .bool c.units[i].result, .slice c.units[i].ia c.units[i].ins.length c.units[i].ic, .slice c.units[i].va c.units[i].vars.length c.units[i].vc], .blk g3 3 [.int .i64 c.units[i].params, .int .i64 c.units[i].slots, .int .i64 c.units[i].stack]])) (fun g3 => []) (by kernel_rfl) (fun g3 => by kernel_rfl) (fun g3 => by kernel_rfl) (fun g3 => trivial) (fun g3 => sub_of [4] (by kernel_rfl)) fun g3 => ?_
    refine wpa_ent (ent_turn 5 (ro (some ⟨g3, 0, none⟩) (ints [c.units[i].params, c.units[i].slots, c.units[i].stack])) rfl (turn_rints [c.units[i].params, c.units[i].slots, c.units[i].stack] rfl) rfl) ?_
    refine AC (dst := some 62) 1 11 (.d (.k .a)) (nums_spec a6 c6 (b4 ++ encT c.units[i].name) (some ⟨g3, 0, none⟩) 3 [c.units[i].params, c.units[i].slots, c.units[i].stack] (by simp) (fun t ht => by simp only [List.mem_cons, List.not_mem_nil, or_false] at ht; rcases ht with rfl | rfl | rfl <;> assumption) (by rw [List.length_append, e3]; omega)) (GO (GV (GJ [0]) 4 view_ro) [1, 0]) [3] ?_
    rintro r _ ⟨a7, c7, rfl, rfl⟩
    refine TK 0 [(12, [])] (.i 4 (.slice a7 (b4 ++ encT c.units[i].name ++ List.flatMap encI [c.units[i].params, c.units[i].slots, c.units[i].stack]).length c7) (.d (.d (.d (.k (.k (.k (.k (.d (.k .a)))))))))) (#[true, true, true, true, true, true, true, true, true, true, true, true, true]) ?_
    refine wpa_done 0 (by kernel_rfl) ?_
    exact nx_ent (ent_hp [0, 0, 0, 0, 0] rfl) (nx_ent (ent_fr (by kernel_rfl)) (hk ⟨a7, c7⟩))
   ·refine wpi_new (n := 3) true 10 [] (fun g3 => [(61, .slice (some ⟨g3, 0, none⟩) 3 3), (53, .string (mkS c.units[i].name)), (51, .slice a5 b4.length c5), (8, .pointer (some ⟨g2, 0, none⟩)), (47, .int .i64 (↑i : Int)), (46, .int .i64 (↑c.units.length : Int)), (45, .slice (some ⟨g0, o0, none⟩) c.units.length c.uc), (4, .slice a5 b4.length c5), (3, .int .i64 0), (2, .slice none 0 0), (1, .pointer (some ⟨g1, 0, none⟩))]) (fun g3 => [row 5 1 a5 b4.length c5 (u8s b4), ro (some ⟨g0, o0, none⟩) (List.flatMap unC c.units), gUn c.units, .blk g1 26 [.slice c.sa c.strs.length c.sc, .slice c.ha c.shapes.length c.hc, .slice (some ⟨g0, o0, none⟩) c.units.length c.uc, .int .i64 c.main], .blk g2 59 [.string (mkS c.units[i].name), .int .i64 c.units[i].params, .int .i64 c.units[i].slots, .int .i64 c.units[i].stack, .bool c.units[i].result, .slice c.units[i].ia c.units[i].ins.length c.units[i].ic, .slice c.units[i].va c.units[i].vars.length c.units[i].vc], .blk g3 3 [.int .i64 c.units[i].params, .int .i64 c.units[i].slots, .int .i64 c.units[i].stack]]) (fun g3 => []) (fun g3 => by kernel_rfl) (fun g3 => by kernel_rfl) (fun g3 => trivial) (fun g3 => sub_of [4] (by kernel_rfl)) fun g3 => ?_
    refine AC (dst := some 54) 2 3 (.d (.k .a)) (PutText_spec a5 c5 b4 c.units[i].name (by omega) (by omega)) (GI [0]) [3] ?_
    rintro r _ ⟨a6, c6, rfl, rfl⟩
    refine wpa_ent (ent_turn 5 (ro (some ⟨g3, 0, none⟩) (ints [c.units[i].params, c.units[i].slots, c.units[i].stack])) rfl (turn_rints [c.units[i].params, c.units[i].slots, c.units[i].stack] rfl) rfl) ?_
    refine AC (dst := some 62) 1 11 (.d (.k .a)) (nums_spec a6 c6 (b4 ++ encT c.units[i].name) (some ⟨g3, 0, none⟩) 3 [c.units[i].params, c.units[i].slots, c.units[i].stack] (by simp) (fun t ht => by simp only [List.mem_cons, List.not_mem_nil, or_false] at ht; rcases ht with rfl | rfl | rfl <;> assumption) (by rw [List.length_append, e3]; omega)) (GO (GV (GJ [0]) 4 view_ro) [1, 0]) [3] ?_
    rintro r _ ⟨a7, c7, rfl, rfl⟩
    refine TK 0 [(12, [])] (.i 4 (.slice a7 (b4 ++ encT c.units[i].name ++ List.flatMap encI [c.units[i].params, c.units[i].slots, c.units[i].stack]).length c7) (.d (.d (.d (.d (.d (.k (.k (.k (.k (.d (.k .a)))))))))))) (#[true, true, true, true, true, true, true, true, true, true, true, true, true]) ?_
    refine wpa_done 0 (by kernel_rfl) ?_
    exact nx_ent (ent_hp [0, 0, 0, 0, 0] rfl) (nx_ent (ent_fr (by kernel_rfl)) (hk ⟨a7, c7⟩))
  rintro ⟨a6, c6⟩
  dsimp only
  obtain ⟨b5, hb5⟩ : ∃ b, b = b4 ++ encT c.units[i].name ++ [c.units[i].params, c.units[i].slots, c.units[i].stack].flatMap encI := ⟨_, rfl⟩
  have hbl5 : b5.length = b4.length + (encT c.units[i].name).length + ([c.units[i].params, c.units[i].slots, c.units[i].stack].flatMap encI).length := by rw [hb5, List.length_append, List.length_append]
  rw [e3] at hbl5
  rw [← hb5]
  refine NT (SQ ?_)
  refine wpc_draw (by kernel_rfl) [.blk g2 59 [.string (mkS c.units[i].name), .int .i64 c.units[i].params, .int .i64 c.units[i].slots, .int .i64 c.units[i].stack, .bool c.units[i].result, .slice c.units[i].ia c.units[i].ins.length c.units[i].ic, .slice c.units[i].va c.units[i].vars.length c.units[i].vc]] (sub_of [4] (by kernel_rfl)) 9 (by kernel_rfl) ?_
  refine TK 3 [(0, []), (1, []), (2, [0]), (4, []), (5, [0]), (6, [])] (.i 69 (.int .i64 (↑c.units[i].ins.length : Int)) (.i 65 (.bool c.units[i].result) (.i 63 (.slice a6 b5.length c6) .a))) (#[true, true, true, false, true, true, true, false, false]) ?_
  refine AC (dst := some 66) 2 3 (.d (.k .a)) (PutBool_spec a6 c6 b5 c.units[i].result (by omega)) (GI [0]) [3] ?_
  rintro r _ ⟨a7, c7, rfl, rfl⟩
  refine AC (dst := some 70) 1 7 (.d (.k .a)) (PutInt_spec a7 c7 (b5 ++ encB c.units[i].result) c.units[i].ins.length (by omega) (by omega) (by rw [List.length_append]; omega)) (GI [0]) [3] ?_
  rintro r _ ⟨a8, c8, rfl, rfl⟩
  obtain ⟨b6, hb6⟩ : ∃ b, b = b5 ++ encB c.units[i].result ++ encI c.units[i].ins.length := ⟨_, rfl⟩
  have hbl6 : b6.length = b5.length + 1 + (encI c.units[i].ins.length).length := by rw [hb6, List.length_append, List.length_append, hb1]
  rw [← hb6]
  refine TK 0 [(8, [])] (.i 4 (.slice a8 b6.length c8) (.d (.d (.d (.d (.d (.d (.k .a)))))))) (#[true, true, true, true, true, true, true, true, true]) ?_
  refine wpa_done 0 (by kernel_rfl) ?_
  refine NT (SQ (SQ (RG ?_)))
  refine RR [4] .z (.i 74 (.int .i64 0) (.i 73 (.int .i64 (↑c.units[i].ins.length : Int)) (.i 72 (.slice c.units[i].ia c.units[i].ins.length c.units[i].ic) .a))) .a ?_
  refine RZ (NT (BK ?_))
  refine wpc_ent (ent_copy 2 (ro c.units[i].ia (c.units[i].ins.flatMap insC)) rfl (fun h => h) (view_in (unRo_in1 hlt) view_ro)) ?_
  refine wpc_ent (ent_copy 3 (ro c.units[i].va (c.units[i].vars.flatMap varC)) rfl (fun h => h) (view_in (unRo_in2 hlt) view_ro)) ?_
  refine wpc_loop (X := {x : Nat × Option Addr × Nat // x.1 ≤ c.units[i].ins.length}) (fun x => St.mk [(74, .int .i64 (x.1.1 : Int)), (73, .int .i64 c.units[i].ins.length), (72, .slice c.units[i].ia c.units[i].ins.length c.units[i].ic), (8, .pointer (some ⟨g2, 0, none⟩)), (4, .slice x.1.2.1 (b6 ++ (c.units[i].ins.take x.1.1).flatMap encIn).length x.1.2.2), (47, .int .i64 (i : Int)), (46, .int .i64 c.units.length), (45, .slice (some ⟨g0, o0, none⟩) c.units.length c.uc), (3, .int .i64 0), (2, .slice none 0 0), (1, .pointer (some ⟨g1, 0, none⟩))]
   [row 5 1 x.1.2.1 (b6 ++ (c.units[i].ins.take x.1.1).flatMap encIn).length x.1.2.2 (u8s (b6 ++ (c.units[i].ins.take x.1.1).flatMap encIn)), ro (some ⟨g0, o0, none⟩) (c.units.flatMap unC), gUn c.units, ro c.units[i].ia (c.units[i].ins.flatMap insC), ro c.units[i].va (c.units[i].vars.flatMap varC), .blk g1 26 [.slice c.sa c.strs.length c.sc, .slice c.ha c.shapes.length c.hc, .slice (some ⟨g0, o0, none⟩) c.units.length c.uc, .int .i64 c.main], .blk g2 59 [.string (mkS c.units[i].name), .int .i64 c.units[i].params, .int .i64 c.units[i].slots, .int .i64 c.units[i].stack, .bool c.units[i].result, .slice c.units[i].ia c.units[i].ins.length c.units[i].ic, .slice c.units[i].va c.units[i].vars.length c.units[i].vc]]) (fun x => c.units[i].ins.length - x.1.1) ⟨(0, a8, c8), Nat.zero_le _⟩ ?_ ?_
  ·show Ent _ _ (St.mk [_, _, _, _, (4, .slice a8 (b6 ++ []).length c8), _, _, _, _, _, _] [row _ 1 a8 (b6 ++ []).length c8 (u8s (b6 ++ [])), _, _, _, _, _, _])
   rw [List.append_nil]
   exact Ent.trans (ent_hp [2, 2, 2, 1, 0, 0, 0] rfl) (ent_fr (by kernel_rfl))
  rintro ⟨⟨m, a9, c9⟩, hm⟩
  dsimp only at hm ⊢
  by_cases hmt : m < c.units[i].ins.length
  ·have hme2 := flat_take_le encIn hmt
   obtain ⟨b7, hb7⟩ : ∃ b, b = b6 ++ (c.units[i].ins.take m).flatMap encIn := ⟨_, rfl⟩
   have hbl7 : b7.length = b6.length + ((c.units[i].ins.take m).flatMap encIn).length := by rw [hb7, List.length_append]
   rw [← hb7]
   obtain ⟨y1, y2⟩ := x7 _ (List.getElem_mem hmt)
   obtain ⟨⟨op, ag⟩, hop⟩ : ∃ x, x = c.units[i].ins[m] := ⟨_, rfl⟩
   rw [← hop] at y1 y2 hme2
   have hop2 : ((c.units[i].ins.flatMap insC).drop (m * 2)).take 2 = insC (op, ag) := by rw [ins_at hmt, hop]
   have e2 : ([op, ag].flatMap encI).length = (encIn (op, ag)).length := by unfold encIn; simp
   refine wpc_fact (fun w h => ro_addr h 3 rfl (by rw [ins_len]; omega)) ?_
   rintro ⟨g5, o5, hia⟩
   rw [hia]
   refine SQ (RG ?_)
   refine RR [] .z (.i 75 (.bool (decide ((↑m : Int) < (↑c.units[i].ins.length : Int)))) .a) .a ?_
   refine RZ (NT (SQ ?_))
   refine SC 75 (decide ((↑m : Int) < (↑c.units[i].ins.length : Int))) true (decide_eq_true (by omega)) ?_
   refine CT (SK (NT (SQ (BK (SQ (RG ?_))))))
   refine RV true [] (.d .a) (.i 76 (.pointer (some ⟨g5, o5 + m * 2, none⟩)) (.d (.d (.k .a)))) .a [(0 : Int) ≤ (↑m : Int) ∧ (↑m : Int) < (↑c.units[i].ins.length : Int)] ⟨by omega, trivial⟩ ?_
   refine wpr_eq (ld (t := 62) (a := ⟨g5, o5 + m * 2, none⟩) (dst := some 77) (by kernel_rfl) true 2 (by kernel_rfl) (by simp) (insC (op, ag)) rfl (fun w h => ld_ro h 3 rfl (m * 2) hop2)) ?_
   refine RP [] (.d .a) 10 (.i 77 (.agg #[.int .i64 op, .int .i64 ag]) (.d (.d (.k .a)))) .a 62 [.int .i64 0, .int .i64 0] fun g3 => ?_
   refine RR [7, 7] .z (.k (.d (.k .a))) (.k (.k (.k (.k (.k (.k (.k (.u (.i (.int .i64 op) (.i (.int .i64 ag) .z)) .a)))))))) ?_
   refine RZ (NT (RG ?_))
   refine RN [7, 7] (.d (.d (.d (.d (.d (.d .a)))))) 83 (fun g4 => (.slice (some ⟨g4, 0, none⟩) 2 2)) (.i 78 (.slice a9 b7.length c9) (.d (.k .a))) .a 3 [.int .i64 op, .int .i64 ag] fun g4 => ?_
   refine wpr_ent (ent_turn 8 (ro (some ⟨g4, 0, none⟩) (ints [op, ag])) rfl (turn_rints [op, ag] rfl) rfl) ?_
   refine RCG (dst := some 84) (.d (.k .a)) (nums_spec a9 c9 b7 (some ⟨g4, 0, none⟩) 2 [op, ag] (by simp) (fun t ht => by simp only [List.mem_cons, List.not_mem_nil, or_false] at ht; rcases ht with rfl | rfl <;> assumption) (by rw [e2]; omega)) (GO (GV (GJ [0]) 7 view_ro) [1, 0]) ?_
   rintro r _ ⟨aA, cA, rfl, rfl⟩
   rw [← hia, show b7 ++ [op, ag].flatMap encI = b6 ++ (c.units[i].ins.take (m + 1)).flatMap encIn from by rw [hb7, flat_take_succ encIn hmt, ← hop, List.append_assoc]; unfold encIn; simp]
   refine RR [] .z (.i 4 (.slice aA (b6 ++ List.flatMap encIn (List.take (m + 1) c.units[i].ins)).length cA) (.d (.d (.d (.k (.k (.k (.k (.d (.k .a)))))))))) .a ?_
   refine RZ (BN (NT (RG ?_)))
   refine RV true [] .z (.i 74 (.int .i64 ((↑m : Int) + 1)) (.k (.d (.k .a)))) .a ([inI64 ((↑m : Int) + (1 : Int))]) ⟨by unfold inI64; omega, trivial⟩ ?_
   refine RZ ?_
   exact fun a' w' hS' => ⟨⟨(m + 1, aA, cA), hmt⟩, by dsimp only; omega, ent_fr (by kernel_rfl) _ _ (ent_hp [0, 0, 0, 0, 0, 0, 0] rfl _ _ hS')⟩
  obtain rfl : m = c.units[i].ins.length := by omega
  rw [List.take_length]
  obtain ⟨b7, hb7⟩ : ∃ b, b = b6 ++ c.units[i].ins.flatMap encIn := ⟨_, rfl⟩
  have hbl7 : b7.length = b6.length + (c.units[i].ins.flatMap encIn).length := by rw [hb7, List.length_append]
  rw [← hb7]
  refine SQ (RG ?_)
  refine RR [] .z (.i 75 (.bool (decide ((↑c.units[i].ins.length : Int) < (↑c.units[i].ins.length : Int)))) .a) .a ?_
  refine RZ (NT (SQ ?_))
  refine SC 75 (decide ((↑c.units[i].ins.length : Int) < (↑c.units[i].ins.length : Int))) false (by simp) ?_
  refine CF (EX (TE (TE (BH (NT (SQ (RG ?_)))))))
  refine RR [6] (.d (.d (.d (.d .a)))) (.i 89 (.int .i64 (↑c.units[i].vars.length : Int)) (.i 86 (.slice a9 b7.length c9) (.d (.d (.d (.d (.d (.k .a)))))))) .a ?_
  refine RC (dst := some 90) [0] (.d (.k .a)) (PutInt_spec a9 c9 b7 c.units[i].vars.length (by omega) (by omega) (by omega)) ?_
  rintro r _ ⟨aA, cA, rfl, rfl⟩
  obtain ⟨b8, hb8⟩ : ∃ b, b = b7 ++ encI c.units[i].vars.length := ⟨_, rfl⟩
  have hbl8 : b8.length = b7.length + (encI c.units[i].vars.length).length := by rw [hb8, List.length_append]
  rw [← hb8]
  refine RR [] .z (.i 4 (.slice aA b8.length cA) (.d (.d (.d (.k (.d (.k .a))))))) .a ?_
  refine RZ (NT (SQ (RG ?_)))
  refine RR [6] .z (.i 94 (.int .i64 0) (.i 93 (.int .i64 (↑c.units[i].vars.length : Int)) (.i 92 (.slice c.units[i].va c.units[i].vars.length c.units[i].vc) (.k (.d (.k .a)))))) .a ?_
  refine RZ (NT (BK ?_))
  refine wpc_loop (X := {x : Nat × Option Addr × Nat // x.1 ≤ c.units[i].vars.length}) (fun x => St.mk [(94, .int .i64 (x.1.1 : Int)), (93, .int .i64 c.units[i].vars.length), (92, .slice c.units[i].va c.units[i].vars.length c.units[i].vc), (4, .slice x.1.2.1 (b8 ++ (c.units[i].vars.take x.1.1).flatMap encVr).length x.1.2.2), (47, .int .i64 (i : Int)), (46, .int .i64 c.units.length), (45, .slice (some ⟨g0, o0, none⟩) c.units.length c.uc), (3, .int .i64 0), (2, .slice none 0 0), (1, .pointer (some ⟨g1, 0, none⟩))]
   [row 5 1 x.1.2.1 (b8 ++ (c.units[i].vars.take x.1.1).flatMap encVr).length x.1.2.2 (u8s (b8 ++ (c.units[i].vars.take x.1.1).flatMap encVr)), ro (some ⟨g0, o0, none⟩) (c.units.flatMap unC), gUn c.units, ro c.units[i].va (c.units[i].vars.flatMap varC), .blk g1 26 [.slice c.sa c.strs.length c.sc, .slice c.ha c.shapes.length c.hc, .slice (some ⟨g0, o0, none⟩) c.units.length c.uc, .int .i64 c.main]]) (fun x => c.units[i].vars.length - x.1.1) ⟨(0, aA, cA), Nat.zero_le _⟩ ?_ ?_
  ·show Ent _ _ (St.mk [_, _, _, (4, .slice aA (b8 ++ []).length cA), _, _, _, _, _, _] [row _ 1 aA (b8 ++ []).length cA (u8s (b8 ++ [])), _, _, _, _])
   rw [List.append_nil]
   exact Ent.trans (ent_hp [0, 0, 0, 1, 1] rfl) (ent_fr (by kernel_rfl))
  rintro ⟨⟨m, a5, c5⟩, hm⟩
  dsimp only at hm ⊢
  by_cases hmt : m < c.units[i].vars.length
  ·have hme2 := flat_take_le encVr hmt
   obtain ⟨b9, hb9⟩ : ∃ b, b = b8 ++ (c.units[i].vars.take m).flatMap encVr := ⟨_, rfl⟩
   have hbl9 : b9.length = b8.length + ((c.units[i].vars.take m).flatMap encVr).length := by rw [hb9, List.length_append]
   rw [← hb9]
   obtain ⟨y1, y2, y3, y4⟩ := x8 _ (List.getElem_mem hmt)
   unfold okText at y1
   obtain ⟨⟨vn, vs, vf, vt⟩, hop⟩ : ∃ x, x = c.units[i].vars[m] := ⟨_, rfl⟩
   rw [← hop] at y1 y2 y3 y4 hme2
   dsimp only at y1 y2 y3 y4
   have hop2 : ((c.units[i].vars.flatMap varC).drop (m * 4)).take 4 = varC ⟨vn, vs, vf, vt⟩ := by rw [vars_at hmt, hop]
   have e4 : ([vs, vf, vt].flatMap encI).length = (encI vs).length + (encI vf).length + (encI vt).length := by simp only [List.flatMap_cons, List.flatMap_nil, List.append_nil, List.length_append]; omega
   have e5 : (encVr ⟨vn, vs, vf, vt⟩).length = (encT vn).length + (encI vs).length + (encI vf).length + (encI vt).length := by unfold encVr; simp only [List.length_append]
   refine wpc_fact (fun w h => ro_addr h 3 rfl (by rw [vars_len]; omega)) ?_
   rintro ⟨g5, o5, hia⟩
   rw [hia]
   refine SQ (RG ?_)
   refine RR [] .z (.i 95 (.bool (decide ((↑m : Int) < (↑c.units[i].vars.length : Int)))) .a) .a ?_
   refine RZ (NT (SQ ?_))
   refine SC 95 (decide ((↑m : Int) < (↑c.units[i].vars.length : Int))) true (decide_eq_true (by omega)) ?_
   refine CT (SK (NT (SQ (BK (SQ (RG ?_))))))
   refine RV true [] (.d .a) (.i 96 (.pointer (some ⟨g5, o5 + m * 4, none⟩)) (.d (.d (.k .a)))) .a [(0 : Int) ≤ (↑m : Int) ∧ (↑m : Int) < (↑c.units[i].vars.length : Int)] ⟨by omega, trivial⟩ ?_
   refine wpr_eq (ld (t := 116) (a := ⟨g5, o5 + m * 4, none⟩) (dst := some 97) (by kernel_rfl) true 4 (by kernel_rfl) (by simp) (varC ⟨vn, vs, vf, vt⟩) rfl (fun w h => ld_ro h 3 rfl (m * 4) hop2)) ?_
   refine RP [] (.d .a) 12 (.i 97 (.agg #[.string (mkS vn), .int .i64 vs, .int .i64 vf, .int .i64 vt]) (.d (.d (.k .a)))) .a 116 [.string ⟨#[]⟩, .int .i64 0, .int .i64 0, .int .i64 0] fun g3 => ?_
   refine RR [5, 5, 5, 5] .z (.k (.d (.k .a))) (.k (.k (.k (.k (.k (.u (.i (.string (mkS vn)) (.i (.int .i64 vs) (.i (.int .i64 vf) (.i (.int .i64 vt) .z)))) .a)))))) ?_
   refine RZ (NT ?_)
   refine wpc_draw (by kernel_rfl) [.blk g3 116 [.string (mkS vn), .int .i64 vs, .int .i64 vf, .int .i64 vt]] (sub_of [5] (by kernel_rfl)) 13 (by kernel_rfl) ?_
   refine TK 4 [(0, []), (1, []), (2, [0]), (4, []), (5, [0]), (6, []), (7, [0]), (8, []), (9, [0])] (.i 107 (.int .i64 vt) (.i 105 (.int .i64 vf) (.i 103 (.int .i64 vs) (.i 100 (.string (mkS vn)) (.i 98 (.slice a5 b9.length c5) (.d (.k .a))))))) (#[true, true, true, false, true, true, true, true, true, true, false, false, false]) ?_
   refine wpa_joinx (X := Option Addr × Nat) (fun y => St.mk [(4, .slice y.1 (b9 ++ encT vn ++ [vs, vf, vt].flatMap encI).length y.2), (94, .int .i64 (m : Int)), (93, .int .i64 c.units[i].vars.length), (92, .slice (some ⟨g5, o5, none⟩) c.units[i].vars.length c.units[i].vc), (47, .int .i64 (i : Int)), (46, .int .i64 c.units.length), (45, .slice (some ⟨g0, o0, none⟩) c.units.length c.uc), (3, .int .i64 0), (2, .slice none 0 0), (1, .pointer (some ⟨g1, 0, none⟩))] [row 5 1 y.1 (b9 ++ encT vn ++ [vs, vf, vt].flatMap encI).length y.2 (u8s (b9 ++ encT vn ++ [vs, vf, vt].flatMap encI)), ro (some ⟨g0, o0, none⟩) (c.units.flatMap unC), gUn c.units, ro (some ⟨g5, o5, none⟩) (c.units[i].vars.flatMap varC), .blk g1 26 [.slice c.sa c.strs.length c.sc, .slice c.ha c.shapes.length c.hc, .slice (some ⟨g0, o0, none⟩) c.units.length c.uc, .int .i64 c.main]]) (fun Q1 hQ1 hk => ?_) ?_
   ·refine wpa_two (i := 3) (j := 10) (n := 3) (by kernel_rfl) ?_ ?_
    ·refine wpi_call (i := 3) (dst := some 101) (rest := [ro (some ⟨g0, o0, none⟩) (List.flatMap unC c.units), gUn c.units, ro (some ⟨g5, o5, none⟩) (List.flatMap varC c.units[i].vars), .blk g1 26 [.slice c.sa c.strs.length c.sc, .slice c.ha c.shapes.length c.hc, .slice (some ⟨g0, o0, none⟩) c.units.length c.uc, .int .i64 c.main], .blk g3 116 [.string (mkS vn), .int .i64 vs, .int .i64 vf, .int .i64 vt]]) (by kernel_rfl) (PutText_spec a5 c5 b9 vn (by omega) (by omega)) (give [0] (by kernel_rfl)) (sub_of [4] (by kernel_rfl)) ?_
     rintro r _ ⟨a6, c6, rfl, rfl⟩
     refine wpa_new (n := 2) true 10 [] (fun g4 => ([(108, .slice (some ⟨g4, 0, none⟩) 3 3), (101, .slice a6 (b9 ++ encT vn).length c6), (94, .int .i64 (↑m : Int)), (93, .int .i64 (↑c.units[i].vars.length : Int)), (92, .slice (some ⟨g5, o5, none⟩) c.units[i].vars.length c.units[i].vc), (4, .slice a5 b9.length c5), (47, .int .i64 (↑i : Int)), (46, .int .i64 (↑c.units.length : Int)), (45, .slice (some ⟨g0, o0, none⟩) c.units.length c.uc), (3, .int .i64 0), (2, .slice none 0 0), (1, .pointer (some ⟨g1, 0, none⟩))])) (fun g4 => ([row 5 1 a6 (b9 ++ encT vn).length c6 (u8s (b9 ++ encT vn)), ro (some ⟨g0, o0, none⟩) (List.flatMap unC c.units), gUn c.units, ro (some ⟨g5, o5, none⟩) (List.flatMap varC c.units[i].vars), .blk g1 26 [.slice c.sa c.strs.length c.sc, .slice c.ha c.shapes.length c.hc, .slice (some ⟨g0, o0, none⟩) c.units.length c.uc, .int .i64 c.main], .blk g3 116 [.string (mkS vn), .int .i64 vs, .int .i64 vf, .int .i64 vt], .blk g4 3 [.int .i64 vs, .int .i64 vf, .int .i64 vt]])) (fun g4 => []) (by kernel_rfl) (fun g4 => by kernel_rfl) (fun g4 => by kernel_rfl) (fun g4 => trivial) (fun g4 => sub_of [5] (by kernel_rfl)) fun g4 => ?_
     refine wpa_ent (ent_turn 6 (ro (some ⟨g4, 0, none⟩) (ints [vs, vf, vt])) rfl (turn_rints [vs, vf, vt] rfl) rfl) ?_
     refine AC (dst := some 109) 1 11 (.d (.k .a)) (nums_spec a6 c6 (b9 ++ encT vn) (some ⟨g4, 0, none⟩) 3 [vs, vf, vt] (by simp) (fun t ht => by simp only [List.mem_cons, List.not_mem_nil, or_false] at ht; rcases ht with rfl | rfl | rfl <;> assumption) (by rw [List.length_append, e4]; omega)) (GO (GV (GJ [0]) 5 view_ro) [1, 0]) [4] ?_
     rintro r _ ⟨a7, c7, rfl, rfl⟩
     refine TK 0 [(12, [])] (.i 4 (.slice a7 (b9 ++ encT vn ++ List.flatMap encI [vs, vf, vt]).length c7) (.d (.d (.d (.k (.k (.k (.d (.k .a))))))))) (#[true, true, true, true, true, true, true, true, true, true, true, true, true]) ?_
     refine wpa_done 0 (by kernel_rfl) ?_
     exact nx_ent (ent_hp [0, 0, 0, 0, 0] rfl) (nx_ent (ent_fr (by kernel_rfl)) (hk ⟨a7, c7⟩))
    ·refine wpi_new (n := 3) true 10 [] (fun g4 => [(108, .slice (some ⟨g4, 0, none⟩) 3 3), (100, .string (mkS vn)), (98, .slice a5 b9.length c5), (94, .int .i64 (↑m : Int)), (93, .int .i64 (↑c.units[i].vars.length : Int)), (92, .slice (some ⟨g5, o5, none⟩) c.units[i].vars.length c.units[i].vc), (4, .slice a5 b9.length c5), (47, .int .i64 (↑i : Int)), (46, .int .i64 (↑c.units.length : Int)), (45, .slice (some ⟨g0, o0, none⟩) c.units.length c.uc), (3, .int .i64 0), (2, .slice none 0 0), (1, .pointer (some ⟨g1, 0, none⟩))]) (fun g4 => [row 5 1 a5 b9.length c5 (u8s b9), ro (some ⟨g0, o0, none⟩) (List.flatMap unC c.units), gUn c.units, ro (some ⟨g5, o5, none⟩) (List.flatMap varC c.units[i].vars), .blk g1 26 [.slice c.sa c.strs.length c.sc, .slice c.ha c.shapes.length c.hc, .slice (some ⟨g0, o0, none⟩) c.units.length c.uc, .int .i64 c.main], .blk g3 116 [.string (mkS vn), .int .i64 vs, .int .i64 vf, .int .i64 vt], .blk g4 3 [.int .i64 vs, .int .i64 vf, .int .i64 vt]]) (fun g4 => []) (fun g4 => by kernel_rfl) (fun g4 => by kernel_rfl) (fun g4 => trivial) (fun g4 => sub_of [5] (by kernel_rfl)) fun g4 => ?_
     refine AC (dst := some 101) 2 3 (.d (.k .a)) (PutText_spec a5 c5 b9 vn (by omega) (by omega)) (GI [0]) [4] ?_
     rintro r _ ⟨a6, c6, rfl, rfl⟩
     refine wpa_ent (ent_turn 6 (ro (some ⟨g4, 0, none⟩) (ints [vs, vf, vt])) rfl (turn_rints [vs, vf, vt] rfl) rfl) ?_
     refine AC (dst := some 109) 1 11 (.d (.k .a)) (nums_spec a6 c6 (b9 ++ encT vn) (some ⟨g4, 0, none⟩) 3 [vs, vf, vt] (by simp) (fun t ht => by simp only [List.mem_cons, List.not_mem_nil, or_false] at ht; rcases ht with rfl | rfl | rfl <;> assumption) (by rw [List.length_append, e4]; omega)) (GO (GV (GJ [0]) 5 view_ro) [1, 0]) [4] ?_
     rintro r _ ⟨a7, c7, rfl, rfl⟩
     refine TK 0 [(12, [])] (.i 4 (.slice a7 (b9 ++ encT vn ++ List.flatMap encI [vs, vf, vt]).length c7) (.d (.d (.d (.d (.d (.k (.k (.k (.d (.k .a))))))))))) (#[true, true, true, true, true, true, true, true, true, true, true, true, true]) ?_
     refine wpa_done 0 (by kernel_rfl) ?_
     exact nx_ent (ent_hp [0, 0, 0, 0, 0] rfl) (nx_ent (ent_fr (by kernel_rfl)) (hk ⟨a7, c7⟩))
   rintro ⟨a6, c6⟩
   dsimp only
   obtain ⟨bA, hbA⟩ : ∃ b, b = b9 ++ encT vn ++ [vs, vf, vt].flatMap encI := ⟨_, rfl⟩
   have hblA : bA.length = b9.length + (encT vn).length + ([vs, vf, vt].flatMap encI).length := by rw [hbA, List.length_append, List.length_append]
   rw [e4] at hblA
   rw [← hbA]
   rw [← hia, show bA = b8 ++ (c.units[i].vars.take (m + 1)).flatMap encVr from by rw [hbA, hb9, flat_take_succ encVr hmt, ← hop]; unfold encVr; simp]
   refine BN (NT (RG ?_))
   refine RV true [] .z (.i 94 (.int .i64 ((↑m : Int) + 1)) (.k (.d (.k .a)))) .a ([inI64 ((↑m : Int) + (1 : Int))]) ⟨by unfold inI64; omega, trivial⟩ ?_
   refine RZ ?_
   exact fun a' w' hS' => ⟨⟨(m + 1, a6, c6), hmt⟩, by dsimp only; omega, ent_fr (by kernel_rfl) _ _ (ent_hp [0, 0, 0, 0, 0] rfl _ _ hS')⟩
  obtain rfl : m = c.units[i].vars.length := by omega
  rw [List.take_length]
  refine SQ (RG ?_)
  refine RR [] .z (.i 95 (.bool (decide ((↑c.units[i].vars.length : Int) < (↑c.units[i].vars.length : Int)))) .a) .a ?_
  refine RZ (NT (SQ ?_))
  refine SC 95 (decide ((↑c.units[i].vars.length : Int) < (↑c.units[i].vars.length : Int))) false (by simp) ?_
  refine CF (EX (TE (TE (BH (BN (NT (RG ?_)))))))
  refine RV true [] .z (.i 47 (.int .i64 ((↑i : Int) + 1)) (.d (.d (.d (.d (.d (.k (.d (.k .a))))))))) .a ([inI64 ((↑i : Int) + (1 : Int))]) ⟨by unfold inI64; omega, trivial⟩ ?_
  refine RZ ?_
  rw [← hua, show b8 ++ c.units[i].vars.flatMap encVr = b3 ++ ((c.units.map UnV.p).take (i + 1)).flatMap encU from by rw [hb8, hb7, hb6, hb5, hb4, mp_take_succ UnV.p encU hlt]; unfold encU encR UnV.p; simp]
  exact fun a' w' hS' => ⟨⟨(i + 1, a5, c5), hlt⟩, by dsimp only; omega, ent_fr (by kernel_rfl) _ _ (ent_hp [0, 0, 0, 1] rfl _ _ hS')⟩
 ·obtain rfl : i = c.units.length := by omega
  rw [show (c.units.map UnV.p).take c.units.length = c.units.map UnV.p from List.take_of_length_le (by rw [List.length_map]; exact Nat.le_refl _)]
  obtain ⟨b4, hb4⟩ : ∃ b, b = b3 ++ (c.units.map UnV.p).flatMap encU := ⟨_, rfl⟩
  have hbl4 : b4.length = b3.length + ((c.units.map UnV.p).flatMap encU).length := by rw [hb4, List.length_append]
  rw [← hb4]
  refine SQ (RG ?_)
  refine RR [] .z (.i 48 (.bool (decide ((↑c.units.length : Int) < (↑c.units.length : Int)))) .a) .a ?_
  refine RZ (NT (SQ ?_))
  refine SC 48 (decide ((↑c.units.length : Int) < (↑c.units.length : Int))) false (by simp) ?_
  refine CF (EX (TE (TE (BH (NT (SQ (RG ?_)))))))
  refine RR [3] (.d (.d (.d .a))) (.i 114 (.int .i64 c.main) (.i 112 (.slice a5 b4.length c5) (.d (.d (.d (.d (.d (.d (.k (.k .z)))))))))) .a ?_
  refine RC (dst := some 115) [0] (.d (.k .a)) (PutInt_spec a5 c5 b4 c.main hm0 hm1 (by omega)) ?_
  rintro r _ ⟨a6, c6, rfl, rfl⟩
  refine RR [] .z (.d (.d (.d (.k (.i 2 (.slice a6 (b4 ++ encI c.main).length c6) .z))))) .a ?_
  refine RZ (NT (RE ?_))
  refine NE [0] (.k .z) (.d (.k .a)) [] (.tuple #[.slice a6 (b4 ++ encI c.main).length c6, .int .i64 0]) ?_
  rw [if_pos rfl, show b4 ++ encI c.main = encCo c.p from by rw [hb4, hb3, hb2, hb1, hb0]; unfold encCo encR CoV.p; simp]
  exact ⟨a6, c6, rfl, rfl⟩
end Go.Proofs.YtgcfomhlgipllaaGreatDoor
namespace Go.Proofs.YtgcfomhlgipllaaGreatDoor
open Go Go.Sx
theorem opNames_len : opNames.length = 35 := rfl
set_option maxHeartbeats 4000000 in
theorem rname_spec (o : Int) : Does Tryz.prog 54 [.int .i64 o] [] (fun v hp' => v = .string (mkS (opName o)) ∧ hp' = []) := by
 by_cases k0 : ¬ 0 ≤ o
 ·rw [opName_out (fun h => k0 h.1)]
  refine fn_enter Tryz.func54 rfl 17 rfl fun w0 h0 => ?_
  refine SQ (RG ?_)
  refine RR [] .z (.i 2 (.string ⟨#[]⟩) .a) .a ?_
  refine RZ (NT (SQ (RG ?_)))
  refine RN [] (.d .a) 4 (fun g1 => (.slice (some ⟨g1, 0, none⟩) 35 35)) .a .a 9 [.string (ByteArray.mk #[109, 97, 114, 107]), .string (ByteArray.mk #[105, 110, 116]), .string (ByteArray.mk #[98, 111, 111, 108]), .string (ByteArray.mk #[115, 116, 114]), .string (ByteArray.mk #[108, 111, 97, 100]), .string (ByteArray.mk #[115, 116, 111, 114, 101]), .string (ByteArray.mk #[112, 111, 112]), .string (ByteArray.mk #[97, 100, 100]), .string (ByteArray.mk #[115, 117, 98]), .string (ByteArray.mk #[109, 117, 108]), .string (ByteArray.mk #[100, 105, 118]), .string (ByteArray.mk #[114, 101, 109]), .string (ByteArray.mk #[110, 101, 103]), .string (ByteArray.mk #[110, 111, 116]), .string (ByteArray.mk #[101, 113]), .string (ByteArray.mk #[110, 101]), .string (ByteArray.mk #[108, 116]), .string (ByteArray.mk #[108, 101]), .string (ByteArray.mk #[103, 116]), .string (ByteArray.mk #[103, 101]), .string (ByteArray.mk #[106, 117, 109, 112]), .string (ByteArray.mk #[117, 110, 108, 101, 115, 115]), .string (ByteArray.mk #[99, 97, 108, 108]), .string (ByteArray.mk #[114, 101, 116, 117, 114, 110]), .string (ByteArray.mk #[97, 114, 114, 97, 121]), .string (ByteArray.mk #[110, 101, 119]), .string (ByteArray.mk #[105, 110, 100, 101, 120]), .string (ByteArray.mk #[115, 101, 116, 105, 110, 100, 101, 120]), .string (ByteArray.mk #[102, 105, 101, 108, 100]), .string (ByteArray.mk #[115, 101, 116, 102, 105, 101, 108, 100]), .string (ByteArray.mk #[108, 101, 110]), .string (ByteArray.mk #[115, 104, 111, 119]), .string (ByteArray.mk #[102, 105, 108, 108]), .string (ByteArray.mk #[105, 110, 112, 117, 116]), .string (ByteArray.mk #[112, 114, 105, 110, 116])] fun g1 => ?_
  refine RR [] .z (.i 3 (.slice (some ⟨g1, 0, none⟩) 35 35) (.d (.k .a))) .a ?_
  refine RZ (NT (SQ (SQ (RG ?_))))
  refine RR [] (.d (.d (.d .a))) (.i 7 (.bool (decide (o < (0 : Int)))) .a) .a ?_
  refine SR 7 (decide (o < (0 : Int))) true (decide_eq_true (by omega)) ?_
  refine RR [] .z (.i 12 (.bool true) (.d (.d (.k .a)))) .a ?_
  refine RZ (NT (CT (SQ (RG ?_))))
  refine RR [] .z (.i 2 (.string ⟨#[]⟩) (.d (.k (.d (.k .a))))) .a ?_
  refine RZ (NT (RE (TR ?_)))
  refine NE [] .z .a [] (.string ⟨#[]⟩) ?_
  exact ⟨rfl, rfl⟩
 rw [Decidable.not_not] at k0
 by_cases k1 : ¬ o < 35
 ·rw [opName_out (fun h => k1 h.2)]
  refine fn_enter Tryz.func54 rfl 17 rfl fun w0 h0 => ?_
  refine SQ (RG ?_)
  refine RR [] .z (.i 2 (.string ⟨#[]⟩) .a) .a ?_
  refine RZ (NT (SQ (RG ?_)))
  refine RN [] (.d .a) 4 (fun g1 => (.slice (some ⟨g1, 0, none⟩) 35 35)) .a .a 9 [.string (ByteArray.mk #[109, 97, 114, 107]), .string (ByteArray.mk #[105, 110, 116]), .string (ByteArray.mk #[98, 111, 111, 108]), .string (ByteArray.mk #[115, 116, 114]), .string (ByteArray.mk #[108, 111, 97, 100]), .string (ByteArray.mk #[115, 116, 111, 114, 101]), .string (ByteArray.mk #[112, 111, 112]), .string (ByteArray.mk #[97, 100, 100]), .string (ByteArray.mk #[115, 117, 98]), .string (ByteArray.mk #[109, 117, 108]), .string (ByteArray.mk #[100, 105, 118]), .string (ByteArray.mk #[114, 101, 109]), .string (ByteArray.mk #[110, 101, 103]), .string (ByteArray.mk #[110, 111, 116]), .string (ByteArray.mk #[101, 113]), .string (ByteArray.mk #[110, 101]), .string (ByteArray.mk #[108, 116]), .string (ByteArray.mk #[108, 101]), .string (ByteArray.mk #[103, 116]), .string (ByteArray.mk #[103, 101]), .string (ByteArray.mk #[106, 117, 109, 112]), .string (ByteArray.mk #[117, 110, 108, 101, 115, 115]), .string (ByteArray.mk #[99, 97, 108, 108]), .string (ByteArray.mk #[114, 101, 116, 117, 114, 110]), .string (ByteArray.mk #[97, 114, 114, 97, 121]), .string (ByteArray.mk #[110, 101, 119]), .string (ByteArray.mk #[105, 110, 100, 101, 120]), .string (ByteArray.mk #[115, 101, 116, 105, 110, 100, 101, 120]), .string (ByteArray.mk #[102, 105, 101, 108, 100]), .string (ByteArray.mk #[115, 101, 116, 102, 105, 101, 108, 100]), .string (ByteArray.mk #[108, 101, 110]), .string (ByteArray.mk #[115, 104, 111, 119]), .string (ByteArray.mk #[102, 105, 108, 108]), .string (ByteArray.mk #[105, 110, 112, 117, 116]), .string (ByteArray.mk #[112, 114, 105, 110, 116])] fun g1 => ?_
  refine RR [] .z (.i 3 (.slice (some ⟨g1, 0, none⟩) 35 35) (.d (.k .a))) .a ?_
  refine RZ (NT (SQ (SQ (RG ?_))))
  refine RR [] (.d (.d (.d .a))) (.i 7 (.bool (decide (o < (0 : Int)))) .a) .a ?_
  refine SR 7 (decide (o < (0 : Int))) false (decide_eq_false (by omega)) ?_
  refine RR [] .z (.i 12 (.bool (decide (o ≥ (35 : Int)))) (.d (.d (.k .a)))) .a ?_
  refine RZ (NT ?_)
  refine SC 12 (decide (o ≥ (35 : Int))) true (decide_eq_true (by omega)) ?_
  refine CT (SQ (RG ?_))
  refine RR [] .z (.i 2 (.string ⟨#[]⟩) (.d (.d (.k (.d (.k .a)))))) .a ?_
  refine RZ (NT (RE (TR ?_)))
  refine NE [] .z .a [] (.string ⟨#[]⟩) ?_
  exact ⟨rfl, rfl⟩
 rw [Decidable.not_not] at k1
 obtain ⟨k, rfl⟩ := Int.eq_ofNat_of_zero_le k0
 have hk : k < opNames.length := by rw [opNames_len]; omega
 have hE : opName (k : Int) = opNames[k] := by rw [opName_in ⟨k0, k1⟩, Int.toNat_natCast]; simp [List.getD, hk]
 rw [hE]
 refine fn_enter Tryz.func54 rfl 17 rfl fun w0 h0 => ?_
 refine SQ (RG ?_)
 refine RR [] .z (.i 2 (.string ⟨#[]⟩) .a) .a ?_
 refine RZ (NT (SQ (RG ?_)))
 refine RN [] (.d .a) 4 (fun g1 => (.slice (some ⟨g1, 0, none⟩) 35 35)) .a .a 9 [.string (ByteArray.mk #[109, 97, 114, 107]), .string (ByteArray.mk #[105, 110, 116]), .string (ByteArray.mk #[98, 111, 111, 108]), .string (ByteArray.mk #[115, 116, 114]), .string (ByteArray.mk #[108, 111, 97, 100]), .string (ByteArray.mk #[115, 116, 111, 114, 101]), .string (ByteArray.mk #[112, 111, 112]), .string (ByteArray.mk #[97, 100, 100]), .string (ByteArray.mk #[115, 117, 98]), .string (ByteArray.mk #[109, 117, 108]), .string (ByteArray.mk #[100, 105, 118]), .string (ByteArray.mk #[114, 101, 109]), .string (ByteArray.mk #[110, 101, 103]), .string (ByteArray.mk #[110, 111, 116]), .string (ByteArray.mk #[101, 113]), .string (ByteArray.mk #[110, 101]), .string (ByteArray.mk #[108, 116]), .string (ByteArray.mk #[108, 101]), .string (ByteArray.mk #[103, 116]), .string (ByteArray.mk #[103, 101]), .string (ByteArray.mk #[106, 117, 109, 112]), .string (ByteArray.mk #[117, 110, 108, 101, 115, 115]), .string (ByteArray.mk #[99, 97, 108, 108]), .string (ByteArray.mk #[114, 101, 116, 117, 114, 110]), .string (ByteArray.mk #[97, 114, 114, 97, 121]), .string (ByteArray.mk #[110, 101, 119]), .string (ByteArray.mk #[105, 110, 100, 101, 120]), .string (ByteArray.mk #[115, 101, 116, 105, 110, 100, 101, 120]), .string (ByteArray.mk #[102, 105, 101, 108, 100]), .string (ByteArray.mk #[115, 101, 116, 102, 105, 101, 108, 100]), .string (ByteArray.mk #[108, 101, 110]), .string (ByteArray.mk #[115, 104, 111, 119]), .string (ByteArray.mk #[102, 105, 108, 108]), .string (ByteArray.mk #[105, 110, 112, 117, 116]), .string (ByteArray.mk #[112, 114, 105, 110, 116])] fun g1 => ?_
 refine RR [] .z (.i 3 (.slice (some ⟨g1, 0, none⟩) 35 35) (.d (.k .a))) .a ?_
 refine RZ (NT (SQ (SQ (RG ?_))))
 refine RR [] .z (.i 12 (.bool (decide ((↑k : Int) ≥ (35 : Int)))) .a) .a ?_
 refine RZ (NT ?_)
 refine SC 12 (decide ((↑k : Int) ≥ (35 : Int))) false (decide_eq_false (by omega)) ?_
 refine CF (SK (NT (SQ (RG ?_))))
 refine RV true [] (.d (.d (.d .a))) (.i 15 (.pointer (some ⟨g1, 0 + k * 1, none⟩)) (.d (.d (.d (.k .z))))) .a [(0 : Int) ≤ (↑k : Int) ∧ (↑k : Int) < (↑(35 : Nat) : Int)] ⟨by omega, trivial⟩ ?_
 refine wpr_ent (ent_turn 0 (ro (some ⟨g1, 0, none⟩) (strsC opNames)) rfl (turn_rblk (l := strsC opNames) (strs_one opNames)) rfl) ?_
 refine wpr_eq (ld (t := 9) (a := ⟨g1, 0 + k * 1, none⟩) (dst := some 16) (by kernel_rfl) false 1 (by kernel_rfl) (by simp) [.string (mkS opNames[k])] rfl (fun w h => ld_ro h 0 rfl (k * 1) (strs_at hk))) ?_
 refine RR [] .z (.i 2 (.string (mkS opNames[k])) .z) .a ?_
 refine RZ (NT (RE ?_))
 refine NE [] .z .a [] (.string (mkS opNames[k])) ?_
 exact ⟨rfl, rfl⟩
theorem rupto_spec (a n : Int) : Does Tryz.prog 43 [.int .i64 a, .int .i64 n] [] (fun v hp' => v = .bool (uptoB a n) ∧ hp' = []) := by
 unfold uptoB
 by_cases h : 0 ≤ a
 ·refine fn_enter Tryz.func43 rfl 12 rfl fun w0 h0 => ?_
  refine SQ (RG ?_)
  refine RR [] .z (.i 4 (.bool false) .a) .a ?_
  refine RZ (NT (SQ (RG ?_)))
  refine RR [] (.d (.d (.d .a))) (.i 7 (.bool (decide (a ≥ (0 : Int)))) .a) .a ?_
  refine SR 7 (decide (a ≥ (0 : Int))) true (decide_eq_true (by omega)) ?_
  refine RR [] .z (.i 4 (.bool (decide (a < n))) .z) .a ?_
  refine RZ (NT (RE ?_))
  refine NE [] .a .a [] (.bool (decide (a < n))) ?_
  exact ⟨by simp [h], rfl⟩
 ·refine fn_enter Tryz.func43 rfl 12 rfl fun w0 h0 => ?_
  refine SQ (RG ?_)
  refine RR [] .z (.i 4 (.bool false) .a) .a ?_
  refine RZ (NT (SQ (RG ?_)))
  refine RR [] (.d (.d (.d .a))) (.i 7 (.bool (decide (a ≥ (0 : Int)))) .a) .a ?_
  refine SR 7 (decide (a ≥ (0 : Int))) false (decide_eq_false (by omega)) ?_
  refine RR [] .z (.d (.d (.k .z))) .a ?_
  refine RZ (NT (RE ?_))
  refine NE [] .a .a [] (.bool false) ?_
  exact ⟨by simp [h], rfl⟩
theorem rone_spec (b : Bool) : Does Tryz.prog 148 [.bool b] [] (fun v hp' => v = .int .i64 (oneI b) ∧ hp' = []) := by
 cases b with
 | true =>
  refine fn_enter Tryz.func148 rfl 4 rfl fun w0 h0 => ?_
  refine SQ (RG ?_)
  refine RR [] .z (.i 2 (.int .i64 0) .a) .a ?_
  refine RZ (NT (SQ (SQ (RG ?_))))
  refine RR [] .z (.i 3 (.bool true) (.k .z)) .a ?_
  refine RZ (NT (CT (SQ (RG ?_))))
  refine RR [] .z (.i 2 (.int .i64 1) .z) .a ?_
  refine RZ (NT (RE (TR ?_)))
  refine NE [] .a .a [] (.int .i64 1) ?_
  exact ⟨rfl, rfl⟩
 | false =>
  refine fn_enter Tryz.func148 rfl 4 rfl fun w0 h0 => ?_
  refine SQ (RG ?_)
  refine RR [] .z (.i 2 (.int .i64 0) .a) .a ?_
  refine RZ (NT (SQ (SQ (RG ?_))))
  refine RR [] .z (.i 3 (.bool false) (.k .z)) .a ?_
  refine RZ (NT (CF (SK (NT (SQ (RG ?_))))))
  refine RR [] .z (.d (.k .a)) .a ?_
  refine RZ (NT (RE ?_))
  refine NE [] .a .a [] (.int .i64 0) ?_
  exact ⟨rfl, rfl⟩
end Go.Proofs.YtgcfomhlgipllaaGreatDoor
namespace Go.Proofs.YtgcfomhlgipllaaGreatDoor
open Go Go.Sx
theorem okB_iff {c : UInt8} : okB c = true ↔ c.toNat = 10 ∨ (32 ≤ c.toNat ∧ c.toNat ≤ 126) := by
 unfold okB plB
 simp only [Bool.or_eq_true, beq_iff_eq, Bool.and_eq_true, decide_eq_true_eq]
 omega
theorem rPlain_spec (s : List UInt8) (hl : s.length ≤ 1048576) : Does Tryz.prog 98 [.string (mkS s)] [] (fun v hp' => v = .bool (plainB s) ∧ hp' = []) := by
 refine fn_enter Tryz.func98 rfl 29 rfl fun w0 h0 => ?_
 refine SQ (RG ?_)
 refine RR [] .z (.i 2 (.bool false) .a) .a ?_
 refine RZ (NT (SQ (SQ (RG ?_))))
 refine RR [] .z (.i 3 (.int .i64 0) .a) .a ?_
 refine RZ (NT (BK ?_))
 refine wpc_loop (X := {i : Nat // ∃ h : i ≤ s.length, ∀ j, (hj : j < i) → okB (s[j]'(by omega)) = true}) (fun x => St.mk [(3, .int .i64 (x.1 : Int)), (2, .bool false), (0, .string (mkS s))] []) (fun x => s.length - x.1) ⟨0, Nat.zero_le _, fun j h => absurd h (Nat.not_lt_zero _)⟩ (ent_fr (by kernel_rfl)) ?_
 rintro ⟨i, hi, hall⟩
 dsimp only at hi hall ⊢
 by_cases hlt : i < s.length
 ·have hbt : bt (mkS s) (i : Int) = (s[i].toNat : Int) := bt_at hlt
  have hgo : okB s[i] = true → ∀ j, (hj : j < i + 1) → okB (s[j]'(by omega)) = true := fun hok j hj => by
   rcases Nat.lt_or_ge j i with h | h
   ·exact hall j h
   ·obtain rfl : j = i := by omega
    exact hok
  have hno : okB s[i] = false → plainB s = false := fun hok => by
   unfold plainB
   cases h3 : s.all okB with
   | false => simp
   | true =>
    have h4 := List.all_eq_true.1 h3 s[i] (List.getElem_mem hlt)
    rw [hok] at h4; cases h4
  by_cases h10 : s[i].toNat = 10
  ·refine SQ (SQ (RG ?_))
   refine RR [] .z (.i 7 (.bool (decide ((↑i : Int) < (↑s.length : Int)))) .a) .a ?_
   refine RZ (NT ?_)
   refine SC 7 (decide ((↑i : Int) < (↑s.length : Int))) true (decide_eq_true (by omega)) ?_
   refine CT (SK (NT (SQ (BK (SQ (RG ?_))))))
   refine RV true [] (.d (.d (.d (.d (.d .a))))) (.i 14 (.bool (bt (mkS s) (↑i : Int) != (10 : Int))) (.d (.d (.k .a)))) .a [(0 : Int) ≤ (↑i : Int) ∧ (↑i : Int) < (↑s.length : Int)] ⟨by omega, trivial⟩ ?_
   refine SR 14 (bt (mkS s) (↑i : Int) != (10 : Int)) false (by simp only [bne_eq_false_iff_eq, beq_eq_false_iff_ne, ne_eq]; omega) ?_
   refine RR [] .z (.i 25 (.bool false) (.d (.d (.k .a)))) .a ?_
   refine RZ (NT (CF (SK (BN (NT (RG ?_))))))
   refine RV true [] .z (.i 3 (.int .i64 ((↑i : Int) + 1)) (.d (.d (.k .a)))) .a ([inI64 ((↑i : Int) + (1 : Int))]) ⟨by unfold inI64; omega, trivial⟩ ?_
   refine RZ ?_
   exact fun a' w' hS' => ⟨⟨i + 1, hlt, hgo (okB_iff.2 (.inl h10))⟩, by dsimp only; omega, ent_fr (by kernel_rfl) _ _ (ent_hp [] rfl _ _ hS')⟩
  ·by_cases h32 : s[i].toNat < 32
   ·refine SQ (SQ (RG ?_))
    refine RR [] .z (.i 7 (.bool (decide ((↑i : Int) < (↑s.length : Int)))) .a) .a ?_
    refine RZ (NT ?_)
    refine SC 7 (decide ((↑i : Int) < (↑s.length : Int))) true (decide_eq_true (by omega)) ?_
    refine CT (SK (NT (SQ (BK (SQ (RG ?_))))))
    refine RV true [] (.d (.d (.d (.d (.d .a))))) (.i 14 (.bool (bt (mkS s) (↑i : Int) != (10 : Int))) (.d (.d (.k .a)))) .a [(0 : Int) ≤ (↑i : Int) ∧ (↑i : Int) < (↑s.length : Int)] ⟨by omega, trivial⟩ ?_
    refine SR 14 (bt (mkS s) (↑i : Int) != (10 : Int)) true (by simp only [bne_iff_ne, beq_iff_eq, ne_eq]; omega) ?_
    refine RV true [] (.d (.d (.d (.d (.d .a))))) (.i 19 (.bool (decide (bt (mkS s) (↑i : Int) < (32 : Int)))) (.k (.d (.k .a)))) .a [(0 : Int) ≤ (↑i : Int) ∧ (↑i : Int) < (↑s.length : Int)] ⟨by omega, trivial⟩ ?_
    refine SR 19 (decide (bt (mkS s) (↑i : Int) < (32 : Int))) true (decide_eq_true (by omega)) ?_
    refine RR [] .z (.i 25 (.bool true) (.d (.d (.d (.k .a))))) .a ?_
    refine RZ (NT (CT (SQ (RG ?_))))
    refine RR [] .z (.i 2 (.bool false) (.d (.k (.d (.k .a))))) .a ?_
    refine RZ (NT (RE (BR (TR (TR (BR (TR ?_)))))))
    refine NE [] .a .a [] (.bool false) ?_
    exact ⟨by rw [hno (by rw [Bool.eq_false_iff]; intro h; rw [okB_iff] at h; omega)], rfl⟩
   ·by_cases h126 : 126 < s[i].toNat
    ·refine SQ (SQ (RG ?_))
     refine RR [] .z (.i 7 (.bool (decide ((↑i : Int) < (↑s.length : Int)))) .a) .a ?_
     refine RZ (NT ?_)
     refine SC 7 (decide ((↑i : Int) < (↑s.length : Int))) true (decide_eq_true (by omega)) ?_
     refine CT (SK (NT (SQ (BK (SQ (RG ?_))))))
     refine RV true [] (.d (.d (.d (.d (.d .a))))) (.i 14 (.bool (bt (mkS s) (↑i : Int) != (10 : Int))) (.d (.d (.k .a)))) .a [(0 : Int) ≤ (↑i : Int) ∧ (↑i : Int) < (↑s.length : Int)] ⟨by omega, trivial⟩ ?_
     refine SR 14 (bt (mkS s) (↑i : Int) != (10 : Int)) true (by simp only [bne_iff_ne, beq_iff_eq, ne_eq]; omega) ?_
     refine RV true [] (.d (.d (.d (.d (.d .a))))) (.i 19 (.bool (decide (bt (mkS s) (↑i : Int) < (32 : Int)))) (.k (.d (.k .a)))) .a [(0 : Int) ≤ (↑i : Int) ∧ (↑i : Int) < (↑s.length : Int)] ⟨by omega, trivial⟩ ?_
     refine SR 19 (decide (bt (mkS s) (↑i : Int) < (32 : Int))) false (decide_eq_false (by omega)) ?_
     refine RV true [] .z (.i 25 (.bool (decide (bt (mkS s) (↑i : Int) > (126 : Int)))) (.d (.d (.d (.k .a))))) .a [(0 : Int) ≤ (↑i : Int) ∧ (↑i : Int) < (↑s.length : Int)] ⟨by omega, trivial⟩ ?_
     refine RZ (NT ?_)
     refine SC 25 (decide (bt (mkS s) (↑i : Int) > (126 : Int))) true (decide_eq_true (by omega)) ?_
     refine CT (SQ (RG ?_))
     refine RR [] .z (.i 2 (.bool false) (.d (.d (.k (.d (.k .a)))))) .a ?_
     refine RZ (NT (RE (BR (TR (TR (BR (TR ?_)))))))
     refine NE [] .a .a [] (.bool false) ?_
     exact ⟨by rw [hno (by rw [Bool.eq_false_iff]; intro h; rw [okB_iff] at h; omega)], rfl⟩
    ·refine SQ (SQ (RG ?_))
     refine RR [] .z (.i 7 (.bool (decide ((↑i : Int) < (↑s.length : Int)))) .a) .a ?_
     refine RZ (NT ?_)
     refine SC 7 (decide ((↑i : Int) < (↑s.length : Int))) true (decide_eq_true (by omega)) ?_
     refine CT (SK (NT (SQ (BK (SQ (RG ?_))))))
     refine RV true [] (.d (.d (.d (.d (.d .a))))) (.i 14 (.bool (bt (mkS s) (↑i : Int) != (10 : Int))) (.d (.d (.k .a)))) .a [(0 : Int) ≤ (↑i : Int) ∧ (↑i : Int) < (↑s.length : Int)] ⟨by omega, trivial⟩ ?_
     refine SR 14 (bt (mkS s) (↑i : Int) != (10 : Int)) true (by simp only [bne_iff_ne, beq_iff_eq, ne_eq]; omega) ?_
     refine RV true [] (.d (.d (.d (.d (.d .a))))) (.i 19 (.bool (decide (bt (mkS s) (↑i : Int) < (32 : Int)))) (.k (.d (.k .a)))) .a [(0 : Int) ≤ (↑i : Int) ∧ (↑i : Int) < (↑s.length : Int)] ⟨by omega, trivial⟩ ?_
     refine SR 19 (decide (bt (mkS s) (↑i : Int) < (32 : Int))) false (decide_eq_false (by omega)) ?_
     refine RV true [] .z (.i 25 (.bool (decide (bt (mkS s) (↑i : Int) > (126 : Int)))) (.d (.d (.d (.k .a))))) .a [(0 : Int) ≤ (↑i : Int) ∧ (↑i : Int) < (↑s.length : Int)] ⟨by omega, trivial⟩ ?_
     refine RZ (NT ?_)
     refine SC 25 (decide (bt (mkS s) (↑i : Int) > (126 : Int))) false (decide_eq_false (by omega)) ?_
     refine CF (SK (BN (NT (RG ?_))))
     refine RV true [] .z (.i 3 (.int .i64 ((↑i : Int) + 1)) (.d (.d (.d (.k .a))))) .a ([inI64 ((↑i : Int) + (1 : Int))]) ⟨by unfold inI64; omega, trivial⟩ ?_
     refine RZ ?_
     exact fun a' w' hS' => ⟨⟨i + 1, hlt, hgo (okB_iff.2 (.inr ⟨by omega, by omega⟩))⟩, by dsimp only; omega, ent_fr (by kernel_rfl) _ _ (ent_hp [] rfl _ _ hS')⟩
 ·refine SQ (SQ (RG ?_))
  refine RR [] .z (.i 7 (.bool (decide ((↑i : Int) < (↑s.length : Int)))) .a) .a ?_
  refine RZ (NT ?_)
  refine SC 7 (decide ((↑i : Int) < (↑s.length : Int))) false (decide_eq_false (by omega)) ?_
  refine CF (EX (TE (TE (BH (NT (SQ (RG ?_)))))))
  refine RR [] .z (.i 2 (.bool (decide ((↑s.length : Int) ≤ (255 : Int)))) .z) .a ?_
  refine RZ (NT (RE ?_))
  refine NE [] .a .a [] (.bool (decide ((↑s.length : Int) ≤ 255))) ?_
  refine ⟨?_, rfl⟩
  have : s.all okB = true := List.all_eq_true.2 fun x hx => by
   obtain ⟨j, hj⟩ := List.getElem?_of_mem hx
   obtain ⟨hj1, rfl⟩ := List.getElem?_eq_some_iff.1 hj
   exact hall j (by omega)
  unfold plainB
  rw [this, Bool.and_true]
  congr 1
  exact decide_eq_decide.2 (by omega)
end Go.Proofs.YtgcfomhlgipllaaGreatDoor
namespace Go.Proofs
open Go.Shelf
def Tryz.laysM171_ren : Go.Shelf.Ren := ⟨fun | 171 => 51 | 243 => 108 | 246 => 150 | 283 => 183 | 284 => 184 | 285 => 185 | 286 => 186 | 129 => 203 | 317 => 202 | 318 => 204 | 319 => 205 | 320 => 206 | 337 => 214 | 338 => 215 | n => n, fun | 3 => 3 | 9 => 9 | 2 => 2 | 4 => 4 | 171 => 256 | 0 => 0 | 53 => 178 | 37 => 39 | 5 => 5 | 173 => 258 | 212 => 289 | 51 => 274 | 20 => 20 | 213 => 290 | 46 => 63 | 232 => 314 | 233 => 315 | n => n, fun | 17 => 3 | 18 => 5 | 19 => 6 | n => n⟩
theorem Tryz.laysM171 : Go.Proofs.LaysM.n171 Tryz.prog Tryz.laysM171_ren := {
 mixed := by kernel_rfl
 f129 := Tryz.func203.trans (congrArg some (by kernel_rfl))
 f171 := Tryz.func51.trans (congrArg some (by kernel_rfl))
 f243 := Tryz.func108.trans (congrArg some (by kernel_rfl))
 f246 := Tryz.func150.trans (congrArg some (by kernel_rfl))
 f283 := Tryz.func183.trans (congrArg some (by kernel_rfl))
 f284 := Tryz.func184.trans (congrArg some (by kernel_rfl))
 f285 := Tryz.func185.trans (congrArg some (by kernel_rfl))
 f286 := Tryz.func186.trans (congrArg some (by kernel_rfl))
 f317 := Tryz.func202.trans (congrArg some (by kernel_rfl))
 f318 := Tryz.func204.trans (congrArg some (by kernel_rfl))
 f319 := Tryz.func205.trans (congrArg some (by kernel_rfl))
 f320 := Tryz.func206.trans (congrArg some (by kernel_rfl))
 f337 := Tryz.func214.trans (congrArg some (by kernel_rfl))
 f338 := Tryz.func215.trans (congrArg some (by kernel_rfl))
 t0 := Tryz.underlying0
 a0 := Tryz.isAgg0
 z0 := Tryz.sizeOf0
 v0 := Tryz.zeroValue0
 t2 := Tryz.underlying2
 a2 := Tryz.isAgg2
 z2 := Tryz.sizeOf2
 v2 := Tryz.zeroValue2
 t3 := Tryz.underlying3
 a3 := Tryz.isAgg3
 z3 := Tryz.sizeOf3
 v3 := Tryz.zeroValue3
 t4 := Tryz.underlying4
 a4 := Tryz.isAgg4
 z4 := Tryz.sizeOf4
 v4 := Tryz.zeroValue4
 t5 := Tryz.underlying5
 a5 := Tryz.isAgg5
 z5 := Tryz.sizeOf5
 v5 := Tryz.zeroValue5
 t9 := Tryz.underlying9
 a9 := Tryz.isAgg9
 z9 := Tryz.sizeOf9
 v9 := Tryz.zeroValue9
 t20 := Tryz.underlying20
 a20 := Tryz.isAgg20
 z20 := Tryz.sizeOf20
 v20 := Tryz.zeroValue20
 t37 := Tryz.underlying39
 a37 := Tryz.isAgg39
 z37 := Tryz.sizeOf39
 v37 := Tryz.zeroValue39
 t46 := Tryz.underlying63
 a46 := Tryz.isAgg63
 z46 := Tryz.sizeOf63
 v46 := Tryz.zeroValue63
 t51 := Tryz.underlying274
 a51 := Tryz.isAgg274
 z51 := Tryz.sizeOf274
 v51 := Tryz.zeroValue274
 t53 := Tryz.underlying178
 a53 := Tryz.isAgg178
 z53 := Tryz.sizeOf178
 v53 := Tryz.zeroValue178
 t171 := Tryz.underlying256
 a171 := Tryz.isAgg256
 z171 := Tryz.sizeOf256
 v171 := Tryz.zeroValue256
 t173 := Tryz.underlying258
 a173 := Tryz.isAgg258
 z173 := Tryz.sizeOf258
 v173 := Tryz.zeroValue258
 t212 := Tryz.underlying289
 a212 := Tryz.isAgg289
 z212 := Tryz.sizeOf289
 v212 := Tryz.zeroValue289
 t213 := Tryz.underlying290
 a213 := Tryz.isAgg290
 z213 := Tryz.sizeOf290
 t232 := Tryz.underlying314
 a232 := Tryz.isAgg314
 z232 := Tryz.sizeOf314
 v232 := Tryz.zeroValue314
 t233 := Tryz.underlying315
 a233 := Tryz.isAgg315
 z233 := Tryz.sizeOf315
 v233 := Tryz.zeroValue315
 g17 := by kernel_rfl
 g18 := by kernel_rfl
 g19 := by kernel_rfl
 i0 := by kernel_rfl
 i2 := by kernel_rfl
 i3 := by kernel_rfl
 i4 := by kernel_rfl
 i5 := by kernel_rfl
 i9 := by kernel_rfl
 i20 := by kernel_rfl
 i37 := by kernel_rfl
 i46 := by kernel_rfl
 i51 := by kernel_rfl
 i53 := by kernel_rfl
 i171 := by kernel_rfl
 i173 := by kernel_rfl
 i212 := by kernel_rfl
 i232 := by kernel_rfl
 i233 := by kernel_rfl
 m17 := by kernel_rfl
 m18 := by kernel_rfl
 m19 := by kernel_rfl }
open Go.RowKit Go.Sort Go.Lib in
theorem Tryz.strconv_Itoa (n : Int) (h0 : -9223372036854775808 ≤ n) (h1 : n ≤ 9223372036854775807) (w : World) (htab : Lib.TabIs Tryz.prog w "internal/strconv.uint64pow10" .u64 Lib.pow10Tab) :
  Calls Tryz.prog 51 #[.int .i64 n] w fun e w' => e = .returned (.string ⟨(Lib.itoa n).toArray⟩) ∧ ∃ k os, w' = grow (w.drewN k) os := Any.strconv_Itoa Tryz.laysM171 n h0 h1 w htab
end Go.Proofs
namespace Go.Proofs.YtgcfomhlgipllaaGreatDoor
open Go Go.Sx
def powName : String := "internal/strconv.uint64pow10"
def powQ : Sx.Oq where
 own := fun k => k = 3
 rw := False
 holds := fun w => Lib.TabIs Tryz.prog w powName .u64 Lib.pow10Tab
 loc := fun w w' h hw => by
  have hg : Tryz.prog.globalNamed powName = some 3 := by kernel_rfl
  unfold Lib.TabIs World.var? at hw ⊢
  rw [hg] at hw ⊢
  have h2 := h _ rfl
  simp only [Option.bind_some] at hw ⊢
  rw [h2]; exact hw
 lt := fun w k hw hk => by
  subst hk
  have hg : Tryz.prog.globalNamed powName = some 3 := by kernel_rfl
  unfold Lib.TabIs World.var? at hw
  rw [hg] at hw
  simp only [Option.bind_some] at hw
  refine Nat.lt_of_not_le fun hle => ?_
  rw [Array.getElem?_eq_none hle] at hw
  cases hw
def gPow : Ch := .op powQ
theorem view_gPow : View gPow gPow := ⟨fun w h => h, fun w h k hk => hk, fun h => h⟩
theorem Itoa_spec (n : Int) (h0 : -9223372036854775808 ≤ n) (h1 : n ≤ 9223372036854775807) : Does Tryz.prog 51 [.int .i64 n] [gPow] (fun v hp' => v = .string (mkS (Lib.itoa n)) ∧ hp' = []) := fun w hw =>
 (Tryz.strconv_Itoa n h0 h1 w (hw.holds gPow (List.mem_singleton.2 rfl))).mono fun e w' ⟨he, k, os, hw'⟩ => by
  subst hw'
  refine ⟨_, [], ⟨rfl, rfl⟩, he, ⟨(fun c hc => by cases hc), List.Pairwise.nil⟩, ⟨rfl, rfl, rfl, ?_, fun k hk _ => ?_⟩, (fun c hc => by cases hc), fun c hc => by cases hc⟩
  ·rw [Sort.size_grow]; exact Nat.le_add_right _ _
  ·exact Sort.heap_grow_old _ _ hk
end Go.Proofs.YtgcfomhlgipllaaGreatDoor
namespace Go.Proofs.YtgcfomhlgipllaaGreatDoor
open Go Go.Sx
theorem dec_len (n : Nat) (k : Nat) (h : n < 10 ^ k) : (Lib.decDigits n).length ≤ max k 1 := by
 induction k generalizing n with
 | zero => simp at h; subst h; rw [Lib.decDigits]; simp
 | succ k ih =>
  rw [Lib.decDigits]
  split
  ·simp
  ·rw [List.length_append]
   have h2 := ih (n / 10) (by rw [Nat.pow_succ] at h; omega)
   have hk : 1 ≤ k := by
    rcases Nat.eq_zero_or_pos k with rfl | h3
    ·simp at h; omega
    ·exact h3
   simp only [List.length_singleton]; omega
end Go.Proofs.YtgcfomhlgipllaaGreatDoor
namespace Go.Proofs.YtgcfomhlgipllaaGreatDoor
open Go Go.Sx
theorem list_ne_at {α : Type} {l1 l2 : List α} {i : Nat} (h1 : i < l1.length) (h2 : i < l2.length) (hn : l1[i] ≠ l2[i]) : l1 ≠ l2 := fun e => by subst e; exact hn rfl
theorem sameNums_spec (a1 : Option Addr) (c1 : Nat) (l1 : List Int) (a2 : Option Addr) (c2 : Nat) (l2 : List Int) (hl1 : l1.length ≤ 1048576) (hl2 : l2.length ≤ 1048576) :
  Does Tryz.prog 20 [.slice a1 l1.length c1, .slice a2 l2.length c2] [ro a1 (ints l1), ro a2 (ints l2)] (fun v hp' => v = .bool (decide (l1 = l2)) ∧ hp' = []) := by
 refine fn_enter Tryz.func20 rfl 26 rfl fun w0 h0 => ?_
 refine SQ (RG ?_)
 refine RR [] .z (.i 4 (.bool false) .a) .a ?_
 refine RZ (NT (SQ (SQ (RG ?_))))
 refine RR [] .z (.i 10 (.bool ((↑l1.length : Int) != (↑l2.length : Int))) .a) .a ?_
 refine RZ (NT ?_)
 by_cases hlen : ¬ l1.length = l2.length
 ·rw [decide_eq_false (fun e => hlen (congrArg List.length e))]
  refine SC 10 ((↑l1.length : Int) != (↑l2.length : Int)) true (by simp only [bne_iff_ne, beq_iff_eq, ne_eq]; omega) ?_
  refine CT (SQ (RG ?_))
  refine RR [] .z (.d (.d (.k .a))) .a ?_
  refine RZ (NT (RE (TR ?_)))
  refine NE [] .z .a [] (.bool false) ?_
  exact ⟨rfl, rfl⟩
 rw [Decidable.not_not] at hlen
 refine SC 10 ((↑l1.length : Int) != (↑l2.length : Int)) false (by simp only [bne_eq_false_iff_eq, beq_eq_false_iff_ne, ne_eq]; omega) ?_
 refine CF (SK (NT (SQ (SQ (RG ?_)))))
 refine RR [] .z (.i 5 (.int .i64 0) (.d (.d (.k .a)))) .a ?_
 refine RZ (NT (BK ?_))
 refine wpc_loop (X := {i : Nat // i ≤ l1.length ∧ ∀ j, (h1 : j < l1.length) → (h2 : j < l2.length) → j < i → l1[j] = l2[j]}) (fun x => St.mk [(5, .int .i64 (x.1 : Int)), (4, .bool false), (0, .slice a1 l1.length c1), (1, .slice a2 l2.length c2)] [ro a1 (ints l1), ro a2 (ints l2)]) (fun x => l1.length - x.1) ⟨0, Nat.zero_le _, fun j _ _ h => absurd h (Nat.not_lt_zero _)⟩ (ent_fr (by kernel_rfl)) ?_
 rintro ⟨i, hi, hall⟩
 dsimp only at hi hall ⊢
 by_cases hlt : i < l1.length
 ·have hlt2 : i < l2.length := by omega
  refine wpc_fact (fun w h => ro_addr h 0 rfl (by rw [ints_len]; omega)) ?_
  rintro ⟨g1, o1, rfl⟩
  refine wpc_fact (fun w h => ro_addr h 1 rfl (by rw [ints_len]; omega)) ?_
  rintro ⟨g2, o2, rfl⟩
  refine SQ (SQ (RG ?_))
  refine RR [] .z (.i 14 (.bool (decide ((↑i : Int) < (↑l1.length : Int)))) .a) .a ?_
  refine RZ (NT ?_)
  refine SC 14 (decide ((↑i : Int) < (↑l1.length : Int))) true (decide_eq_true (by omega)) ?_
  refine CT (SK (NT (SQ (BK (SQ ?_)))))
  refine wpc_draw (by kernel_rfl) [ro (some ⟨g1, o1, none⟩) (ints l1), ro (some ⟨g2, o2, none⟩) (ints l2)] (sub_of [0, 1] (by kernel_rfl)) 9 (by kernel_rfl) ?_
  refine wpa_take true [(0, []), (1, []), (2, []), (4, []), (5, []), (6, [])] ([(23, .pointer (some ⟨g2, o2 + i * 1, none⟩)), (19, .pointer (some ⟨g1, o1 + i * 1, none⟩)), (5, .int .i64 (↑i : Int)), (4, .bool false), (0, .slice (some ⟨g1, o1, none⟩) l1.length c1), (1, .slice (some ⟨g2, o2, none⟩) l2.length c2)]) (#[true, true, true, false, true, true, true, false, false]) [(0 : Int) ≤ (↑i : Int) ∧ (↑i : Int) < (↑l1.length : Int), (0 : Int) ≤ (↑i : Int) ∧ (↑i : Int) < (↑l2.length : Int)] (n := 3) (by kernel_rfl) (by kernel_rfl) (by kernel_rfl) ⟨by omega, by omega, trivial⟩ ?_
  refine wpa_qld (i := 3) (n := 2) (by kernel_rfl) (by kernel_rfl) (by kernel_rfl) (t := 3) (a := ⟨g1, o1 + i * 1, none⟩) (dst := some 20) (by kernel_rfl) false 1 (by kernel_rfl) (by simp) [.int .i64 l1[i]] rfl (fun w h => ld_roL h 0 rfl (i * 1) (ints_at hlt)) ?_
  refine wpa_qld (i := 7) (n := 1) (by kernel_rfl) (by kernel_rfl) (by kernel_rfl) (t := 3) (a := ⟨g2, o2 + i * 1, none⟩) (dst := some 24) (by kernel_rfl) false 1 (by kernel_rfl) (by simp) [.int .i64 l2[i]] rfl (fun w h => ld_roL h 1 rfl (i * 1) (ints_at hlt2)) ?_
  refine TK 0 [(8, [])] (.i 25 (.bool (l1[i] != l2[i])) (.d (.d (.d (.d (.k .a)))))) (#[true, true, true, true, true, true, true, true, true]) ?_
  refine wpa_done 0 (by kernel_rfl) ?_
  refine NT ?_
  by_cases he : l1[i] = l2[i]
  ·refine SC 25 (l1[i] != l2[i]) false (by simp only [bne_eq_false_iff_eq, beq_eq_false_iff_ne, ne_eq]; omega) ?_
   refine CF (SK (BN (NT (RG ?_))))
   refine RV true [] .z (.i 5 (.int .i64 ((↑i : Int) + 1)) (.d (.d (.d (.k .a))))) .a ([inI64 ((↑i : Int) + (1 : Int))]) ⟨by unfold inI64; omega, trivial⟩ ?_
   refine RZ ?_
   exact fun a' w' hS' => ⟨⟨i + 1, hlt, fun j h1 h2 hj => by
       rcases Nat.lt_or_ge j i with h | h
       ·exact hall j h1 h2 h
       ·obtain rfl : j = i := by omega
        exact he⟩, by dsimp only; omega, ent_fr (by kernel_rfl) _ _ (ent_hp [0, 0] rfl _ _ hS')⟩
  ·rw [decide_eq_false (list_ne_at hlt hlt2 he)]
   refine SC 25 (l1[i] != l2[i]) true (by simp only [bne_iff_ne, beq_iff_eq, ne_eq]; omega) ?_
   refine CT (SQ (RG ?_))
   refine RR [] .z (.i 4 (.bool false) (.d (.d (.k (.d (.k .a)))))) .a ?_
   refine RZ (NT (RE (BR (TR (TR (BR (TR ?_)))))))
   refine NE [] .z .a [] (.bool false) ?_
   exact ⟨rfl, rfl⟩
 ·obtain rfl : i = l1.length := by omega
  rw [decide_eq_true (List.ext_getElem hlen fun j h1 h2 => hall j h1 h2 h1)]
  refine SQ (SQ (RG ?_))
  refine RR [] .z (.i 14 (.bool (decide ((↑l1.length : Int) < (↑l1.length : Int)))) .a) .a ?_
  refine RZ (NT ?_)
  refine SC 14 (decide ((↑l1.length : Int) < (↑l1.length : Int))) false (by simp) ?_
  refine CF (EX (TE (TE (BH (NT (SQ (RG ?_)))))))
  refine RR [] .z (.i 4 (.bool true) .z) .a ?_
  refine RZ (NT (RE ?_))
  refine NE [] .z .a [] (.bool true) ?_
  exact ⟨rfl, rfl⟩
theorem sameTexts_spec (a1 : Option Addr) (c1 : Nat) (l1 : List Tx) (a2 : Option Addr) (c2 : Nat) (l2 : List Tx) (hl1 : l1.length ≤ 1048576) (hl2 : l2.length ≤ 1048576) :
  Does Tryz.prog 25 [.slice a1 l1.length c1, .slice a2 l2.length c2] [ro a1 (strsC l1), ro a2 (strsC l2)] (fun v hp' => v = .bool (decide (l1 = l2)) ∧ hp' = []) := by
 refine fn_enter Tryz.func25 rfl 26 rfl fun w0 h0 => ?_
 refine SQ (RG ?_)
 refine RR [] .z (.i 4 (.bool false) .a) .a ?_
 refine RZ (NT (SQ (SQ (RG ?_))))
 refine RR [] .z (.i 10 (.bool ((↑l1.length : Int) != (↑l2.length : Int))) .a) .a ?_
 refine RZ (NT ?_)
 by_cases hlen : ¬ l1.length = l2.length
 ·rw [decide_eq_false (fun e => hlen (congrArg List.length e))]
  refine SC 10 ((↑l1.length : Int) != (↑l2.length : Int)) true (by simp only [bne_iff_ne, beq_iff_eq, ne_eq]; omega) ?_
  refine CT (SQ (RG ?_))
  refine RR [] .z (.d (.d (.k .a))) .a ?_
  refine RZ (NT (RE (TR ?_)))
  refine NE [] .z .a [] (.bool false) ?_
  exact ⟨rfl, rfl⟩
 rw [Decidable.not_not] at hlen
 refine SC 10 ((↑l1.length : Int) != (↑l2.length : Int)) false (by simp only [bne_eq_false_iff_eq, beq_eq_false_iff_ne, ne_eq]; omega) ?_
 refine CF (SK (NT (SQ (SQ (RG ?_)))))
 refine RR [] .z (.i 5 (.int .i64 0) (.d (.d (.k .a)))) .a ?_
 refine RZ (NT (BK ?_))
 refine wpc_loop (X := {i : Nat // i ≤ l1.length ∧ ∀ j, (h1 : j < l1.length) → (h2 : j < l2.length) → j < i → l1[j] = l2[j]}) (fun x => St.mk [(5, .int .i64 (x.1 : Int)), (4, .bool false), (0, .slice a1 l1.length c1), (1, .slice a2 l2.length c2)] [ro a1 (strsC l1), ro a2 (strsC l2)]) (fun x => l1.length - x.1) ⟨0, Nat.zero_le _, fun j _ _ h => absurd h (Nat.not_lt_zero _)⟩ (ent_fr (by kernel_rfl)) ?_
 rintro ⟨i, hi, hall⟩
 dsimp only at hi hall ⊢
 by_cases hlt : i < l1.length
 ·have hlt2 : i < l2.length := by omega
  refine wpc_fact (fun w h => ro_addr h 0 rfl (by rw [strsC_len]; omega)) ?_
  rintro ⟨g1, o1, rfl⟩
  refine wpc_fact (fun w h => ro_addr h 1 rfl (by rw [strsC_len]; omega)) ?_
  rintro ⟨g2, o2, rfl⟩
  refine SQ (SQ (RG ?_))
  refine RR [] .z (.i 14 (.bool (decide ((↑i : Int) < (↑l1.length : Int)))) .a) .a ?_
  refine RZ (NT ?_)
  refine SC 14 (decide ((↑i : Int) < (↑l1.length : Int))) true (decide_eq_true (by omega)) ?_
  refine CT (SK (NT (SQ (BK (SQ ?_)))))
  refine wpc_draw (by kernel_rfl) [ro (some ⟨g1, o1, none⟩) (strsC l1), ro (some ⟨g2, o2, none⟩) (strsC l2)] (sub_of [0, 1] (by kernel_rfl)) 9 (by kernel_rfl) ?_
  refine wpa_take true [(0, []), (1, []), (2, []), (4, []), (5, []), (6, [])] ([(23, .pointer (some ⟨g2, o2 + i * 1, none⟩)), (19, .pointer (some ⟨g1, o1 + i * 1, none⟩)), (5, .int .i64 (↑i : Int)), (4, .bool false), (0, .slice (some ⟨g1, o1, none⟩) l1.length c1), (1, .slice (some ⟨g2, o2, none⟩) l2.length c2)]) (#[true, true, true, false, true, true, true, false, false]) [(0 : Int) ≤ (↑i : Int) ∧ (↑i : Int) < (↑l1.length : Int), (0 : Int) ≤ (↑i : Int) ∧ (↑i : Int) < (↑l2.length : Int)] (n := 3) (by kernel_rfl) (by kernel_rfl) (by kernel_rfl) ⟨by omega, by omega, trivial⟩ ?_
  refine wpa_qld (i := 3) (n := 2) (by kernel_rfl) (by kernel_rfl) (by kernel_rfl) (t := 9) (a := ⟨g1, o1 + i * 1, none⟩) (dst := some 20) (by kernel_rfl) false 1 (by kernel_rfl) (by simp) [.string (mkS l1[i])] rfl (fun w h => ld_roL h 0 rfl (i * 1) (strs_at hlt)) ?_
  refine wpa_qld (i := 7) (n := 1) (by kernel_rfl) (by kernel_rfl) (by kernel_rfl) (t := 9) (a := ⟨g2, o2 + i * 1, none⟩) (dst := some 24) (by kernel_rfl) false 1 (by kernel_rfl) (by simp) [.string (mkS l2[i])] rfl (fun w h => ld_roL h 1 rfl (i * 1) (strs_at hlt2)) ?_
  refine TK 0 [(8, [])] (.i 25 (.bool !decide (l1[i] = l2[i])) (.d (.d (.d (.d (.k .a)))))) (#[true, true, true, true, true, true, true, true, true]) ?_
  refine wpa_done 0 (by kernel_rfl) ?_
  refine NT ?_
  by_cases he : l1[i] = l2[i]
  ·refine SC 25 (!decide (l1[i] = l2[i])) false (by simp; omega) ?_
   refine CF (SK (BN (NT (RG ?_))))
   refine RV true [] .z (.i 5 (.int .i64 ((↑i : Int) + 1)) (.d (.d (.d (.k .a))))) .a ([inI64 ((↑i : Int) + (1 : Int))]) ⟨by unfold inI64; omega, trivial⟩ ?_
   refine RZ ?_
   exact fun a' w' hS' => ⟨⟨i + 1, hlt, fun j h1 h2 hj => by
       rcases Nat.lt_or_ge j i with h | h
       ·exact hall j h1 h2 h
       ·obtain rfl : j = i := by omega
        exact he⟩, by dsimp only; omega, ent_fr (by kernel_rfl) _ _ (ent_hp [0, 0] rfl _ _ hS')⟩
  ·rw [decide_eq_false (list_ne_at hlt hlt2 he)]
   refine SC 25 (!decide (l1[i] = l2[i])) true (by simp; omega) ?_
   refine CT (SQ (RG ?_))
   refine RR [] .z (.i 4 (.bool false) (.d (.d (.k (.d (.k .a)))))) .a ?_
   refine RZ (NT (RE (BR (TR (TR (BR (TR ?_)))))))
   refine NE [] .z .a [] (.bool false) ?_
   exact ⟨rfl, rfl⟩
 ·obtain rfl : i = l1.length := by omega
  rw [decide_eq_true (List.ext_getElem hlen fun j h1 h2 => hall j h1 h2 h1)]
  refine SQ (SQ (RG ?_))
  refine RR [] .z (.i 14 (.bool (decide ((↑l1.length : Int) < (↑l1.length : Int)))) .a) .a ?_
  refine RZ (NT ?_)
  refine SC 14 (decide ((↑l1.length : Int) < (↑l1.length : Int))) false (by simp) ?_
  refine CF (EX (TE (TE (BH (NT (SQ (RG ?_)))))))
  refine RR [] .z (.i 4 (.bool true) .z) .a ?_
  refine RZ (NT (RE ?_))
  refine NE [] .z .a [] (.bool true) ?_
  exact ⟨rfl, rfl⟩
/-! ### whether an op's number is always 0 -/
def bareB (o : Int) : Bool := decide (o = 6) || (decide (7 ≤ o) && decide (o ≤ 19)) || decide (o = 26) || decide (o = 27) || decide (o = 30) || decide (o = 31) || decide (o = 32) || decide (o = 33)
theorem cbare_spec (o : Int) : Does Tryz.prog 52 [.int .i64 o] [] (fun v hp' => v = .bool (bareB o) ∧ hp' = []) := by
 refine fn_enter Tryz.func52 rfl 18 rfl fun w0 h0 => ?_
 refine SQ (RG ?_)
 refine RR [] .z (.i 2 (.bool false) .a) .a ?_
 refine RZ (NT (SQ (SQ (RG ?_))))
 refine RR [] .z (.i 3 (.int .i64 o) .a) .a ?_
 refine RZ (NT (BK (SQ (SQ (RG ?_)))))
 refine RR [] .z (.i 4 (.bool (o == (6 : Int))) .a) .a ?_
 refine RZ (NT ?_)
 by_cases k6 : o = 6
 ·subst k6
  refine CT (SK (NT (CT (SQ (RG ?_)))))
  refine RR [] .z (.i 2 (.bool true) (.d (.d (.d (.k .a))))) .a ?_
  refine RZ (NT (RE (BR (TR ?_))))
  refine NE [] .a .a [] (.bool true) ?_
  exact ⟨rfl, rfl⟩
 refine SC 4 (o == (6 : Int)) false (by simp only [bne_eq_false_iff_eq, beq_eq_false_iff_ne, ne_eq]; omega) ?_
 refine CF (SQ (RG ?_))
 refine RR [] .z (.i 4 (.bool (o == (26 : Int))) (.d (.d (.k .a)))) .a ?_
 refine RZ (NT ?_)
 by_cases k26 : o = 26
 ·subst k26
  refine CT (SK (NT (CT (SQ (RG ?_)))))
  refine RR [] .z (.i 2 (.bool true) (.d (.d (.d (.k .a))))) .a ?_
  refine RZ (NT (RE (BR (TR ?_))))
  refine NE [] .a .a [] (.bool true) ?_
  exact ⟨rfl, rfl⟩
 refine SC 4 (o == (26 : Int)) false (by simp only [bne_eq_false_iff_eq, beq_eq_false_iff_ne, ne_eq]; omega) ?_
 refine CF (SQ (RG ?_))
 refine RR [] .z (.i 4 (.bool (o == (27 : Int))) (.d (.d (.k .a)))) .a ?_
 refine RZ (NT ?_)
 by_cases k27 : o = 27
 ·subst k27
  refine CT (SK (NT (CT (SQ (RG ?_)))))
  refine RR [] .z (.i 2 (.bool true) (.d (.d (.d (.k .a))))) .a ?_
  refine RZ (NT (RE (BR (TR ?_))))
  refine NE [] .a .a [] (.bool true) ?_
  exact ⟨rfl, rfl⟩
 refine SC 4 (o == (27 : Int)) false (by simp only [bne_eq_false_iff_eq, beq_eq_false_iff_ne, ne_eq]; omega) ?_
 refine CF (SQ (RG ?_))
 refine RR [] .z (.i 4 (.bool (o == (30 : Int))) (.d (.d (.k .a)))) .a ?_
 refine RZ (NT ?_)
 by_cases k30 : o = 30
 ·subst k30
  refine CT (SK (NT (CT (SQ (RG ?_)))))
  refine RR [] .z (.i 2 (.bool true) (.d (.d (.d (.k .a))))) .a ?_
  refine RZ (NT (RE (BR (TR ?_))))
  refine NE [] .a .a [] (.bool true) ?_
  exact ⟨rfl, rfl⟩
 refine SC 4 (o == (30 : Int)) false (by simp only [bne_eq_false_iff_eq, beq_eq_false_iff_ne, ne_eq]; omega) ?_
 refine CF (SQ (RG ?_))
 refine RR [] .z (.i 4 (.bool (o == (31 : Int))) (.d (.d (.k .a)))) .a ?_
 refine RZ (NT ?_)
 by_cases k31 : o = 31
 ·subst k31
  refine CT (SK (NT (CT (SQ (RG ?_)))))
  refine RR [] .z (.i 2 (.bool true) (.d (.d (.d (.k .a))))) .a ?_
  refine RZ (NT (RE (BR (TR ?_))))
  refine NE [] .a .a [] (.bool true) ?_
  exact ⟨rfl, rfl⟩
 refine SC 4 (o == (31 : Int)) false (by simp only [bne_eq_false_iff_eq, beq_eq_false_iff_ne, ne_eq]; omega) ?_
 refine CF (SQ (RG ?_))
 refine RR [] .z (.i 4 (.bool (o == (32 : Int))) (.d (.d (.k .a)))) .a ?_
 refine RZ (NT ?_)
 by_cases k32 : o = 32
 ·subst k32
  refine CT (SK (NT (CT (SQ (RG ?_)))))
  refine RR [] .z (.i 2 (.bool true) (.d (.d (.d (.k .a))))) .a ?_
  refine RZ (NT (RE (BR (TR ?_))))
  refine NE [] .a .a [] (.bool true) ?_
  exact ⟨rfl, rfl⟩
 refine SC 4 (o == (32 : Int)) false (by simp only [bne_eq_false_iff_eq, beq_eq_false_iff_ne, ne_eq]; omega) ?_
 refine CF (RG ?_)
 refine RR [] .z (.i 4 (.bool (o == (33 : Int))) (.d (.d (.d (.k .a))))) .a ?_
 refine RZ (NT ?_)
 by_cases k33 : o = 33
 ·subst k33
  refine CT (SQ (RG ?_))
  refine RR [] .z (.i 2 (.bool true) (.d (.d (.k .a)))) .a ?_
  refine RZ (NT (RE (BR (TR ?_))))
  refine NE [] .a .a [] (.bool true) ?_
  exact ⟨rfl, rfl⟩
 refine SC 4 (o == (33 : Int)) false (by simp only [bne_eq_false_iff_eq, beq_eq_false_iff_ne, ne_eq]; omega) ?_
 refine CF (SK (BN (NT (SQ (RG ?_)))))
 refine RR [] (.d (.d (.d .a))) (.i 14 (.bool (decide (o ≥ (7 : Int)))) (.d (.d (.k .a)))) .a ?_
 by_cases h1 : 7 ≤ o
 ·refine SR 14 (decide (o ≥ (7 : Int))) true (decide_eq_true (by omega)) ?_
  refine RR [] .z (.i 2 (.bool (decide (o ≤ (19 : Int)))) .z) .a ?_
  refine RZ (NT (RE ?_))
  refine NE [] .a .a [] (.bool (decide (o ≤ 19))) ?_
  refine ⟨?_, rfl⟩
  unfold bareB
  rw [decide_eq_false k6, decide_eq_false k26, decide_eq_false k27, decide_eq_false k30, decide_eq_false k31, decide_eq_false k32, decide_eq_false k33, decide_eq_true h1]
  simp
 ·refine SR 14 (decide (o ≥ (7 : Int))) false (decide_eq_false (by omega)) ?_
  refine RR [] .z (.d (.d (.k .z))) .a ?_
  refine RZ (NT (RE ?_))
  refine NE [] .a .a [] (.bool false) ?_
  refine ⟨?_, rfl⟩
  unfold bareB
  rw [decide_eq_false k6, decide_eq_false k26, decide_eq_false k27, decide_eq_false k30, decide_eq_false k31, decide_eq_false k32, decide_eq_false k33, decide_eq_false h1]
  rfl
end Go.Proofs.YtgcfomhlgipllaaGreatDoor
namespace Go.Proofs.YtgcfomhlgipllaaGreatDoor
open Go Go.Sx
def gNames : Ch := ro (some ⟨0, 0, none⟩) (strsC opNames)
def lineI (k : Nat) (x : InP) : Tx := Lib.itoa k ++ [32] ++ opName x.1 ++ (if bareB x.1 = true then [] else [32] ++ Lib.itoa x.2)
def listU (u : UnitP) : List Tx := ([102, 110, 32] ++ u.name) :: (List.range u.ins.length).map (fun k => lineI k (u.ins.getD k (0, 0)))
def listC (c : CodeP) : List Tx := c.units.flatMap listU
theorem lineI_t {k : Nat} {x : InP} (h : bareB x.1 = true) : lineI k x = Lib.itoa k ++ [32] ++ opName x.1 := by unfold lineI; rw [if_pos h, List.append_nil]
theorem lineI_f {k : Nat} {x : InP} (h : ¬ bareB x.1 = true) : lineI k x = Lib.itoa k ++ [32] ++ opName x.1 ++ ([32] ++ Lib.itoa x.2) := by unfold lineI; rw [if_neg h]
theorem listU_len (u : UnitP) : (listU u).length = u.ins.length + 1 := by unfold listU; rw [List.length_cons, List.length_map, List.length_range]
theorem str1w (t : Tx) : Sx.One [.string (mkS t)] := by
 intro v hv
 rw [List.mem_singleton.1 hv]; rfl
theorem itoa_l20 {n : Int} (h : i64r n) : (Lib.itoa n).length ≤ 20 := by
 obtain ⟨h1, h2⟩ := h
 have hd : ∀ m : Nat, m ≤ 9223372036854775808 → (Lib.decDigits m).length ≤ 19 := fun m hm => by have := dec_len m 19 (by omega); omega
 unfold Lib.itoa
 split
 ·have := hd n.natAbs (by omega)
  rw [List.length_cons]; omega
 ·have := hd n.toNat (by omega)
  omega
theorem fits_op {c : CodeP} {u : UnitP} {x : InP} (h : fitsB c u x = true) : 0 ≤ x.1 ∧ x.1 ≤ 34 := by
 unfold fitsB at h
 repeat' split at h
 all_goals first | omega | (simp only [Bool.and_eq_true, decide_eq_true_eq] at h; omega)
theorem listL_len (l : List UnitP) (hl : l.length ≤ 32) (hi : ∀ u ∈ l, u.ins.length ≤ 4096) : (l.flatMap listU).length ≤ 131104 := by
 have h : ∀ l : List UnitP, (∀ u ∈ l, u.ins.length ≤ 4096) → (l.flatMap listU).length ≤ l.length * 4097 := by
  intro l
  induction l with
  | nil => intro _; simp
  | cons u l ih =>
   intro h
   have h1 := h u (List.mem_cons_self ..)
   have h2 := ih (fun y hy => h y (List.mem_cons_of_mem _ hy))
   rw [List.flatMap_cons, List.length_append, listU_len, List.length_cons, Nat.succ_mul]
   omega
 have := h l hi
 omega
theorem listU_take {c : CoV} {i : Nat} (h : i < c.units.length) : ((c.units.map UnV.p).take (i + 1)).flatMap listU = ((c.units.map UnV.p).take i).flatMap listU ++ listU c.units[i].p := by
 rw [← List.take_append_getElem (by rw [List.length_map]; exact h), List.flatMap_append, List.getElem_map]; simp
theorem right_lens {c : CoV} (h : rightC c.p = true) : c.units.length ≤ 32 ∧ ∀ u ∈ c.units, u.ins.length ≤ 4096 ∧ u.name.length ≤ 20 ∧ ∀ x ∈ u.ins, 0 ≤ x.1 ∧ x.1 ≤ 34 := by
 obtain ⟨hf, -⟩ := right_form h
 obtain ⟨hd, -, -, -, hn2, -, hu⟩ := form_parts hf
 obtain ⟨-, -, d3, -, -⟩ := (headC_iff _).1 hd
 have d3 : (c.units.map UnV.p).length ≤ 32 := d3
 rw [List.length_map] at d3
 refine ⟨d3, fun u hu2 => ?_⟩
 have hm : u.p ∈ c.p.units := List.mem_map.2 ⟨u, hu2, rfl⟩
 have h1 := (unitB_head (hu _ hm)).2.2.2.2.2.2.2
 exact ⟨h1, names_len hn2 u.name (List.mem_map.2 ⟨u.p, hm, rfl⟩), fun x hx => fits_op (unitB_fits (hu _ hm) x hx)⟩
set_option maxHeartbeats 16000000 in
theorem cList_spec (c : CoV) (hc : c.ok) : Does Tryz.prog 23 [.agg (coC c).toArray] (coHp c ++ [gWords, gPow, gNames])
  (fun r hp' => if rightC c.p = true then ∃ a' c', r = .tuple #[.slice a' (listC c.p).length c', .int .i64 0] ∧ hp' = [row 9 1 a' (listC c.p).length c' (strsC (listC c.p))] else r = .tuple #[.slice none 0 0, .int .i64 2] ∧ hp' = []) := by
 have hR := right_spec c hc
 obtain ⟨hs1, hs2, hh1, hh2, hu1, hu2, hm0, hm1⟩ := id hc
 have hCo : coC c = [.slice c.sa c.strs.length c.sc, .slice c.ha c.shapes.length c.hc, .slice c.ua c.units.length c.uc, .int .i64 c.main] := rfl
 rw [hCo] at hR ⊢
 unfold coHp at hR ⊢
 refine fn_enter Tryz.func23 rfl 59 rfl fun w0 h0 => ?_
 refine SQ (RG ?_)
 refine RP [] (.d .a) 1 .z .a 26 [.slice c.sa c.strs.length c.sc, .slice c.ha c.shapes.length c.hc, .slice c.ua c.units.length c.uc, .int .i64 c.main] fun g1 => ?_
 refine RR [] .z (.i 3 (.int .i64 0) (.i 2 (.slice none 0 0) .a)) .a ?_
 refine RZ (NT (SQ (SQ (RG ?_))))
 refine RR [8, 8, 8, 8] (.d .a) (.i 10 (.agg #[.slice c.sa c.strs.length c.sc, .slice c.ha c.shapes.length c.hc, .slice c.ua c.units.length c.uc, .int .i64 c.main]) .a) .a ?_
 refine RCG (dst := some 11) .a (hR) (GV (GV (GV (GV (GV (GV (GI []) 5 view_ro) 4 view_self) 3 view_ro) 2 view_self) 1 view_ro) 0 view_ro) ?_
 rintro r _ ⟨rfl, rfl⟩
 cases hb : rightC c.p with
 | false =>
  refine RR [] .z (.i 12 (.bool true) (.d (.d (.k .a)))) .a ?_
  refine RZ (NT (CT (SQ (RG ?_))))
  refine RR [] .z (.i 3 (.int .i64 2) (.d (.d (.k .a)))) .a ?_
  refine RZ (NT (RE (TR ?_)))
  refine NE [] .z .a [] (.tuple #[.slice none 0 0, .int .i64 2]) ?_
  rw [if_neg (by decide)]
  exact ⟨rfl, rfl⟩
 | true =>
 obtain ⟨hl1, hl2⟩ := right_lens hb
 have hlens : ∀ i, (((c.units.map UnV.p).take i).flatMap listU).length ≤ 131104 := fun i => listL_len _ (by rw [List.length_take, List.length_map]; omega) (fun u hu => by
  obtain ⟨y, hy, rfl⟩ := List.mem_map.1 (List.mem_of_mem_take hu)
  exact (hl2 y hy).1)
 refine RR [] .z (.i 12 (.bool false) (.d (.d (.k .a)))) .a ?_
 refine RZ (NT (CF (SK (NT (SQ (RG ?_))))))
 refine RR [] .z (.i 4 (.slice none 0 0) (.d (.k .a))) .a ?_
 refine RZ (NT (SQ (SQ (RG ?_))))
 refine RR [8] .z (.i 16 (.int .i64 0) (.i 15 (.int .i64 (↑c.units.length : Int)) (.i 14 (.slice c.ua c.units.length c.uc) (.k (.k (.k .z)))))) .a ?_
 refine RZ (NT (BK ?_))
 refine wpc_loop (X := {x : Nat × Option Addr × Nat // x.1 ≤ c.units.length}) (fun x => St.mk [(16, .int .i64 (x.1.1 : Int)), (15, .int .i64 c.units.length), (14, .slice c.ua c.units.length c.uc), (4, .slice x.1.2.1 (((c.units.map UnV.p).take x.1.1).flatMap listU).length x.1.2.2), (3, .int .i64 0), (2, .slice none 0 0)]
  [row 9 1 x.1.2.1 (((c.units.map UnV.p).take x.1.1).flatMap listU).length x.1.2.2 (strsC (((c.units.map UnV.p).take x.1.1).flatMap listU)), ro c.ua (c.units.flatMap unC), gUn c.units, gPow, gNames, .blk g1 26 [.slice c.sa c.strs.length c.sc, .slice c.ha c.shapes.length c.hc, .slice c.ua c.units.length c.uc, .int .i64 c.main]]) (fun x => c.units.length - x.1.1) ⟨(0, none, 0), Nat.zero_le _⟩ (Ent.trans (ent_nil 9 1) (Ent.trans (ent_hp [0, 3, 3, 4, 4, 4] rfl) (ent_fr (by kernel_rfl)))) ?_
 rintro ⟨⟨i, a1, c1⟩, hi⟩
 dsimp only at hi ⊢
 by_cases hlt : i < c.units.length
 ·obtain ⟨z1, z2, z3⟩ := hl2 _ (List.getElem_mem hlt)
  obtain ⟨-, -, -, -, -, -, x7, -⟩ := hu2 _ (List.getElem_mem hlt)
  have hlen := hlens i
  have hlen2 := hlens (i + 1)
  have hTk := listU_take hlt
  obtain ⟨O, hO⟩ : ∃ O, O = ((c.units.map UnV.p).take i).flatMap listU := ⟨_, rfl⟩
  rw [← hO] at hlen hTk ⊢
  refine wpc_fact (fun w h => ro_addr h 1 rfl (by rw [uns_len]; omega)) ?_
  rintro ⟨g0, o0, hua⟩
  rw [hua]
  refine SQ (RG ?_)
  refine RR [] .z (.i 17 (.bool (decide ((↑i : Int) < (↑c.units.length : Int)))) .a) .a ?_
  refine RZ (NT (SQ ?_))
  refine SC 17 (decide ((↑i : Int) < (↑c.units.length : Int))) true (decide_eq_true (by omega)) ?_
  refine CT (SK (NT (SQ (BK (SQ (RG ?_))))))
  refine RV true [] (.d .a) (.i 18 (.pointer (some ⟨g0, o0 + i * 7, none⟩)) (.d (.d (.k .a)))) .a [(0 : Int) ≤ (↑i : Int) ∧ (↑i : Int) < (↑c.units.length : Int)] ⟨by omega, trivial⟩ ?_
  refine wpr_eq (ld (t := 59) (a := ⟨g0, o0 + i * 7, none⟩) (dst := some 19) (by kernel_rfl) true 7 (by kernel_rfl) (by simp) (unC c.units[i]) rfl (fun w h => ld_ro h 1 rfl (i * 7) (uns_at hlt))) ?_
  refine RP [] (.d .a) 6 (.i 19 (.agg #[.string (mkS c.units[i].name), .int .i64 c.units[i].params, .int .i64 c.units[i].slots, .int .i64 c.units[i].stack, .bool c.units[i].result, .slice c.units[i].ia c.units[i].ins.length c.units[i].ic, .slice c.units[i].va c.units[i].vars.length c.units[i].vc]) (.d (.d (.k .a)))) .a 59 [.string ⟨#[]⟩, .int .i64 0, .int .i64 0, .int .i64 0, .bool false, .slice none 0 0, .slice none 0 0] fun g2 => ?_
  refine RR [6, 6, 6, 6, 6, 6, 6] .z (.k (.d (.k .a))) (.k (.k (.k (.k (.k (.k (.u (.i (.string (mkS c.units[i].name)) (.i (.int .i64 c.units[i].params) (.i (.int .i64 c.units[i].slots) (.i (.int .i64 c.units[i].stack) (.i (.bool c.units[i].result) (.i (.slice c.units[i].ia c.units[i].ins.length c.units[i].ic) (.i (.slice c.units[i].va c.units[i].vars.length c.units[i].vc) .z))))))) .a))))))) ?_
  refine RZ (NT (SQ (RG ?_)))
  refine wpr_new (l₂ := [5, 6]) true [0, 1, 2, 3, 4] [6] (fun g3 => [(24, .slice (some ⟨g3, 0, none⟩) 1 1), (20, .slice a1 O.length c1), (6, .pointer (some ⟨g2, 0, none⟩)), (16, .int .i64 (↑i : Int)), (15, .int .i64 (↑c.units.length : Int)), (14, .slice (some ⟨g0, o0, none⟩) c.units.length c.uc), (4, .slice a1 O.length c1), (3, .int .i64 0), (2, .slice none 0 0)]) (fun g3 => ([row 9 1 a1 O.length c1 (strsC O), ro (some ⟨g0, o0, none⟩) (List.flatMap unC c.units), gUn c.units, gPow, gNames, .blk g1 26 [.slice c.sa c.strs.length c.sc, .slice c.ha c.shapes.length c.hc, .slice (some ⟨g0, o0, none⟩) c.units.length c.uc, .int .i64 c.main], .blk g2 59 [.string (mkS c.units[i].name), .int .i64 c.units[i].params, .int .i64 c.units[i].slots, .int .i64 c.units[i].stack, .bool c.units[i].result, .slice c.units[i].ia c.units[i].ins.length c.units[i].ic, .slice c.units[i].va c.units[i].vars.length c.units[i].vc], .blk g3 9 [.string (mkS ([102, 110, 32] ++ c.units[i].name))]])) (fun g3 => ([(ByteArray.mk #[(102 : UInt8), (110 : UInt8), (32 : UInt8)]).size + List.length c.units[i].name ≤ (9223372036854775807 : Nat)])) (fun g3 => by kernel_rfl) (fun g3 => by kernel_rfl) (fun g3 => ⟨by simp only [List.length_append, List.length_cons, List.length_nil, show ∀ l : List UInt8, (ByteArray.mk l.toArray).size = l.length from fun _ => rfl]; omega, trivial⟩) fun g3 => ?_
  have hFn : (mkS ([102, 110, 32] ++ c.units[i].name)).size ≤ 23 := by rw [mkS_size, List.length_append]; simp only [List.length_cons, List.length_nil]; omega
  obtain ⟨FN, hFN⟩ : ∃ F, F = [102, 110, 32] ++ c.units[i].name := ⟨_, rfl⟩
  rw [← hFN]
  refine wpr_ent (ent_turn 7 (ro (some ⟨g3, 0, none⟩) [.string (mkS FN)]) rfl (turn_rblk (str1w FN)) rfl) ?_
  refine wpr_app (a := a1) (n := O.length) (cap := c1) (x := (.slice (some ⟨g3, 0, none⟩) 1 1)) (t := 22) (xt := 22) (dst := some 25) (by kernel_rfl) (e := 9) (sz := 1) (bytes := 16) (by kernel_rfl) 0 (xs := (strsC O)) (by kernel_rfl) (m := 1) (news := [.string (mkS FN)]) (fun w h => src_ro h 7 rfl rfl (fun e => by cases e)) (by unfold maxLen; omega) (by omega) ?_
  intro a2 c2 hn2
  rw [strs_app, show O.length + 1 = (O ++ [FN]).length by simp]
  refine RR [] .z (.i 4 (.slice a2 (O ++ [FN]).length c2) (.d (.d (.d (.k (.k (.k (.k (.d (.k .a)))))))))) .a ?_
  refine RZ (NT (SQ (RG ?_)))
  refine RR [6] .z (.i 29 (.int .i64 0) (.i 28 (.int .i64 (↑c.units[i].ins.length : Int)) (.i 27 (.slice c.units[i].ia c.units[i].ins.length c.units[i].ic) (.k (.d (.k .a)))))) .a ?_
  refine RZ (NT (BK ?_))
  refine wpc_ent (ent_copy 2 (ro c.units[i].ia (c.units[i].ins.flatMap insC)) rfl (fun h => h) (view_in (unRo_in1 hlt) view_ro)) ?_
  obtain ⟨LL, hLL⟩ : ∃ f : Nat → List Tx, f = fun m => (O ++ [FN]) ++ (List.range m).map (fun k => lineI k (c.units[i].ins.getD k (0, 0))) := ⟨_, rfl⟩
  have hLl : ∀ m, (LL m).length = O.length + 1 + m := fun m => by rw [hLL]; simp only [List.length_append, List.length_map, List.length_range, List.length_singleton]
  have hL0 : O ++ [FN] = LL 0 := by rw [hLL]; simp
  have hLs : ∀ m, LL (m + 1) = LL m ++ [lineI m (c.units[i].ins.getD m (0, 0))] := fun m => by rw [hLL]; simp only [List.range_succ, List.map_append, List.map_cons, List.map_nil, List.append_assoc]
  rw [hL0]
  refine wpc_loop (X := {x : Nat × Option Addr × Nat // x.1 ≤ c.units[i].ins.length}) (fun x => St.mk [(29, .int .i64 (x.1.1 : Int)), (28, .int .i64 c.units[i].ins.length), (27, .slice c.units[i].ia c.units[i].ins.length c.units[i].ic), (16, .int .i64 (i : Int)), (15, .int .i64 c.units.length), (14, .slice (some ⟨g0, o0, none⟩) c.units.length c.uc), (4, .slice x.1.2.1 (LL x.1.1).length x.1.2.2), (3, .int .i64 0), (2, .slice none 0 0)]
   [row 9 1 x.1.2.1 (LL x.1.1).length x.1.2.2 (strsC (LL x.1.1)), ro c.units[i].ia (c.units[i].ins.flatMap insC), ro (some ⟨g0, o0, none⟩) (c.units.flatMap unC), gUn c.units, gPow, gNames, .blk g1 26 [.slice c.sa c.strs.length c.sc, .slice c.ha c.shapes.length c.hc, .slice (some ⟨g0, o0, none⟩) c.units.length c.uc, .int .i64 c.main]]) (fun x => c.units[i].ins.length - x.1.1) ⟨(0, a2, c2), Nat.zero_le _⟩ (Ent.trans (ent_hp [1, 0, 0, 0, 0, 0, 0] rfl) (ent_fr (by kernel_rfl))) ?_
  rintro ⟨⟨m, a3, c3⟩, hm⟩
  dsimp only at hm ⊢
  have hLm := hLl m
  by_cases hmt : m < c.units[i].ins.length
  ·obtain ⟨⟨y1, y2⟩, y3⟩ := x7 _ (List.getElem_mem hmt)
   obtain ⟨w1, w2⟩ := z3 _ (List.getElem_mem hmt)
   have hgd : c.units[i].ins.getD m (0, 0) = c.units[i].ins[m] := by rw [List.getD_eq_getElem?_getD, List.getElem?_eq_getElem hmt]; rfl
   have hLs2 := hLs m
   rw [hgd] at hLs2
   obtain ⟨⟨op, ag⟩, hop⟩ : ∃ x, x = c.units[i].ins[m] := ⟨_, rfl⟩
   rw [← hop] at y1 y2 y3 w1 w2 hLs2
   dsimp only at y1 y2 y3 w1 w2
   have hop2 : ((c.units[i].ins.flatMap insC).drop (m * 2)).take 2 = insC (op, ag) := by rw [ins_at hmt, hop]
   have hki := itoa_l20 (n := (m : Int)) ⟨by omega, by omega⟩
   have hai := itoa_l20 y3
   have hnl := opName_len op
   obtain ⟨q, rfl⟩ := Int.eq_ofNat_of_zero_le w1
   have hq : q < opNames.length := by rw [opNames_len]; omega
   have hnm : opNames[q] = opName (q : Int) := by rw [opName_in ⟨by omega, by omega⟩, Int.toNat_natCast, List.getD_eq_getElem?_getD, List.getElem?_eq_getElem hq]; rfl
   have hnt : ((strsC opNames).drop (q * 1)).take 1 = [.string (mkS (opName (q : Int)))] := by rw [← hnm]; exact strs_at hq
   obtain ⟨NM, hNM⟩ : ∃ N, N = opName (q : Int) := ⟨_, rfl⟩
   obtain ⟨KI, hKI⟩ : ∃ N, N = Lib.itoa (m : Int) := ⟨_, rfl⟩
   obtain ⟨AI, hAI⟩ : ∃ N, N = Lib.itoa ag := ⟨_, rfl⟩
   rw [← hNM] at hnl hnt
   rw [← hKI] at hki
   rw [← hAI] at hai
   have hcI := Itoa_spec (m : Int) (by omega) (by omega)
   have hcA := Itoa_spec ag y3.1 y3.2
   rw [← hKI] at hcI
   rw [← hAI] at hcA
   refine wpc_fact (fun w h => ro_addr h 1 rfl (by rw [ins_len]; omega)) ?_
   rintro ⟨g5, o5, hia⟩
   rw [hia]
   refine SQ (RG ?_)
   refine RR [] .z (.i 30 (.bool (decide ((↑m : Int) < (↑c.units[i].ins.length : Int)))) .a) .a ?_
   refine RZ (NT (SQ ?_))
   refine SC 30 (decide ((↑m : Int) < (↑c.units[i].ins.length : Int))) true (decide_eq_true (by omega)) ?_
   refine CT (SK (NT (SQ (BK (SQ (RG ?_))))))
   refine RV true [] (.d (.d .a)) (.i 32 (.pointer (some ⟨g5, o5 + m * 2, none⟩)) (.i 31 (.int .i64 (↑m : Int)) (.d (.d (.k .a))))) .a [(0 : Int) ≤ (↑m : Int) ∧ (↑m : Int) < (↑c.units[i].ins.length : Int)] ⟨by omega, trivial⟩ ?_
   refine wpr_eq (ld (t := 62) (a := ⟨g5, o5 + m * 2, none⟩) (dst := some 33) (by kernel_rfl) true 2 (by kernel_rfl) (by simp) (insC ((q : Nat), ag)) rfl (fun w h => ld_ro h 1 rfl (m * 2) hop2)) ?_
   refine RP [] (.d .a) 8 (.i 33 (.agg #[.int .i64 (↑q : Int), .int .i64 ag]) (.d (.d (.k .a)))) .a 62 [.int .i64 0, .int .i64 0] fun g4 => ?_
   refine RR [7, 7] .z (.i 7 (.int .i64 (↑m : Int)) (.k (.d (.d (.k .a))))) (.k (.k (.k (.k (.k (.k (.k (.u (.i (.int .i64 (↑q : Int)) (.i (.int .i64 ag) .z)) .a)))))))) ?_
   refine RZ (NT (SQ ?_))
   refine wpc_draw (by kernel_rfl) [gNames, .blk g4 62 [.int .i64 (↑q : Int), .int .i64 ag]] (sub_of [5, 7] (by kernel_rfl)) 9 (by kernel_rfl) ?_
   refine wpa_take true [(0, []), (3, []), (4, [1]), (5, [])] ([(39, .pointer (some ⟨0, 0 + q * 1, none⟩)), (34, .int .i64 (↑m : Int)), (8, .pointer (some ⟨g4, 0, none⟩)), (29, .int .i64 (↑m : Int)), (28, .int .i64 (↑c.units[i].ins.length : Int)), (27, .slice (some ⟨g5, o5, none⟩) c.units[i].ins.length c.units[i].ic), (16, .int .i64 (↑i : Int)), (15, .int .i64 (↑c.units.length : Int)), (14, .slice (some ⟨g0, o0, none⟩) c.units.length c.uc), (4, .slice a3 (LL m).length c3), (3, .int .i64 0), (2, .slice none 0 0)]) (#[true, false, false, true, true, true, false, false, false]) [(0 : Int) ≤ (↑q : Int) ∧ (↑q : Int) < (↑(35 : Nat) : Int)] (n := 5) (by kernel_rfl) (by kernel_rfl) (by kernel_rfl) ⟨by omega, trivial⟩ ?_
   refine wpa_qld (i := 6) (n := 4) (by kernel_rfl) (by kernel_rfl) (by kernel_rfl) (t := 9) (a := ⟨0, 0 + q * 1, none⟩) (dst := some 40) (by kernel_rfl) false 1 (by kernel_rfl) (by simp) [.string (mkS NM)] rfl (fun w h => ld_roL h 0 rfl (q * 1) hnt) ?_
   refine AC (dst := some 35) 3 1 .a (hcI) (GV (GI []) 4 view_gPow) [5, 7] ?_
   rintro v _ ⟨rfl, rfl⟩
   refine wpa_take true [(2, []), (7, []), (8, [])] ([(9, .string (mkS (KI ++ [32] ++ NM))), (8, .pointer (some ⟨g4, 0, none⟩)), (29, .int .i64 (↑m : Int)), (28, .int .i64 (↑c.units[i].ins.length : Int)), (27, .slice (some ⟨g5, o5, none⟩) c.units[i].ins.length c.units[i].ic), (16, .int .i64 (↑i : Int)), (15, .int .i64 (↑c.units.length : Int)), (14, .slice (some ⟨g0, o0, none⟩) c.units.length c.uc), (4, .slice a3 (LL m).length c3), (3, .int .i64 0), (2, .slice none 0 0)]) (#[true, true, true, true, true, true, true, true, true]) ([KI.length + (ByteArray.mk #[(32 : UInt8)]).size ≤ (9223372036854775807 : Nat), (KI ++ [(32 : UInt8)]).length + List.length NM ≤ (9223372036854775807 : Nat)]) (n := 0) (by kernel_rfl) (by kernel_rfl) (by kernel_rfl) ⟨by simp only [List.length_append, List.length_cons, List.length_nil, show ∀ l : List UInt8, (ByteArray.mk l.toArray).size = l.length from fun _ => rfl]; omega, by simp only [List.length_append, List.length_cons, List.length_nil, show ∀ l : List UInt8, (ByteArray.mk l.toArray).size = l.length from fun _ => rfl]; omega, trivial⟩ ?_
   refine wpa_done 0 (by kernel_rfl) ?_
   refine NT (SQ (SQ (RG ?_)))
   refine RR [7] (.d (.d .a)) (.i 43 (.int .i64 (↑q : Int)) .a) .a ?_
   refine RC (dst := some 44) [] .a (cbare_spec (q : Int)) ?_
   rintro v _ ⟨rfl, rfl⟩
   obtain ⟨LN, hLN⟩ : ∃ N, N = lineI m ((q : Int), ag) := ⟨_, rfl⟩
   have hLt : bareB (q : Int) = true → LN = KI ++ [32] ++ NM := fun h => by rw [hLN, hKI, hNM]; exact lineI_t h
   have hLf : ¬ bareB (q : Int) = true → LN = KI ++ [32] ++ NM ++ ([32] ++ AI) := fun h => by rw [hLN, hKI, hNM, hAI]; exact lineI_f h
   rw [← hLN] at hLs2
   refine RR [] .z (.i 45 (.bool !bareB (↑q : Int)) (.d (.d (.k .a)))) .a ?_
   refine RZ (NT ?_)
   refine wpc_joinx (X := Unit) (fun _ => St.mk [(9, .string (mkS LN)), (29, .int .i64 (m : Int)), (28, .int .i64 c.units[i].ins.length), (27, .slice (some ⟨g5, o5, none⟩) c.units[i].ins.length c.units[i].ic), (16, .int .i64 (i : Int)), (15, .int .i64 c.units.length), (14, .slice (some ⟨g0, o0, none⟩) c.units.length c.uc), (4, .slice a3 (LL m).length c3), (3, .int .i64 0), (2, .slice none 0 0)]
    [row 9 1 a3 (LL m).length c3 (strsC (LL m)), ro (some ⟨g5, o5, none⟩) (c.units[i].ins.flatMap insC), ro (some ⟨g0, o0, none⟩) (c.units.flatMap unC), gUn c.units, gPow, gNames, .blk g1 26 [.slice c.sa c.strs.length c.sc, .slice c.ha c.shapes.length c.hc, .slice (some ⟨g0, o0, none⟩) c.units.length c.uc, .int .i64 c.main]]) (fun Q1 hQ1 hk => ?_) ?_
   ·cases hbr : bareB (q : Int) with
    | true =>
     refine CF (SK ?_)
     refine nx_ent (ent_set 9 (.string (mkS (KI ++ [32] ++ NM))) (.string (mkS LN)) (by kernel_rfl) (by rw [hLt hbr])) ?_
     exact nx_ent (ent_hp [0, 0, 0, 0, 0, 0, 0] rfl) (nx_ent (ent_fr (by kernel_rfl)) (hk ()))
    | false =>
     refine CT (RG ?_)
     refine RR [7] (.d (.d (.d .a))) (.i 48 (.int .i64 ag) (.i 46 (.string (mkS (KI ++ [32] ++ NM))) (.d (.k (.d (.k .a)))))) .a ?_
     refine RCG (dst := some 49) .a (hcA) (GV (GI []) 4 view_gPow) ?_
     rintro v _ ⟨rfl, rfl⟩
     refine RV true [] .z (.i 9 (.string (mkS (KI ++ [32] ++ NM ++ ([32] ++ AI)))) (.d (.d (.d (.d (.k .a)))))) .a ([(ByteArray.mk #[(32 : UInt8)]).size + AI.length ≤ (9223372036854775807 : Nat), (KI ++ [(32 : UInt8)] ++ NM).length + ([(32 : UInt8)] ++ AI).length ≤ (9223372036854775807 : Nat)]) ⟨by simp only [List.length_append, List.length_cons, List.length_nil, show ∀ l : List UInt8, (ByteArray.mk l.toArray).size = l.length from fun _ => rfl]; omega, by simp only [List.length_append, List.length_cons, List.length_nil, show ∀ l : List UInt8, (ByteArray.mk l.toArray).size = l.length from fun _ => rfl]; omega, trivial⟩ ?_
     refine RZ ?_
     refine nx_ent (ent_set 9 (.string (mkS (KI ++ [32] ++ NM ++ ([32] ++ AI)))) (.string (mkS LN)) (by kernel_rfl) (by rw [hLf (by rw [hbr]; decide)])) ?_
     exact nx_ent (ent_hp [0, 0, 0, 0, 0, 0, 0] rfl) (nx_ent (ent_fr (by kernel_rfl)) (hk ()))
   ·rintro ⟨⟩
    dsimp only
    refine NT (RG ?_)
    refine RN [] (.d (.d (.d .a))) 54 (fun g6 => (.slice (some ⟨g6, 0, none⟩) 1 1)) (.i 52 (.slice a3 (LL m).length c3) (.d (.k .a))) .a 9 [.string (mkS LN)] fun g6 => ?_
    refine wpr_ent (ent_turn 7 (ro (some ⟨g6, 0, none⟩) [.string (mkS LN)]) rfl (turn_rblk (str1w LN)) rfl) ?_
    refine wpr_app (a := a3) (n := ((LL m).length)) (cap := c3) (x := (.slice (some ⟨g6, 0, none⟩) 1 1)) (t := 22) (xt := 22) (dst := some 55) (by kernel_rfl) (e := 9) (sz := 1) (bytes := 16) (by kernel_rfl) 0 (xs := (strsC (LL m))) (by kernel_rfl) (m := 1) (news := [.string (mkS LN)]) (fun w h => src_ro h 7 rfl rfl (fun e => by cases e)) (by unfold maxLen; omega) (by omega) ?_
    intro a4 c4 hn4
    rw [strs_app, show (LL m).length + 1 = (LL m ++ [LN]).length by simp, ← hLs2]
    refine RR [] .z (.i 4 (.slice a4 (LL (m + 1)).length c4) (.d (.d (.d (.k (.k (.k (.k (.k (.k (.d (.k .a)))))))))))) .a ?_
    refine RZ (BN (NT (RG ?_)))
    refine RV true [] .z (.i 29 (.int .i64 ((↑m : Int) + 1)) (.k (.d (.k .a)))) .a ([inI64 ((↑m : Int) + (1 : Int))]) ⟨by unfold inI64; omega, trivial⟩ ?_
    refine RZ ?_
    rw [← hia]
    exact fun a' w' hS' => ⟨⟨(m + 1, a4, c4), hmt⟩, by dsimp only; omega, ent_fr (by kernel_rfl) _ _ (ent_hp [0, 0, 0, 0, 0, 0, 0] rfl _ _ hS')⟩
  ·obtain rfl : m = c.units[i].ins.length := by omega
   refine SQ (RG ?_)
   refine RR [] .z (.i 30 (.bool (decide ((↑c.units[i].ins.length : Int) < (↑c.units[i].ins.length : Int)))) .a) .a ?_
   refine RZ (NT (SQ ?_))
   refine SC 30 (decide ((↑c.units[i].ins.length : Int) < (↑c.units[i].ins.length : Int))) false (by simp) ?_
   refine CF (EX (TE (TE (BH (BN (NT (RG ?_)))))))
   refine RV true [] .z (.i 16 (.int .i64 ((↑i : Int) + 1)) (.d (.d (.d (.d (.d (.d (.k .a)))))))) .a ([inI64 ((↑i : Int) + (1 : Int))]) ⟨by unfold inI64; omega, trivial⟩ ?_
   refine RZ ?_
   rw [← hua, show LL c.units[i].ins.length = ((c.units.map UnV.p).take (i + 1)).flatMap listU from by rw [hLL, hTk]; dsimp only; rw [hFN, List.append_assoc]; rfl]
   exact fun a' w' hS' => ⟨⟨(i + 1, a3, c3), hlt⟩, by dsimp only; omega, ent_fr (by kernel_rfl) _ _ (ent_hp [0, 1, 1, 1, 1, 1] rfl _ _ hS')⟩
 ·obtain rfl : i = c.units.length := by omega
  refine SQ (RG ?_)
  refine RR [] .z (.i 17 (.bool (decide ((↑c.units.length : Int) < (↑c.units.length : Int)))) .a) .a ?_
  refine RZ (NT (SQ ?_))
  refine SC 17 (decide ((↑c.units.length : Int) < (↑c.units.length : Int))) false (by simp) ?_
  refine CF (EX (TE (TE (BH (NT (SQ (RG ?_)))))))
  refine RR [] .z (.d (.d (.d (.d (.d (.d (.k (.i 2 (.slice a1 (List.flatMap listU (List.take c.units.length (List.map UnV.p c.units))).length c1) .z)))))))) .a ?_
  refine RZ (NT (RE ?_))
  refine NE [0] (.k .z) (.d (.k .a)) [] (.tuple #[.slice a1 (List.flatMap listU (List.take c.units.length (List.map UnV.p c.units))).length c1, .int .i64 0]) ?_
  rw [if_pos rfl, show (c.units.map UnV.p).take c.units.length = c.units.map UnV.p from List.take_of_length_le (by rw [List.length_map]; exact Nat.le_refl _)]
  exact ⟨a1, c1, rfl, rfl⟩
end Go.Proofs.YtgcfomhlgipllaaGreatDoor
