import Derived.Test.YtpfhleghgkeemaaGreatDoorH44
import Derived.Test.YtpfhleghgkeemaaGreatDoorH46
import Derived.Test.YtpfhleghgkeemaaGreatDoorY2
namespace Go.Proofs.YtpfhleghgkeemaaGreatDoor
open Go Go.Sx
set_option linter.unusedVariables false
set_option linter.unusedSimpArgs false

/-- A call: what is left of the objects. -/
def stepR (M : Int) (L : List O) (t : At) : List O :=
  if t.k = 1 then (setR L t.v t.i t.x).1 else if t.k = 2 then L else if t.k = 3 then L else if t.k = 4 then L else (allocR M L t.tag t.cells).1
/-- Both heaps, the document's read alone. -/
def StepS (g : Nat) (M : Int) (a1 : Option Addr) (c1 : Nat) (l1 : List Ob) (L : List O) (a2 : Option Addr) (c2 : Nat) (l2 : List Ob) (t : At) : Prop :=
    Does Tryz.prog 37 [.pointer (some ⟨g, 0, none⟩), .agg #[.int .i64 M, .slice a2 l2.length c2], .agg (actC t).toArray] [heapB g M (usedO L) a1 l1.length c1, heapR a1 c1 l1, heapS l1, ro a2 (l2.flatMap objC), gBag l2, ro t.a (t.cells.flatMap valC), gWords]
      (fun r hp' => ∃ g' a' c' l', l'.map Ob.o = stepR M L t ∧ ((∃ (a3 : Option Addr) (c3 : Nat) (l3 : List Ob) (o : Ob), l3.map Ob.o = stepR M L t ∧ (∀ p ∈ l3, p = o ∨ p ∈ l2) ∧ r = .tuple #[.pointer (some ⟨g', 0, none⟩), .agg #[.int .i64 M, .slice a3 l3.length c3], .bool true] ∧ hp' = [heapB g' M (usedO (stepR M L t)) a' l'.length c', heapR a' c' l', heapS l', row 43 2 a3 l3.length c3 (l3.flatMap objC), obRow o])
        ∨ (stepR M L t = L ∧ r = .tuple #[.pointer (some ⟨g', 0, none⟩), .agg #[.int .i64 M, .slice a2 l2.length c2], .bool true] ∧ hp' = [heapB g' M (usedO L) a' l'.length c', heapR a' c' l', heapS l'])))
set_option maxHeartbeats 4000000 in
theorem step_set (g : Nat) (M : Int) (hM : 0 ≤ M ∧ M ≤ 4096) (a1 : Option Addr) (c1 : Nat) (l1 : List Ob) (L : List O) (hm1 : l1.map Ob.o = L) (a2 : Option Addr) (c2 : Nat) (l2 : List Ob) (hm2 : l2.map Ob.o = L) (hu : (usedO L : Int) ≤ M) (hok : okHeap L) (hwf : wfL L) (ha2 : a2 = none → l2 = []) (hn2 : ∀ o ∈ l2, o.a = none → o.cells = []) (t : At) (ht : t.ok) (hk1 : t.k = 1) : StepS g M a1 c1 l1 L a2 c2 l2 t := by
  obtain ⟨ht1, ht2, ht3, ht4, ht5, ht6, ht7, ht8, ht9⟩ := ht
  have hll := len_used L
  have hl1 : l1.length = L.length := by rw [← hm1, List.length_map]
  have hl2 : l2.length = L.length := by rw [← hm2, List.length_map]
  have hcl : ∀ o ∈ L, o.2.length ≤ 1048576 := fun o ho => by have := used_cells ho; omega
  unfold StepS heapB heapR heapS actC
  have hst : stepR M L t = (setR L t.v t.i t.x).1 := if_pos hk1
  rw [hst]
  have hS := Set_o g M a1 c1 l1 L hm1 t.v t.i t.x (by omega) ht4 ht5
  have hR := rSet_spec M a2 c2 l2 t.v t.i t.x ha2 (by omega) ht4 ht5 (obs_cl hm2 hcl) hn2
  rw [hm2] at hR
  unfold heapB heapR heapS valV at hS
  unfold valV at hR
  refine fn_enter Tryz.func37 rfl 198 rfl fun w0 h0 => ?_
  refine SQ (RG ?_)
  refine RP [] (.d .a) 4 (.k (.d (.k .a))) .a 51 [.int .i64 M, .slice a2 l2.length c2] fun g1 => ?_
  refine RP [] (.d .a) 5 (.k (.k .z)) .a 67 [.int .i64 t.k, .string (mkS t.tag), .slice t.a t.cells.length t.c, .int .i64 t.v.k, .int .i64 t.v.n, .string (mkS t.v.s), .int .i64 t.x.k, .int .i64 t.x.n, .string (mkS t.x.s), .int .i64 t.i] fun g2 => ?_
  refine RP [] (.d (.d .a)) 7 (.i 6 (.pointer none) .a) .a 51 [.int .i64 0, .slice none 0 0] fun g3 => ?_
  refine RR [] .z (.i 8 (.bool false) .a) .a ?_
  refine RZ (NT (SQ (SQ (RG ?_))))
  refine RR [8] .z (.i 32 (.int .i64 t.k) .a) .a ?_
  refine RZ (NT (BK (SQ (RG ?_))))
  refine RR [] .z (.i 33 (.bool (t.k == (1 : Int))) .a) .a ?_
  refine RZ (NT ?_)
  refine SC 33 (t.k == (1 : Int)) true (by simp only [bne_iff_ne, beq_iff_eq, ne_eq]; omega) ?_
  refine CT (SQ (RG ?_))
  refine RR [7, 7, 8, 8, 8, 8, 8, 8, 8] (.d (.d (.d (.d (.d (.d (.d .a))))))) (.i 42 (.agg #[.int .i64 t.x.k, .int .i64 t.x.n, .string (mkS t.x.s)]) (.i 40 (.int .i64 t.i) (.i 38 (.agg #[.int .i64 t.v.k, .int .i64 t.v.n, .string (mkS t.v.s)]) (.i 36 (.agg #[.int .i64 M, .slice a2 l2.length c2]) (.d (.d (.d (.k .a)))))))) .a ?_
  refine RCG (dst := some 43) .a (hR) (GV (GV (GI []) 4 view_self) 3 view_ro) ?_
  intro r hp' hr
  by_cases h0 : (setR L t.v t.i t.x).2 = 0
  · rw [if_pos h0] at hr
    obtain ⟨a3, c3, o, hm3, rfl, rfl⟩ := hr
    refine RP [] (.d (.d (.d (.d .a)))) 9 (.i 45 (.int .i64 0) (.i 44 (.agg #[.int .i64 M, .slice a3 l2.length c3]) (.d (.d (.d (.d (.d (.k .a)))))))) .a 51 [.int .i64 0, .slice none 0 0] fun g4 => ?_
    refine RR [12, 12] .z (.i 10 (.int .i64 0) (.k (.d (.d (.k .a))))) (.k (.k (.k (.k (.k (.k (.k (.k (.k (.k (.k (.k (.u (.i (.int .i64 M) (.i (.slice a3 l2.length c3) .z)) .a))))))))))))) ?_
    refine RZ (NT (SQ ?_))
    refine wpc_draw (by kernel_rfl) [.blk g2 67 [.int .i64 t.k, .string (mkS t.tag), .slice t.a t.cells.length t.c, .int .i64 t.v.k, .int .i64 t.v.n, .string (mkS t.v.s), .int .i64 t.x.k, .int .i64 t.x.n, .string (mkS t.x.s), .int .i64 t.i], .blk g4 51 [.int .i64 M, .slice a3 l2.length c3]] (sub_of [10, 12] (by kernel_rfl)) 15 (by kernel_rfl) ?_
    refine TK 5 [(0, []), (1, [1, 1]), (2, []), (3, []), (4, [0, 0, 0]), (5, []), (6, [0]), (7, []), (8, [0, 0, 0]), (10, [])] (.i 56 (.int .i64 0) (.i 54 (.agg #[.int .i64 t.x.k, .int .i64 t.x.n, .string (mkS t.x.s)]) (.i 52 (.int .i64 t.i) (.i 50 (.agg #[.int .i64 t.v.k, .int .i64 t.v.n, .string (mkS t.v.s)]) (.i 48 (.pointer (some ⟨g, 0, none⟩)) (.i 47 (.agg #[.int .i64 M, .slice a3 l2.length c3]) (.i 46 (.pointer (some ⟨g, 0, none⟩)) (.d (.d (.k .a)))))))))) (#[true, true, true, true, true, true, true, true, true, false, true, false, false, false, false]) ?_
    refine AC (dst := some 55) 4 9 (.k (.k (.d (.d (.d (.k .a)))))) (hS) (GI [2, 2, 2]) [7, 9] ?_
    rintro r _ ⟨rfl, a', c', l', hm', rfl⟩
    rw [h0]
    refine TK 2 [(11, []), (12, [])] (.i 6 (.pointer (some ⟨g, 0, none⟩)) (.i 57 (.bool true) (.d (.d (.d (.d (.d (.d (.k (.d (.k (.k (.d (.k .a)))))))))))))) (#[true, true, true, true, true, true, true, true, true, true, true, true, true, false, false]) ?_
    refine AO 1 13 [11, 11] (.k (.k (.d (.k .a)))) (.k (.k (.k (.k (.k (.k (.k (.k (.k (.k (.k (.u (.i (.int .i64 M) (.i (.slice a3 l2.length c3) .z)) .a)))))))))))) [10, 12] ?_
    refine TK 0 [(14, [])] (.i 8 (.bool true) (.k (.d (.d (.k .a))))) (#[true, true, true, true, true, true, true, true, true, true, true, true, true, true, true]) ?_
    refine wpa_done 0 (by kernel_rfl) ?_
    refine NT (RE (BR (TR ?_)))
    refine NE [0, 0, 0, 0, 0] (.k (.k (.k (.k (.k .z))))) (.d (.d (.d (.d (.d (.k .a)))))) [11, 11] (.tuple #[.pointer (some ⟨g, 0, none⟩), .agg #[.int .i64 M, .slice a3 l2.length c3], .bool true]) ?_
    refine ⟨g, a', c', l', hm', .inl ⟨a3, c3, l2.set t.v.n.toNat o, o, hm3, fun p hp => ?_, ?_, ?_⟩⟩
    · rcases List.mem_or_eq_of_mem_set hp with h | h
      · exact .inr h
      · exact .inl h
    · rw [List.length_set]
    · rw [List.length_set]
  · rw [if_neg h0] at hr
    obtain ⟨rfl, rfl⟩ := hr
    refine RP [] (.d (.d (.d (.d .a)))) 9 (.i 45 (.int .i64 (setR L t.v t.i t.x).snd) (.i 44 (.agg #[.int .i64 M, .slice a2 l2.length c2]) (.d (.d (.d (.d (.d (.k .a)))))))) .a 51 [.int .i64 0, .slice none 0 0] fun g4 => ?_
    refine RR [10, 10] .z (.i 10 (.int .i64 (setR L t.v t.i t.x).snd) (.k (.d (.d (.k .a))))) (.k (.k (.k (.k (.k (.k (.k (.k (.k (.k (.u (.i (.int .i64 M) (.i (.slice a2 l2.length c2) .z)) .a))))))))))) ?_
    refine RZ (NT (SQ ?_))
    refine wpc_draw (by kernel_rfl) [.blk g2 67 [.int .i64 t.k, .string (mkS t.tag), .slice t.a t.cells.length t.c, .int .i64 t.v.k, .int .i64 t.v.n, .string (mkS t.v.s), .int .i64 t.x.k, .int .i64 t.x.n, .string (mkS t.x.s), .int .i64 t.i], .blk g4 51 [.int .i64 M, .slice a2 l2.length c2]] (sub_of [8, 10] (by kernel_rfl)) 15 (by kernel_rfl) ?_
    refine TK 5 [(0, []), (1, [1, 1]), (2, []), (3, []), (4, [0, 0, 0]), (5, []), (6, [0]), (7, []), (8, [0, 0, 0]), (10, [])] (.i 56 (.int .i64 (setR L t.v t.i t.x).snd) (.i 54 (.agg #[.int .i64 t.x.k, .int .i64 t.x.n, .string (mkS t.x.s)]) (.i 52 (.int .i64 t.i) (.i 50 (.agg #[.int .i64 t.v.k, .int .i64 t.v.n, .string (mkS t.v.s)]) (.i 48 (.pointer (some ⟨g, 0, none⟩)) (.i 47 (.agg #[.int .i64 M, .slice a2 l2.length c2]) (.i 46 (.pointer (some ⟨g, 0, none⟩)) (.d (.d (.k .a)))))))))) (#[true, true, true, true, true, true, true, true, true, false, true, false, false, false, false]) ?_
    refine AC (dst := some 55) 4 9 (.d (.d (.d (.k .a)))) (hS) (GI [0, 0, 0]) [5, 7] ?_
    rintro r _ ⟨rfl, a', c', l', hm', rfl⟩
    have hne := setR_ne h0
    refine TK 2 [(11, []), (12, [])] (.i 6 (.pointer (some ⟨g, 0, none⟩)) (.i 57 (.bool ((setR L t.v t.i t.x).snd == (setR L t.v t.i t.x).snd)) (.d (.d (.d (.d (.d (.d (.k (.d (.k (.k (.d (.k .a)))))))))))))) (#[true, true, true, true, true, true, true, true, true, true, true, true, true, false, false]) ?_
    refine AO 1 13 [9, 9] (.k (.k (.d (.k .a)))) (.k (.k (.k (.k (.k (.k (.k (.k (.k (.u (.i (.int .i64 M) (.i (.slice a2 l2.length c2) .z)) .a)))))))))) [8, 10] ?_
    refine TK 0 [(14, [])] (.i 8 (.bool ((setR L t.v t.i t.x).snd == (setR L t.v t.i t.x).snd)) (.k (.d (.d (.k .a))))) (#[true, true, true, true, true, true, true, true, true, true, true, true, true, true, true]) ?_
    refine wpa_done 0 (by kernel_rfl) ?_
    refine NT (RE (BR (TR ?_)))
    refine NE [0, 0, 0] (.k (.k (.k .z))) (.d (.d (.d (.k .a)))) [9, 9] (.tuple #[.pointer (some ⟨g, 0, none⟩), .agg #[.int .i64 M, .slice a2 l2.length c2], .bool ((setR L t.v t.i t.x).snd == (setR L t.v t.i t.x).snd)]) ?_
    refine ⟨g, a', c', l', hm', .inr ⟨hne, by rw [beq_self_eq_true], by rw [hne]⟩⟩
set_option maxHeartbeats 4000000 in
theorem step_get (g : Nat) (M : Int) (hM : 0 ≤ M ∧ M ≤ 4096) (a1 : Option Addr) (c1 : Nat) (l1 : List Ob) (L : List O) (hm1 : l1.map Ob.o = L) (a2 : Option Addr) (c2 : Nat) (l2 : List Ob) (hm2 : l2.map Ob.o = L) (hu : (usedO L : Int) ≤ M) (hok : okHeap L) (hwf : wfL L) (ha2 : a2 = none → l2 = []) (hn2 : ∀ o ∈ l2, o.a = none → o.cells = []) (t : At) (ht : t.ok) (hk1 : t.k ≠ 1) (hk2 : t.k = 2) : StepS g M a1 c1 l1 L a2 c2 l2 t := by
  obtain ⟨ht1, ht2, ht3, ht4, ht5, ht6, ht7, ht8, ht9⟩ := ht
  have hll := len_used L
  have hl1 : l1.length = L.length := by rw [← hm1, List.length_map]
  have hl2 : l2.length = L.length := by rw [← hm2, List.length_map]
  have hcl : ∀ o ∈ L, o.2.length ≤ 1048576 := fun o ho => by have := used_cells ho; omega
  unfold StepS heapB heapR heapS actC
  have hst : stepR M L t = L := by unfold stepR; rw [if_neg hk1, if_pos hk2]
  rw [hst]
  have hG := Get_o g M a1 c1 l1 L hm1 t.v t.i (by omega) ht4
  have hN := Len_spec g M (usedO L) a1 c1 l1 t.v (by omega) ht4
  have hT := Tag_spec g M (usedO L) a1 c1 l1 t.v (by omega) ht4
  have rG := rGet_spec M a2 c2 l2 t.v t.i (by omega) ht4 (obs_cl hm2 hcl)
  have rN := rLen_spec M a2 c2 l2 t.v (by omega) ht4
  have rT := rTag_spec M a2 c2 l2 t.v (by omega) ht4
  obtain ⟨⟨G, e1⟩, hGR⟩ : ∃ R, R = getR L t.v t.i := ⟨_, rfl⟩
  obtain ⟨⟨n, e2⟩, hNR⟩ : ∃ R, R = lenR L t.v := ⟨_, rfl⟩
  obtain ⟨⟨s, e3⟩, hTR⟩ : ∃ R, R = tagR L t.v := ⟨_, rfl⟩
  rw [hm1] at hN hT
  rw [hm2] at rG rN rT
  rw [← hGR] at hG rG
  rw [← hNR] at hN rN
  rw [← hTR] at hT rT
  dsimp only at hG rG hN rN hT rT
  unfold heapB heapR heapS valV at hG
  unfold Hp3 heapB heapR heapS valV at hN hT
  unfold valV at rG rN rT
  refine fn_enter Tryz.func37 rfl 198 rfl fun w0 h0 => ?_
  refine SQ (RG ?_)
  refine RP [] (.d .a) 4 (.k (.d (.k .a))) .a 51 [.int .i64 M, .slice a2 l2.length c2] fun g1 => ?_
  refine RP [] (.d .a) 5 (.k (.k .z)) .a 67 [.int .i64 t.k, .string (mkS t.tag), .slice t.a t.cells.length t.c, .int .i64 t.v.k, .int .i64 t.v.n, .string (mkS t.v.s), .int .i64 t.x.k, .int .i64 t.x.n, .string (mkS t.x.s), .int .i64 t.i] fun g2 => ?_
  refine RP [] (.d (.d .a)) 7 (.i 6 (.pointer none) .a) .a 51 [.int .i64 0, .slice none 0 0] fun g3 => ?_
  refine RR [] .z (.i 8 (.bool false) .a) .a ?_
  refine RZ (NT (SQ (SQ (RG ?_))))
  refine RR [8] .z (.i 32 (.int .i64 t.k) .a) .a ?_
  refine RZ (NT (BK (SQ (RG ?_))))
  refine RR [] .z (.i 33 (.bool (t.k == (1 : Int))) .a) .a ?_
  refine RZ (NT ?_)
  refine SC 33 (t.k == (1 : Int)) false (by simp only [bne_eq_false_iff_eq, beq_eq_false_iff_ne, ne_eq]; omega) ?_
  refine CF (SQ (RG ?_))
  refine RR [] .z (.i 58 (.bool (t.k == (2 : Int))) (.d (.d (.k .a)))) .a ?_
  refine RZ (NT ?_)
  refine SC 58 (t.k == (2 : Int)) true (by simp only [bne_iff_ne, beq_iff_eq, ne_eq]; omega) ?_
  refine CT (SQ (RG ?_))
  refine RR [7, 7, 8, 8, 8, 8] (.d (.d (.d (.d (.d .a))))) (.i 65 (.int .i64 t.i) (.i 63 (.agg #[.int .i64 t.v.k, .int .i64 t.v.n, .string (mkS t.v.s)]) (.i 61 (.agg #[.int .i64 M, .slice a2 l2.length c2]) (.d (.d (.d (.k .a))))))) .a ?_
  refine RCG (dst := some 66) .a (rG) (GV (GV (GI []) 4 view_self) 3 view_ro) ?_
  rintro r _ ⟨rfl, rfl⟩
  refine RP [] (.d (.d (.d (.d .a)))) 11 (.i 68 (.int .i64 e1) (.i 67 (.agg #[.int .i64 G.k, .int .i64 G.n, .string (mkS G.s)]) (.d (.d (.d (.d (.k .a))))))) .a 28 [.int .i64 0, .int .i64 0, .string ⟨#[]⟩] fun g4 => ?_
  refine RR [10, 10, 10] .z (.i 12 (.int .i64 e1) (.k (.d (.d (.k .a))))) (.k (.k (.k (.k (.k (.k (.k (.k (.k (.k (.u (.i (.int .i64 G.k) (.i (.int .i64 G.n) (.i (.string (mkS G.s)) .z))) .a))))))))))) ?_
  refine RZ (NT (SQ (RG ?_)))
  refine RR [8, 8, 8, 8] (.d (.d (.d (.d (.d .a))))) (.i 74 (.int .i64 t.i) (.i 72 (.agg #[.int .i64 t.v.k, .int .i64 t.v.n, .string (mkS t.v.s)]) (.i 70 (.pointer (some ⟨g, 0, none⟩)) .a))) .a ?_
  refine RC (dst := some 75) [0, 0, 0] (.d (.d (.d (.k .a)))) (hG) ?_
  rintro r _ ⟨rfl, rfl⟩
  refine RP [] (.d (.d (.d (.d .a)))) 13 (.i 77 (.int .i64 e1) (.i 76 (.agg #[.int .i64 G.k, .int .i64 G.n, .string (mkS G.s)]) (.d (.d (.d (.d (.k .a))))))) .a 28 [.int .i64 0, .int .i64 0, .string ⟨#[]⟩] fun g5 => ?_
  refine RR [11, 11, 11] .z (.i 14 (.int .i64 e1) (.k (.d (.d (.k .a))))) (.k (.k (.k (.k (.k (.k (.k (.k (.k (.k (.k (.u (.i (.int .i64 G.k) (.i (.int .i64 G.n) (.i (.string (mkS G.s)) .z))) .a)))))))))))) ?_
  refine RZ (NT (SQ (RG ?_)))
  refine RR [7, 7, 8, 8, 8] (.d (.d (.d .a))) (.i 81 (.agg #[.int .i64 t.v.k, .int .i64 t.v.n, .string (mkS t.v.s)]) (.i 79 (.agg #[.int .i64 M, .slice a2 l2.length c2]) .a)) .a ?_
  refine RCG (dst := some 82) .a (rN) (GV (GI []) 3 view_ro) ?_
  rintro r _ ⟨rfl, rfl⟩
  refine RR [] .z (.i 16 (.int .i64 e2) (.i 15 (.int .i64 n) (.d (.d (.d (.k .a)))))) .a ?_
  refine RZ (NT (SQ (RG ?_)))
  refine RR [8, 8, 8] (.d (.d (.d .a))) (.i 88 (.agg #[.int .i64 t.v.k, .int .i64 t.v.n, .string (mkS t.v.s)]) (.i 86 (.pointer (some ⟨g, 0, none⟩)) .a)) .a ?_
  refine RC (dst := some 89) [0, 0, 0] (.d (.d (.d (.k .a)))) (hN) ?_
  rintro r _ ⟨rfl, rfl⟩
  refine RR [] .z (.i 18 (.int .i64 e2) (.i 17 (.int .i64 n) (.d (.d (.d (.k .a)))))) .a ?_
  refine RZ (NT (SQ (RG ?_)))
  refine RR [7, 7, 8, 8, 8] (.d (.d (.d .a))) (.i 95 (.agg #[.int .i64 t.v.k, .int .i64 t.v.n, .string (mkS t.v.s)]) (.i 93 (.agg #[.int .i64 M, .slice a2 l2.length c2]) .a)) .a ?_
  refine RCG (dst := some 96) .a (rT) (GV (GI []) 3 view_ro) ?_
  rintro r _ ⟨rfl, rfl⟩
  refine RR [] .z (.i 20 (.int .i64 e3) (.i 19 (.string (mkS s)) (.d (.d (.d (.k .a)))))) .a ?_
  refine RZ (NT (SQ (RG ?_)))
  refine RR [8, 8, 8] (.d (.d (.d .a))) (.i 102 (.agg #[.int .i64 t.v.k, .int .i64 t.v.n, .string (mkS t.v.s)]) (.i 100 (.pointer (some ⟨g, 0, none⟩)) .a)) .a ?_
  refine RC (dst := some 103) [0, 0, 0] (.d (.d (.d (.k .a)))) (hT) ?_
  rintro r _ ⟨rfl, rfl⟩
  refine RR [] .z (.i 22 (.int .i64 e3) (.i 21 (.string (mkS s)) (.d (.d (.d (.k .a)))))) .a ?_
  refine RZ (NT (SQ ?_))
  refine wpc_draw (by kernel_rfl) [.blk g1 51 [.int .i64 M, .slice a2 l2.length c2], .blk g4 28 [.int .i64 G.k, .int .i64 G.n, .string (mkS G.s)], .blk g5 28 [.int .i64 G.k, .int .i64 G.n, .string (mkS G.s)]] (sub_of [7, 10, 11] (by kernel_rfl)) 33 (by kernel_rfl) ?_
  refine TK 29 [(0, []), (1, [0, 0]), (2, [1, 1, 1]), (3, [2, 2, 2])] (.i 109 (.agg #[.int .i64 G.k, .int .i64 G.n, .string (mkS G.s)]) (.i 108 (.agg #[.int .i64 G.k, .int .i64 G.n, .string (mkS G.s)]) (.i 107 (.agg #[.int .i64 M, .slice a2 l2.length c2]) (.i 106 (.pointer (some ⟨g, 0, none⟩)) (.k (.k (.k (.k (.k (.k (.k (.k (.k (.d (.k (.d (.k .a))))))))))))))))) (#[true, true, true, true, false, false, false, false, false, false, false, false, false, false, false, false, false, false, false, false, false, false, false, false, false, false, false, false, false, false, false, false, false]) ?_
  refine wpa_eqc_same (i := 4) (n := 28) (by kernel_rfl) (b := true) (t := 28) (xs := (valC G)) (dst := some 110) (by kernel_rfl) (by kernel_rfl) (sub_of [7, 10, 11] (by kernel_rfl)) ?_
  refine TK 22 [(5, []), (6, []), (7, []), (8, []), (9, []), (10, [])] (.i 116 (.bool (e1 == e1)) (.d (.d (.d (.k (.k (.k (.k (.k (.k (.k (.k (.k (.k (.d (.d (.k .a))))))))))))))))) (#[true, true, true, true, true, true, true, true, true, true, true, false, false, false, false, false, false, false, false, false, false, false, false, false, false, false, false, false, false, false, false, false, false]) ?_
  refine SA 116 (e1 == e1) true (by simp) ?_
  refine TK 17 [(11, []), (12, []), (13, []), (14, []), (15, [])] (.i 121 (.bool (n == n)) (.d (.d (.k (.k (.k (.k (.k (.k (.k (.d (.k (.d (.k .a)))))))))))))) (#[true, true, true, true, true, true, true, true, true, true, true, true, true, true, true, true, false, false, false, false, false, false, false, false, false, false, false, false, false, false, false, false, false]) ?_
  refine SA 121 (n == n) true (by simp) ?_
  refine TK 12 [(16, []), (17, []), (18, []), (19, []), (20, [])] (.i 126 (.bool (e2 == e2)) (.d (.d (.k (.k (.k (.k (.k (.k (.d (.d (.k .a)))))))))))) (#[true, true, true, true, true, true, true, true, true, true, true, true, true, true, true, true, true, true, true, true, true, false, false, false, false, false, false, false, false, false, false, false, false]) ?_
  refine SA 126 (e2 == e2) true (by simp) ?_
  refine TK 6 [(21, []), (22, []), (23, []), (24, []), (25, []), (30, [])] (.i 6 (.pointer (some ⟨g, 0, none⟩)) (.i 131 (.bool (decide (s = s))) (.d (.d (.k (.d (.k (.d (.k (.d (.k (.k (.d (.k .a)))))))))))))) (#[true, true, true, true, true, true, true, true, true, true, true, true, true, true, true, true, true, true, true, true, true, true, true, true, true, true, false, false, false, false, true, false, false]) ?_
  refine SA 131 (decide (s = s)) true (by simp) ?_
  refine TK 2 [(26, []), (27, []), (28, []), (29, [])] (.i 135 (.bool (e3 == e3)) (.d (.k (.d (.k (.d (.d (.k .a)))))))) (#[true, true, true, true, true, true, true, true, true, true, true, true, true, true, true, true, true, true, true, true, true, true, true, true, true, true, true, true, true, true, true, false, false]) ?_
  refine AO 1 31 [9, 9] (.k (.k (.d (.k .a)))) (.k (.k (.k (.k (.k (.k (.k (.k (.k (.u (.i (.int .i64 M) (.i (.slice a2 l2.length c2) .z)) .a)))))))))) [7, 10, 11] ?_
  refine TK 0 [(32, [])] (.i 8 (.bool (e3 == e3)) (.d (.k (.d (.k .a))))) (#[true, true, true, true, true, true, true, true, true, true, true, true, true, true, true, true, true, true, true, true, true, true, true, true, true, true, true, true, true, true, true, true, true]) ?_
  refine wpa_done 0 (by kernel_rfl) ?_
  refine NT (RE (BR (TR ?_)))
  refine NE [0, 0, 0] (.k (.k (.k .z))) (.d (.d (.d (.k .a)))) [9, 9] (.tuple #[.pointer (some ⟨g, 0, none⟩), .agg #[.int .i64 M, .slice a2 l2.length c2], .bool (e3 == e3)]) ?_
  refine ⟨g, a1, c1, l1, hm1, .inr ⟨rfl, ?_, rfl⟩⟩
  first | rfl | simp
set_option maxHeartbeats 4000000 in
theorem step_copy (g : Nat) (M : Int) (hM : 0 ≤ M ∧ M ≤ 4096) (a1 : Option Addr) (c1 : Nat) (l1 : List Ob) (L : List O) (hm1 : l1.map Ob.o = L) (a2 : Option Addr) (c2 : Nat) (l2 : List Ob) (hm2 : l2.map Ob.o = L) (hu : (usedO L : Int) ≤ M) (hok : okHeap L) (hwf : wfL L) (ha2 : a2 = none → l2 = []) (hn2 : ∀ o ∈ l2, o.a = none → o.cells = []) (t : At) (ht : t.ok) (hk1 : t.k ≠ 1) (hk2 : t.k ≠ 2) (hk3 : t.k = 3) : StepS g M a1 c1 l1 L a2 c2 l2 t := by
  obtain ⟨ht1, ht2, ht3, ht4, ht5, ht6, ht7, ht8, ht9⟩ := ht
  have hll := len_used L
  have hl1 : l1.length = L.length := by rw [← hm1, List.length_map]
  have hl2 : l2.length = L.length := by rw [← hm2, List.length_map]
  have hcl : ∀ o ∈ L, o.2.length ≤ 1048576 := fun o ho => by have := used_cells ho; omega
  unfold StepS heapB heapR heapS actC
  have hst : stepR M L t = L := by unfold stepR; rw [if_neg hk1, if_neg hk2, if_pos hk3]
  rw [hst]
  have hCp := Copy_o g M a1 c1 l1 L hm1 (by omega) hcl
  unfold heapB heapR heapS at hCp
  refine fn_enter Tryz.func37 rfl 198 rfl fun w0 h0 => ?_
  refine SQ (RG ?_)
  refine RP [] (.d .a) 4 (.k (.d (.k .a))) .a 51 [.int .i64 M, .slice a2 l2.length c2] fun g1 => ?_
  refine RP [] (.d .a) 5 (.k (.k .z)) .a 67 [.int .i64 t.k, .string (mkS t.tag), .slice t.a t.cells.length t.c, .int .i64 t.v.k, .int .i64 t.v.n, .string (mkS t.v.s), .int .i64 t.x.k, .int .i64 t.x.n, .string (mkS t.x.s), .int .i64 t.i] fun g2 => ?_
  refine RP [] (.d (.d .a)) 7 (.i 6 (.pointer none) .a) .a 51 [.int .i64 0, .slice none 0 0] fun g3 => ?_
  refine RR [] .z (.i 8 (.bool false) .a) .a ?_
  refine RZ (NT (SQ (SQ (RG ?_))))
  refine RR [8] .z (.i 32 (.int .i64 t.k) .a) .a ?_
  refine RZ (NT (BK (SQ (RG ?_))))
  refine RR [] .z (.i 33 (.bool (t.k == (1 : Int))) .a) .a ?_
  refine RZ (NT ?_)
  refine SC 33 (t.k == (1 : Int)) false (by simp only [bne_eq_false_iff_eq, beq_eq_false_iff_ne, ne_eq]; omega) ?_
  refine CF (SQ (RG ?_))
  refine RR [] .z (.i 58 (.bool (t.k == (2 : Int))) (.d (.d (.k .a)))) .a ?_
  refine RZ (NT ?_)
  refine SC 58 (t.k == (2 : Int)) false (by simp only [bne_eq_false_iff_eq, beq_eq_false_iff_ne, ne_eq]; omega) ?_
  refine CF (SQ (RG ?_))
  refine RR [] .z (.i 136 (.bool (t.k == (3 : Int))) (.d (.d (.k .a)))) .a ?_
  refine RZ (NT ?_)
  refine SC 136 (t.k == (3 : Int)) true (by simp only [bne_iff_ne, beq_iff_eq, ne_eq]; omega) ?_
  refine CT (SQ (RG ?_))
  refine RR [] (.d .a) (.i 138 (.pointer (some ⟨g, 0, none⟩)) (.d (.d (.d (.k .a))))) .a ?_
  refine RCG (dst := some 139) .a (hCp) (GV (GV (GV (GI []) 2 view_gBag) 1 view_row) 0 (view_blk0 (by simp [Go.Sx.One, Value.oneCell']))) ?_
  rintro r _ ⟨gc, ac, cc, lc, hmc, rfl, rfl⟩
  refine RR [] .z (.i 23 (.pointer (some ⟨gc, 0, none⟩)) (.d (.d (.k .a)))) .a ?_
  refine RZ (NT (SQ (RG ?_)))
  refine RR [] (.d .a) (.i 140 (.pointer (some ⟨g, 0, none⟩)) .a) .a ?_
  refine wpr_ent (ent_ro (hp := []) (c' := ro none ([] : List Value)) (fun w h => ⟨fun u hu => (by cases hu), rfl⟩) (fun w h k hk => absurd rfl hk.2) (fun h => h)) ?_
  have hal := Alloc_o g M a1 c1 l1 L hm1 [] [] none 0 hM hu (fun _ => rfl) (Nat.le_refl _) (by decide) (by decide) (fun u hu => by cases hu)
  unfold heapB heapR heapS valV at hal
  refine RCG (dst := some 141) (.k (.k (.k (.k (.d (.d (.d (.k .a)))))))) (hal) (GO (GV (GV (GJ [4, 4, 4]) 7 view_ro) 0 view_ro) [2, 2, 2, 0, 0]) ?_
  rintro r _ ⟨a5, c5, l5, hm5, rfl, rfl⟩
  obtain ⟨L5, hL5⟩ : ∃ L5, L5 = (allocR M L [] []).1 := ⟨_, rfl⟩
  have hu5 : (usedO L5 : Int) ≤ M := by rw [hL5]; exact allocR_used hu
  have hll5 := len_used L5
  rw [← hL5] at hm5 ⊢
  refine RZ (NT (SQ (RG ?_)))
  refine RR [] (.d .a) (.i 142 (.pointer (some ⟨g, 0, none⟩)) (.d (.d (.k .a)))) .a ?_
  refine RC (dst := some 143) [] .a (at_spec 0) ?_
  rintro r _ ⟨rfl, rfl⟩
  refine RC (dst := some 144) [] .a (number_spec 99) ?_
  rintro r _ ⟨rfl, rfl⟩
  have hst5 := Set_o g M a5 c5 l5 L5 hm5 (atV 0) 0 (numV 99) (by omega) (Nat.zero_le _) (Nat.zero_le _)
  obtain ⟨⟨L6, e6⟩, hL6⟩ : ∃ R, R = setR L5 (atV 0) 0 (numV 99) := ⟨_, rfl⟩
  rw [← hL6] at hst5
  unfold heapB heapR heapS valV atV numV at hst5
  dsimp only at hst5
  refine RC (dst := some 145) [0, 0, 0] (.d (.d (.d (.k .a)))) (hst5) ?_
  rintro r _ ⟨rfl, a6, c6, l6, hm6, rfl⟩
  refine RZ (NT (SQ ?_))
  refine wpc_draw (by kernel_rfl) [.blk g 59 [.bool true, .int .i64 M, .int .i64 (↑(usedO L6) : Int), .slice a6 l6.length c6], row 43 2 a6 l6.length c6 (List.flatMap objC l6), star (List.map obRow l6), ro none [], .blk gc 59 [.bool true, .int .i64 M, .int .i64 (↑(usedO L) : Int), .slice ac lc.length cc], row 43 2 ac lc.length cc (List.flatMap objC lc), star (List.map obRow lc), ro a2 (List.flatMap objC l2), gBag l2, ro t.a (List.flatMap valC t.cells), gWords, .blk g1 51 [.int .i64 M, .slice a2 l2.length c2], .blk g2 67 [.int .i64 t.k, .string (mkS t.tag), .slice t.a t.cells.length t.c, .int .i64 t.v.k, .int .i64 t.v.n, .string (mkS t.v.s), .int .i64 t.x.k, .int .i64 t.x.n, .string (mkS t.x.s), .int .i64 t.i]] (sub_of [0, 1, 2, 3, 4, 5, 6, 7, 8, 9, 10, 11, 12] (by kernel_rfl)) 7 (by kernel_rfl) ?_
  refine TK 2 [(0, []), (1, [11, 11]), (2, []), (3, []), (4, [])] (.i 6 (.pointer (some ⟨gc, 0, none⟩)) (.i 149 (.bool true) (.i 147 (.agg #[.int .i64 M, .slice a2 l2.length c2]) (.d (.d (.d (.d (.d (.k (.k (.d (.k .a)))))))))))) (#[true, true, true, true, true, false, false]) ?_
  refine AO 1 5 [13, 13] (.k (.k (.d (.k .a)))) (.k (.k (.k (.k (.k (.k (.k (.k (.k (.k (.k (.k (.k (.u (.i (.int .i64 M) (.i (.slice a2 l2.length c2) .z)) .a)))))))))))))) [0, 1, 2, 3, 4, 5, 6, 7, 8, 9, 10, 11, 12] ?_
  refine TK 0 [(6, [])] (.i 8 (.bool true) (.k (.d (.d (.k .a))))) (#[true, true, true, true, true, true, true]) ?_
  refine wpa_done 0 (by kernel_rfl) ?_
  refine NT (RE (BR (TR ?_)))
  refine NE [4, 4, 4] (.d (.d (.d (.d (.k (.k (.k .z))))))) (.k (.k (.k (.k (.d (.d (.d (.k .a)))))))) [13, 13] (.tuple #[.pointer (some ⟨gc, 0, none⟩), .agg #[.int .i64 M, .slice a2 l2.length c2], .bool true]) ?_
  exact ⟨gc, ac, cc, lc, hmc, .inr ⟨rfl, rfl, rfl⟩⟩
set_option maxHeartbeats 4000000 in
theorem step_load (g : Nat) (M : Int) (hM : 0 ≤ M ∧ M ≤ 4096) (a1 : Option Addr) (c1 : Nat) (l1 : List Ob) (L : List O) (hm1 : l1.map Ob.o = L) (a2 : Option Addr) (c2 : Nat) (l2 : List Ob) (hm2 : l2.map Ob.o = L) (hu : (usedO L : Int) ≤ M) (hok : okHeap L) (hwf : wfL L) (ha2 : a2 = none → l2 = []) (hn2 : ∀ o ∈ l2, o.a = none → o.cells = []) (t : At) (ht : t.ok) (hk1 : t.k ≠ 1) (hk2 : t.k ≠ 2) (hk3 : t.k ≠ 3) (hk4 : t.k = 4) : StepS g M a1 c1 l1 L a2 c2 l2 t := by
  obtain ⟨ht1, ht2, ht3, ht4, ht5, ht6, ht7, ht8, ht9⟩ := ht
  have hll := len_used L
  have hl1 : l1.length = L.length := by rw [← hm1, List.length_map]
  have hl2 : l2.length = L.length := by rw [← hm2, List.length_map]
  have hcl : ∀ o ∈ L, o.2.length ≤ 1048576 := fun o ho => by have := used_cells ho; omega
  unfold StepS heapB heapR heapS actC
  have hst : stepR M L t = L := by unfold stepR; rw [if_neg hk1, if_neg hk2, if_neg hk3, if_pos hk4]
  rw [hst]
  have hA := All_o g M (usedO L) a1 c1 l1 L hm1 (by omega) hcl
  unfold heapR heapS at hA
  refine fn_enter Tryz.func37 rfl 198 rfl fun w0 h0 => ?_
  refine SQ (RG ?_)
  refine RP [] (.d .a) 4 (.k (.d (.k .a))) .a 51 [.int .i64 M, .slice a2 l2.length c2] fun g1 => ?_
  refine RP [] (.d .a) 5 (.k (.k .z)) .a 67 [.int .i64 t.k, .string (mkS t.tag), .slice t.a t.cells.length t.c, .int .i64 t.v.k, .int .i64 t.v.n, .string (mkS t.v.s), .int .i64 t.x.k, .int .i64 t.x.n, .string (mkS t.x.s), .int .i64 t.i] fun g2 => ?_
  refine RP [] (.d (.d .a)) 7 (.i 6 (.pointer none) .a) .a 51 [.int .i64 0, .slice none 0 0] fun g3 => ?_
  refine RR [] .z (.i 8 (.bool false) .a) .a ?_
  refine RZ (NT (SQ (SQ (RG ?_))))
  refine RR [8] .z (.i 32 (.int .i64 t.k) .a) .a ?_
  refine RZ (NT (BK (SQ (RG ?_))))
  refine RR [] .z (.i 33 (.bool (t.k == (1 : Int))) .a) .a ?_
  refine RZ (NT ?_)
  refine SC 33 (t.k == (1 : Int)) false (by simp only [bne_eq_false_iff_eq, beq_eq_false_iff_ne, ne_eq]; omega) ?_
  refine CF (SQ (RG ?_))
  refine RR [] .z (.i 58 (.bool (t.k == (2 : Int))) (.d (.d (.k .a)))) .a ?_
  refine RZ (NT ?_)
  refine SC 58 (t.k == (2 : Int)) false (by simp only [bne_eq_false_iff_eq, beq_eq_false_iff_ne, ne_eq]; omega) ?_
  refine CF (SQ (RG ?_))
  refine RR [] .z (.i 136 (.bool (t.k == (3 : Int))) (.d (.d (.k .a)))) .a ?_
  refine RZ (NT ?_)
  refine SC 136 (t.k == (3 : Int)) false (by simp only [bne_eq_false_iff_eq, beq_eq_false_iff_ne, ne_eq]; omega) ?_
  refine CF (SQ (RG ?_))
  refine RR [] .z (.i 150 (.bool (t.k == (4 : Int))) (.d (.d (.d (.k .a))))) .a ?_
  refine RZ (NT ?_)
  refine SC 150 (t.k == (4 : Int)) true (by simp only [bne_iff_ne, beq_iff_eq, ne_eq]; omega) ?_
  refine CT (SQ ?_)
  refine wpc_draw (by kernel_rfl) [.blk g1 51 [.int .i64 M, .slice a2 l2.length c2]] (sub_of [7] (by kernel_rfl)) 10 (by kernel_rfl) ?_
  refine TK 7 [(0, []), (1, [0]), (2, [])] (.i 155 (.pointer (some ⟨g, 0, none⟩)) (.i 154 (.int .i64 M) (.d (.d (.k .a))))) (#[true, true, true, false, false, false, false, false, false, false]) ?_
  refine AC (dst := some 156) 6 3 .a (hA) (GV (GV (GV (GI []) 2 view_gBag) 1 view_row) 0 (view_blk0 (by simp [Go.Sx.One, Value.oneCell']))) [7] ?_
  rintro r _ ⟨a3, c3, l3, hm3, rfl, rfl⟩
  refine wpa_fact (fun w h => star_caps h 1 rfl) fun hcp3 => ?_
  have hLd := Load_own M hM.1 hM.2 a3 c3 l3 L hm3 hu hwf (sm_of hm3 hok hcp3)
  unfold heapB heapR heapS at hLd
  refine AC (dst := some 157) 5 4 .a (hLd) (GV (GV (GV (GI []) 8 view_ro) 1 view_gBag) 0 view_row) [9] ?_
  rintro r _ ⟨gc, ac, cc, lc, hmc, rfl, rfl⟩
  refine TK 0 [(5, []), (6, []), (7, []), (8, []), (9, [])] (.i 25 (.int .i64 0) (.i 24 (.pointer (some ⟨gc, 0, none⟩)) (.d (.d (.d (.d (.k .a))))))) (#[true, true, true, true, true, true, true, true, true, true]) ?_
  refine wpa_done 0 (by kernel_rfl) ?_
  refine NT (SQ ?_)
  refine wpc_draw (by kernel_rfl) [.blk gc 59 [.bool true, .int .i64 M, .int .i64 (↑(usedO L) : Int), .slice ac lc.length cc], row 43 2 ac lc.length cc (List.flatMap objC lc), star (List.map obRow lc), row 43 2 a3 l3.length c3 (List.flatMap objC l3), star (List.map obRow l3), .blk g 59 [.bool true, .int .i64 M, .int .i64 (↑(usedO L) : Int), .slice a1 l1.length c1], row 43 2 a1 l1.length c1 (List.flatMap objC l1), star (List.map obRow l1), ro a2 (List.flatMap objC l2), gBag l2, ro t.a (List.flatMap valC t.cells), gWords, .blk g1 51 [.int .i64 M, .slice a2 l2.length c2], .blk g2 67 [.int .i64 t.k, .string (mkS t.tag), .slice t.a t.cells.length t.c, .int .i64 t.v.k, .int .i64 t.v.n, .string (mkS t.v.s), .int .i64 t.x.k, .int .i64 t.x.n, .string (mkS t.x.s), .int .i64 t.i]] (sub_of [0, 1, 2, 3, 4, 5, 6, 7, 8, 9, 10, 11, 12, 13] (by kernel_rfl)) 11 (by kernel_rfl) ?_
  refine TK 2 [(0, []), (1, [12, 12]), (2, []), (3, []), (4, []), (5, []), (6, []), (7, []), (8, [])] (.i 6 (.pointer (some ⟨gc, 0, none⟩)) (.i 167 (.bool true) (.i 161 (.agg #[.int .i64 M, .slice a2 l2.length c2]) (.d (.d (.k (.k (.d (.k .a))))))))) (#[true, true, true, true, true, true, true, true, true, false, false]) ?_
  refine AO 1 9 [14, 14] (.k (.k (.d (.k .a)))) (.k (.k (.k (.k (.k (.k (.k (.k (.k (.k (.k (.k (.k (.k (.u (.i (.int .i64 M) (.i (.slice a2 l2.length c2) .z)) .a))))))))))))))) [0, 1, 2, 3, 4, 5, 6, 7, 8, 9, 10, 11, 12, 13] ?_
  refine TK 0 [(10, [])] (.i 8 (.bool true) (.k (.d (.d (.k .a))))) (#[true, true, true, true, true, true, true, true, true, true, true]) ?_
  refine wpa_done 0 (by kernel_rfl) ?_
  refine NT (RE (BR (TR ?_)))
  refine NE [0, 0, 0] (.k (.k (.k .z))) (.d (.d (.d (.k .a)))) [14, 14] (.tuple #[.pointer (some ⟨gc, 0, none⟩), .agg #[.int .i64 M, .slice a2 l2.length c2], .bool true]) ?_
  exact ⟨gc, ac, cc, lc, hmc, .inr ⟨rfl, rfl, rfl⟩⟩
theorem allocR_cases (M : Int) (L : List O) (tag : List UInt8) (cells : List V) : if (allocR M L tag cells).2.2 = 0 then (allocR M L tag cells).1 = L ++ [(tag, cells)] ∧ (allocR M L tag cells).2.1 = atV L.length else (allocR M L tag cells).1 = L ∧ (allocR M L tag cells).2.1 = noV := by
  unfold allocR
  split
  · split
    · rw [if_pos rfl]; exact ⟨rfl, rfl⟩
    · rw [if_neg (fun e => by cases e)]; exact ⟨rfl, rfl⟩
  · rw [if_neg (fun e => by cases e)]; exact ⟨rfl, rfl⟩
set_option maxHeartbeats 4000000 in
theorem step_make (g : Nat) (M : Int) (hM : 0 ≤ M ∧ M ≤ 4096) (a1 : Option Addr) (c1 : Nat) (l1 : List Ob) (L : List O) (hm1 : l1.map Ob.o = L) (a2 : Option Addr) (c2 : Nat) (l2 : List Ob) (hm2 : l2.map Ob.o = L) (hu : (usedO L : Int) ≤ M) (hok : okHeap L) (hwf : wfL L) (ha2 : a2 = none → l2 = []) (hn2 : ∀ o ∈ l2, o.a = none → o.cells = []) (t : At) (ht : t.ok) (hk1 : t.k ≠ 1) (hk2 : t.k ≠ 2) (hk3 : t.k ≠ 3) (hk4 : t.k ≠ 4) : StepS g M a1 c1 l1 L a2 c2 l2 t := by
  obtain ⟨ht1, ht2, ht3, ht4, ht5, ht6, ht7, ht8, ht9⟩ := ht
  have hll := len_used L
  have hl1 : l1.length = L.length := by rw [← hm1, List.length_map]
  have hl2 : l2.length = L.length := by rw [← hm2, List.length_map]
  have hcl : ∀ o ∈ L, o.2.length ≤ 1048576 := fun o ho => by have := used_cells ho; omega
  unfold StepS heapB heapR heapS actC
  have hst : stepR M L t = (allocR M L t.tag t.cells).1 := by unfold stepR; rw [if_neg hk1, if_neg hk2, if_neg hk3, if_neg hk4]
  rw [hst]
  have hR := rAlloc_spec M a2 c2 l2 t.tag t.a t.c t.cells hM (by rw [hm2]; exact hu) ha2 ht6 ht2 ht1 ht3
  rw [hm2] at hR
  have hal0 := fun a4 c4 hn4 hc4 => Alloc_o g M a1 c1 l1 L hm1 t.tag t.cells a4 c4 hM hu hn4 hc4 ht2 ht1 ht3
  have hcs := allocR_cases M L t.tag t.cells
  obtain ⟨⟨L', v', e'⟩, hRR⟩ : ∃ R, R = allocR M L t.tag t.cells := ⟨_, rfl⟩
  rw [← hRR] at hR hcs ⊢
  simp only [← hRR] at hal0
  unfold heapB heapR heapS valV at hal0
  dsimp only at hR hcs hal0 ⊢
  refine fn_enter Tryz.func37 rfl 198 rfl fun w0 h0 => ?_
  refine SQ (RG ?_)
  refine RP [] (.d .a) 4 (.k (.d (.k .a))) .a 51 [.int .i64 M, .slice a2 l2.length c2] fun g1 => ?_
  refine RP [] (.d .a) 5 (.k (.k .z)) .a 67 [.int .i64 t.k, .string (mkS t.tag), .slice t.a t.cells.length t.c, .int .i64 t.v.k, .int .i64 t.v.n, .string (mkS t.v.s), .int .i64 t.x.k, .int .i64 t.x.n, .string (mkS t.x.s), .int .i64 t.i] fun g2 => ?_
  refine RP [] (.d (.d .a)) 7 (.i 6 (.pointer none) .a) .a 51 [.int .i64 0, .slice none 0 0] fun g3 => ?_
  refine RR [] .z (.i 8 (.bool false) .a) .a ?_
  refine RZ (NT (SQ (SQ (RG ?_))))
  refine RR [8] .z (.i 32 (.int .i64 t.k) .a) .a ?_
  refine RZ (NT (BK (SQ (RG ?_))))
  refine RR [] .z (.i 33 (.bool (t.k == (1 : Int))) .a) .a ?_
  refine RZ (NT ?_)
  refine SC 33 (t.k == (1 : Int)) false (by simp only [bne_eq_false_iff_eq, beq_eq_false_iff_ne, ne_eq]; omega) ?_
  refine CF (SQ (RG ?_))
  refine RR [] .z (.i 58 (.bool (t.k == (2 : Int))) (.d (.d (.k .a)))) .a ?_
  refine RZ (NT ?_)
  refine SC 58 (t.k == (2 : Int)) false (by simp only [bne_eq_false_iff_eq, beq_eq_false_iff_ne, ne_eq]; omega) ?_
  refine CF (SQ (RG ?_))
  refine RR [] .z (.i 136 (.bool (t.k == (3 : Int))) (.d (.d (.k .a)))) .a ?_
  refine RZ (NT ?_)
  refine SC 136 (t.k == (3 : Int)) false (by simp only [bne_eq_false_iff_eq, beq_eq_false_iff_ne, ne_eq]; omega) ?_
  refine CF (SQ (RG ?_))
  refine RR [] .z (.i 150 (.bool (t.k == (4 : Int))) (.d (.d (.d (.k .a))))) .a ?_
  refine RZ (NT ?_)
  refine SC 150 (t.k == (4 : Int)) false (by simp only [bne_eq_false_iff_eq, beq_eq_false_iff_ne, ne_eq]; omega) ?_
  refine CF (SK (BN (NT (SQ (RG ?_)))))
  refine RR [7, 7, 8, 8] (.d (.d (.d (.d (.d .a))))) (.i 173 (.slice t.a t.cells.length t.c) (.i 171 (.string (mkS t.tag)) (.i 169 (.agg #[.int .i64 M, .slice a2 l2.length c2]) (.d (.d (.k (.k (.k (.k (.d (.k .a))))))))))) .a ?_
  refine RCG (dst := some 174) .a (hR) (GV (GV (GI []) 5 view_ro) 3 view_ro) ?_
  intro r hp' hr
  by_cases h0 : e' = 0
  · rw [if_pos h0] at hr
    obtain ⟨a3, c3, o, ho1, ho2, rfl, rfl⟩ := hr
    rw [if_pos h0, ← hl2] at hcs
    obtain ⟨hL', rfl⟩ := hcs
    subst h0
    unfold atV at hal0
    dsimp only at hal0
    refine RP [] (.d (.d (.d (.d (.d .a))))) 26 (.i 177 (.int .i64 0) (.i 176 (.agg #[.int .i64 4, .int .i64 (↑l2.length : Int), .string (mkS [])]) (.i 175 (.agg #[.int .i64 M, .slice a3 (l2.length + 1) c3]) (.d (.d (.d (.d (.k .a)))))))) .a 51 [.int .i64 0, .slice none 0 0] fun g4 => ?_
    refine RP [] (.d .a) 27 .a .a 28 [.int .i64 0, .int .i64 0, .string ⟨#[]⟩] fun g5 => ?_
    refine RR [12, 12, 13, 13, 13] .z (.i 28 (.int .i64 0) (.k (.k (.d (.d (.d (.k .a))))))) (.k (.k (.k (.k (.k (.k (.k (.k (.k (.k (.k (.k (.u (.i (.int .i64 M) (.i (.slice a3 (l2.length + 1) c3) .z)) (.u (.i (.int .i64 4) (.i (.int .i64 (↑l2.length : Int)) (.i (.string (mkS [])) .z))) .a)))))))))))))) ?_
    refine RZ (NT (SQ ?_))
    refine wpc_draw (by kernel_rfl) [.blk g2 67 [.int .i64 t.k, .string (mkS t.tag), .slice t.a t.cells.length t.c, .int .i64 t.v.k, .int .i64 t.v.n, .string (mkS t.v.s), .int .i64 t.x.k, .int .i64 t.x.n, .string (mkS t.x.s), .int .i64 t.i]] (sub_of [10] (by kernel_rfl)) 13 (by kernel_rfl) ?_
    refine TK 8 [(0, []), (1, []), (2, [0]), (3, []), (4, [0])] (.i 183 (.slice t.a t.cells.length t.c) (.i 181 (.string (mkS t.tag)) (.i 179 (.pointer (some ⟨g, 0, none⟩)) (.k (.k (.k (.k (.k (.k (.d (.k .a))))))))))) (#[true, true, true, true, true, false, false, false, false, false, false, false, false]) ?_
    refine wpa_joinx (X := {y : Nat × Option Addr × Nat × List Ob // y.2.2.2.map Ob.o = L'}) (fun y => St.mk [(30, .int .i64 0), (29, .pointer (some ⟨y.1.1, 0, none⟩)), (28, .int .i64 0), (27, .pointer (some ⟨g5, 0, none⟩)), (26, .pointer (some ⟨g4, 0, none⟩)), (8, .bool false), (7, .pointer (some ⟨g3, 0, none⟩)), (6, .pointer none), (0, .pointer (some ⟨g, 0, none⟩))]
      [.blk g 59 [.bool true, .int .i64 M, .int .i64 (usedO L' : Nat), .slice y.1.2.1 y.1.2.2.2.length y.1.2.2.1], row 43 2 y.1.2.1 y.1.2.2.2.length y.1.2.2.1 (y.1.2.2.2.flatMap objC), star (y.1.2.2.2.map obRow), row 43 2 a3 (l2.length + 1) c3 ((l2 ++ [o]).flatMap objC), obRow o, .blk g3 51 [.int .i64 0, .slice none 0 0], .blk g4 51 [.int .i64 M, .slice a3 (l2.length + 1) c3], .blk g5 28 [.int .i64 4, .int .i64 (l2.length : Nat), .string (mkS [])], .blk y.1.1 28 [.int .i64 4, .int .i64 (l2.length : Nat), .string (mkS [])]]) (fun Q1 hQ1 hk => ?_) ?_
    · refine wpa_two (i := 5) (j := 10) (n := 7) (by kernel_rfl) ?_ ?_
      · refine wpi_call (i := 5) (dst := some 184) (rest := ([row 43 2 a3 (l2.length + 1) c3 (List.flatMap objC (l2 ++ [o])), obRow o, .blk g 59 [.bool true, .int .i64 M, .int .i64 (↑(usedO L) : Int), .slice a1 l1.length c1], row 43 2 a1 l1.length c1 (List.flatMap objC l1), star (List.map obRow l1), ro a2 (List.flatMap objC l2), gBag l2, ro t.a (List.flatMap valC t.cells), gWords, .blk g1 51 [.int .i64 M, .slice a2 l2.length c2], .blk g2 67 [.int .i64 t.k, .string (mkS t.tag), .slice t.a t.cells.length t.c, .int .i64 t.v.k, .int .i64 t.v.n, .string (mkS t.v.s), .int .i64 t.x.k, .int .i64 t.x.n, .string (mkS t.x.s), .int .i64 t.i], .blk g3 51 [.int .i64 0, .slice none 0 0], .blk g4 51 [.int .i64 M, .slice a3 (l2.length + 1) c3], .blk g5 28 [.int .i64 4, .int .i64 (↑l2.length : Int), .string (mkS [])]])) (by kernel_rfl) (own_spec t.a t.c t.cells ht6 ht2) (Give.view (c := (ro t.a (List.flatMap valC t.cells))) (give (pre := []) (rest := ([row 43 2 a3 (l2.length + 1) c3 (List.flatMap objC (l2 ++ [o])), obRow o, .blk g 59 [.bool true, .int .i64 M, .int .i64 (↑(usedO L) : Int), .slice a1 l1.length c1], row 43 2 a1 l1.length c1 (List.flatMap objC l1), star (List.map obRow l1), ro a2 (List.flatMap objC l2), gBag l2, ro t.a (List.flatMap valC t.cells), gWords, .blk g1 51 [.int .i64 M, .slice a2 l2.length c2], .blk g2 67 [.int .i64 t.k, .string (mkS t.tag), .slice t.a t.cells.length t.c, .int .i64 t.v.k, .int .i64 t.v.n, .string (mkS t.v.s), .int .i64 t.x.k, .int .i64 t.x.n, .string (mkS t.x.s), .int .i64 t.i], .blk g3 51 [.int .i64 0, .slice none 0 0], .blk g4 51 [.int .i64 M, .slice a3 (l2.length + 1) c3], .blk g5 28 [.int .i64 4, .int .i64 (↑l2.length : Int), .string (mkS [])]])) [] (by kernel_rfl)) 7 (by kernel_rfl) view_ro) (sub_of [10] (by kernel_rfl)) ?_
        rintro r _ ⟨a4, c4, hn4, hc4, rfl, rfl⟩
        refine wpa_ent (ent_turn 0 (ro a4 (t.cells.flatMap valC)) rfl (turn_view view_row) rfl) ?_
        have hal := hal0 a4 c4 hn4 hc4
        refine wpa_two (i := 6) (j := 10) (n := 6) (by kernel_rfl) ?_ ?_
        · refine wpi_call (i := 6) (dst := some 185) (rest := ([ro a4 (List.flatMap valC t.cells), row 43 2 a3 (l2.length + 1) c3 (List.flatMap objC (l2 ++ [o])), obRow o, ro a2 (List.flatMap objC l2), gBag l2, ro t.a (List.flatMap valC t.cells), gWords, .blk g1 51 [.int .i64 M, .slice a2 l2.length c2], .blk g2 67 [.int .i64 t.k, .string (mkS t.tag), .slice t.a t.cells.length t.c, .int .i64 t.v.k, .int .i64 t.v.n, .string (mkS t.v.s), .int .i64 t.x.k, .int .i64 t.x.n, .string (mkS t.x.s), .int .i64 t.i], .blk g3 51 [.int .i64 0, .slice none 0 0], .blk g4 51 [.int .i64 M, .slice a3 (l2.length + 1) c3], .blk g5 28 [.int .i64 4, .int .i64 (↑l2.length : Int), .string (mkS [])]])) (by kernel_rfl) (hal) (Give.reorder (Give.view (c := (ro a4 (List.flatMap valC t.cells))) (Give.view (c := gWords) (give (pre := [.blk g 59 [.bool true, .int .i64 M, .int .i64 (↑(usedO L) : Int), .slice a1 l1.length c1], row 43 2 a1 l1.length c1 (List.flatMap objC l1), star (List.map obRow l1)]) (rest := ([ro a4 (List.flatMap valC t.cells), row 43 2 a3 (l2.length + 1) c3 (List.flatMap objC (l2 ++ [o])), obRow o, ro a2 (List.flatMap objC l2), gBag l2, ro t.a (List.flatMap valC t.cells), gWords, .blk g1 51 [.int .i64 M, .slice a2 l2.length c2], .blk g2 67 [.int .i64 t.k, .string (mkS t.tag), .slice t.a t.cells.length t.c, .int .i64 t.v.k, .int .i64 t.v.n, .string (mkS t.v.s), .int .i64 t.x.k, .int .i64 t.x.n, .string (mkS t.x.s), .int .i64 t.i], .blk g3 51 [.int .i64 0, .slice none 0 0], .blk g4 51 [.int .i64 M, .slice a3 (l2.length + 1) c3], .blk g5 28 [.int .i64 4, .int .i64 (↑l2.length : Int), .string (mkS [])]])) [3, 3, 3] (by kernel_rfl)) 6 (by kernel_rfl) view_ro) 0 (by kernel_rfl) view_ro) [2, 2, 2, 0, 0] (by kernel_rfl)) (sub_of [8] (by kernel_rfl)) ?_
          rintro r _ ⟨a5, c5, l5, hm5, rfl, rfl⟩
          refine TK 3 [(7, []), (8, []), (9, [])] (.i 187 (.int .i64 0) (.i 186 (.agg #[.int .i64 4, .int .i64 (↑l2.length : Int), .string (mkS [])]) (.d (.d (.d (.d (.d (.k .a)))))))) (#[true, true, true, true, true, true, true, true, true, true, false, false, false]) ?_
          refine wpa_new (n := 2) true 10 [] (fun g6 => [(29, .pointer (some ⟨g6, 0, none⟩)), (187, .int .i64 0), (186, .agg #[.int .i64 4, .int .i64 (↑l2.length : Int), .string (mkS [])]), (28, .int .i64 0), (27, .pointer (some ⟨g5, 0, none⟩)), (26, .pointer (some ⟨g4, 0, none⟩)), (8, .bool false), (7, .pointer (some ⟨g3, 0, none⟩)), (6, .pointer none), (0, .pointer (some ⟨g, 0, none⟩))]) (fun g6 => ([.blk g 59 [.bool true, .int .i64 M, .int .i64 (↑(usedO L') : Int), .slice a5 l5.length c5], row 43 2 a5 l5.length c5 (List.flatMap objC l5), star (List.map obRow l5), ro a4 (List.flatMap valC t.cells), row 43 2 a3 (l2.length + 1) c3 (List.flatMap objC (l2 ++ [o])), obRow o, ro a2 (List.flatMap objC l2), gBag l2, ro t.a (List.flatMap valC t.cells), gWords, .blk g1 51 [.int .i64 M, .slice a2 l2.length c2], .blk g2 67 [.int .i64 t.k, .string (mkS t.tag), .slice t.a t.cells.length t.c, .int .i64 t.v.k, .int .i64 t.v.n, .string (mkS t.v.s), .int .i64 t.x.k, .int .i64 t.x.n, .string (mkS t.x.s), .int .i64 t.i], .blk g3 51 [.int .i64 0, .slice none 0 0], .blk g4 51 [.int .i64 M, .slice a3 (l2.length + 1) c3], .blk g5 28 [.int .i64 4, .int .i64 (↑l2.length : Int), .string (mkS [])], .blk g6 28 [.int .i64 0, .int .i64 0, .string ⟨#[]⟩]])) (fun g6 => []) (by kernel_rfl) (fun g6 => by kernel_rfl) (fun g6 => by kernel_rfl) (fun g6 => trivial) (fun g6 => sub_of [11] (by kernel_rfl)) fun g6 => ?_
          refine AO 1 11 [15, 15, 15] (.k (.k (.d (.k .a)))) (.k (.k (.k (.k (.k (.k (.k (.k (.k (.k (.k (.k (.k (.k (.k (.u (.i (.int .i64 4) (.i (.int .i64 (↑l2.length : Int)) (.i (.string (mkS [])) .z))) .a)))))))))))))))) [11] ?_
          refine TK 0 [(12, [])] (.i 30 (.int .i64 0) (.k (.d (.k .a)))) (#[true, true, true, true, true, true, true, true, true, true, true, true, true]) ?_
          refine wpa_done 0 (by kernel_rfl) ?_
          exact nx_ent (ent_hp [0, 0, 0, 1, 1, 7, 7, 7, 7] rfl) (nx_ent (ent_fr (by kernel_rfl)) (hk ⟨(g6, a5, c5, l5), hm5⟩))
        · refine wpi_new (n := 6) true 10 [] (fun g6 => [(29, .pointer (some ⟨g6, 0, none⟩)), (184, .slice a4 t.cells.length c4), (181, .string (mkS t.tag)), (179, .pointer (some ⟨g, 0, none⟩)), (28, .int .i64 0), (27, .pointer (some ⟨g5, 0, none⟩)), (26, .pointer (some ⟨g4, 0, none⟩)), (8, .bool false), (7, .pointer (some ⟨g3, 0, none⟩)), (6, .pointer none), (0, .pointer (some ⟨g, 0, none⟩))]) (fun g6 => ([ro a4 (List.flatMap valC t.cells), row 43 2 a3 (l2.length + 1) c3 (List.flatMap objC (l2 ++ [o])), obRow o, .blk g 59 [.bool true, .int .i64 M, .int .i64 (↑(usedO L) : Int), .slice a1 l1.length c1], row 43 2 a1 l1.length c1 (List.flatMap objC l1), star (List.map obRow l1), ro a2 (List.flatMap objC l2), gBag l2, ro t.a (List.flatMap valC t.cells), gWords, .blk g1 51 [.int .i64 M, .slice a2 l2.length c2], .blk g2 67 [.int .i64 t.k, .string (mkS t.tag), .slice t.a t.cells.length t.c, .int .i64 t.v.k, .int .i64 t.v.n, .string (mkS t.v.s), .int .i64 t.x.k, .int .i64 t.x.n, .string (mkS t.x.s), .int .i64 t.i], .blk g3 51 [.int .i64 0, .slice none 0 0], .blk g4 51 [.int .i64 M, .slice a3 (l2.length + 1) c3], .blk g5 28 [.int .i64 4, .int .i64 (↑l2.length : Int), .string (mkS [])], .blk g6 28 [.int .i64 0, .int .i64 0, .string ⟨#[]⟩]])) (fun g6 => []) (fun g6 => by kernel_rfl) (fun g6 => by kernel_rfl) (fun g6 => trivial) (fun g6 => sub_of [11] (by kernel_rfl)) fun g6 => ?_
          refine AC (dst := some 185) 5 6 (.k (.k (.k (.d (.d (.d (.k .a))))))) (hal) (GO (GV (GV (GJ [3, 3, 3]) 6 view_ro) 0 view_ro) [2, 2, 2, 0, 0]) [8] ?_
          rintro r _ ⟨a5, c5, l5, hm5, rfl, rfl⟩
          refine TK 2 [(7, []), (8, []), (9, [])] (.i 187 (.int .i64 0) (.i 186 (.agg #[.int .i64 4, .int .i64 (↑l2.length : Int), .string (mkS [])]) (.d (.k (.d (.d (.d (.k .a)))))))) (#[true, true, true, true, true, true, true, true, true, true, true, false, false]) ?_
          refine AO 1 11 [15, 15, 15] (.k (.d (.k .a))) (.k (.k (.k (.k (.k (.k (.k (.k (.k (.k (.k (.k (.k (.k (.k (.u (.i (.int .i64 4) (.i (.int .i64 (↑l2.length : Int)) (.i (.string (mkS [])) .z))) .a)))))))))))))))) [11] ?_
          refine TK 0 [(12, [])] (.i 30 (.int .i64 0) (.d (.k .a))) (#[true, true, true, true, true, true, true, true, true, true, true, true, true]) ?_
          refine wpa_done 0 (by kernel_rfl) ?_
          exact nx_ent (ent_hp [0, 0, 0, 1, 1, 7, 7, 7, 7] rfl) (nx_ent (ent_fr (by kernel_rfl)) (hk ⟨(g6, a5, c5, l5), hm5⟩))
      · refine wpi_new (n := 7) true 10 [] (fun g6 => [(29, .pointer (some ⟨g6, 0, none⟩)), (183, .slice t.a t.cells.length t.c), (181, .string (mkS t.tag)), (179, .pointer (some ⟨g, 0, none⟩)), (28, .int .i64 0), (27, .pointer (some ⟨g5, 0, none⟩)), (26, .pointer (some ⟨g4, 0, none⟩)), (8, .bool false), (7, .pointer (some ⟨g3, 0, none⟩)), (6, .pointer none), (0, .pointer (some ⟨g, 0, none⟩))]) (fun g6 => ([row 43 2 a3 (l2.length + 1) c3 (List.flatMap objC (l2 ++ [o])), obRow o, .blk g 59 [.bool true, .int .i64 M, .int .i64 (↑(usedO L) : Int), .slice a1 l1.length c1], row 43 2 a1 l1.length c1 (List.flatMap objC l1), star (List.map obRow l1), ro a2 (List.flatMap objC l2), gBag l2, ro t.a (List.flatMap valC t.cells), gWords, .blk g1 51 [.int .i64 M, .slice a2 l2.length c2], .blk g2 67 [.int .i64 t.k, .string (mkS t.tag), .slice t.a t.cells.length t.c, .int .i64 t.v.k, .int .i64 t.v.n, .string (mkS t.v.s), .int .i64 t.x.k, .int .i64 t.x.n, .string (mkS t.x.s), .int .i64 t.i], .blk g3 51 [.int .i64 0, .slice none 0 0], .blk g4 51 [.int .i64 M, .slice a3 (l2.length + 1) c3], .blk g5 28 [.int .i64 4, .int .i64 (↑l2.length : Int), .string (mkS [])], .blk g6 28 [.int .i64 0, .int .i64 0, .string ⟨#[]⟩]])) (fun g6 => []) (fun g6 => by kernel_rfl) (fun g6 => by kernel_rfl) (fun g6 => trivial) (fun g6 => sub_of [10] (by kernel_rfl)) fun g6 => ?_
        refine AC (dst := some 184) 6 5 .a (own_spec t.a t.c t.cells ht6 ht2) (GV (GI []) 7 view_ro) [10] ?_
        rintro r _ ⟨a4, c4, hn4, hc4, rfl, rfl⟩
        refine wpa_ent (ent_turn 0 (ro a4 (t.cells.flatMap valC)) rfl (turn_view view_row) rfl) ?_
        have hal := hal0 a4 c4 hn4 hc4
        refine AC (dst := some 185) 5 6 (.k (.k (.k (.d (.d (.d (.k .a))))))) (hal) (GO (GV (GV (GJ [3, 3, 3]) 6 view_ro) 0 view_ro) [2, 2, 2, 0, 0]) [8] ?_
        rintro r _ ⟨a5, c5, l5, hm5, rfl, rfl⟩
        refine TK 2 [(7, []), (8, []), (9, [])] (.i 187 (.int .i64 0) (.i 186 (.agg #[.int .i64 4, .int .i64 (↑l2.length : Int), .string (mkS [])]) (.d (.d (.k (.d (.d (.d (.k .a))))))))) (#[true, true, true, true, true, true, true, true, true, true, true, false, false]) ?_
        refine AO 1 11 [15, 15, 15] (.k (.d (.k .a))) (.k (.k (.k (.k (.k (.k (.k (.k (.k (.k (.k (.k (.k (.k (.k (.u (.i (.int .i64 4) (.i (.int .i64 (↑l2.length : Int)) (.i (.string (mkS [])) .z))) .a)))))))))))))))) [11] ?_
        refine TK 0 [(12, [])] (.i 30 (.int .i64 0) (.d (.k .a))) (#[true, true, true, true, true, true, true, true, true, true, true, true, true]) ?_
        refine wpa_done 0 (by kernel_rfl) ?_
        exact nx_ent (ent_hp [0, 0, 0, 1, 1, 7, 7, 7, 7] rfl) (nx_ent (ent_fr (by kernel_rfl)) (hk ⟨(g6, a5, c5, l5), hm5⟩))
    · rintro ⟨⟨g6, a5, c5, l5⟩, hm5⟩
      dsimp only at hm5 ⊢
      refine NT (SQ ?_)
      refine wpc_draw (by kernel_rfl) ([.blk g4 51 [.int .i64 M, .slice a3 (l2.length + 1) c3], .blk g5 28 [.int .i64 4, .int .i64 (↑l2.length : Int), .string (mkS [])], .blk g6 28 [.int .i64 4, .int .i64 (↑l2.length : Int), .string (mkS [])]]) (sub_of [6, 7, 8] (by kernel_rfl)) 13 (by kernel_rfl) ?_
      refine TK 9 [(0, []), (1, [0, 0]), (2, [1, 1, 1]), (3, [2, 2, 2])] (.i 191 (.agg #[.int .i64 4, .int .i64 (↑l2.length : Int), .string (mkS [])]) (.i 190 (.agg #[.int .i64 4, .int .i64 (↑l2.length : Int), .string (mkS [])]) (.i 189 (.agg #[.int .i64 M, .slice a3 (l2.length + 1) c3]) (.i 188 (.pointer (some ⟨g, 0, none⟩)) (.k (.d (.k (.d (.d (.k (.k (.k .z)))))))))))) (#[true, true, true, true, false, false, false, false, false, false, false, false, false]) ?_
      refine wpa_eqc_same (i := 4) (n := 8) (by kernel_rfl) (b := true) (t := 28) (xs := (valC (V.mk 4 (l2.length : Nat) []))) (dst := some 192) (by kernel_rfl) (by kernel_rfl) (sub_of [6, 7, 8] (by kernel_rfl)) ?_
      refine TK 2 [(5, []), (6, []), (7, []), (8, []), (9, []), (10, [])] (.i 6 (.pointer (some ⟨g, 0, none⟩)) (.i 197 (.bool true) (.d (.d (.d (.k (.d (.d (.d (.k (.k .z))))))))))) (#[true, true, true, true, true, true, true, true, true, true, true, false, false]) ?_
      refine AO 1 11 [5, 5] (.k (.k (.d (.k .a)))) (.k (.k (.k (.k (.k (.u (.i (.int .i64 M) (.i (.slice a3 (l2.length + 1) c3) .z)) .a)))))) [6, 7, 8] ?_
      refine TK 0 [(12, [])] (.i 8 (.bool true) (.k (.d (.d (.k .a))))) (#[true, true, true, true, true, true, true, true, true, true, true, true, true]) ?_
      refine wpa_done 0 (by kernel_rfl) ?_
      refine NT (RE ?_)
      refine NE [0, 0, 0, 0, 0] (.k (.k (.k (.k (.k .z))))) (.d (.d (.d (.d (.d (.k .a)))))) [5, 5] (.tuple #[.pointer (some ⟨g, 0, none⟩), .agg #[.int .i64 M, .slice a3 (l2.length + 1) c3], .bool true]) ?_
      refine ⟨g, a5, c5, l5, hm5, .inl ⟨a3, c3, l2 ++ [o], o, ?_, fun p hp => ?_, ?_, ?_⟩⟩
      · rw [List.map_append, hm2, hL', List.map_singleton]; unfold Ob.o; rw [ho1, ho2]
      · rcases List.mem_append.1 hp with h | h
        · exact .inr h
        · exact .inl (List.mem_singleton.1 h)
      · rw [List.length_append, List.length_singleton]
      · rw [List.length_append, List.length_singleton]
  · rw [if_neg h0] at hr
    obtain ⟨rfl, rfl⟩ := hr
    rw [if_neg h0] at hcs
    obtain ⟨hL', rfl⟩ := hcs
    unfold noV at hal0
    dsimp only at hal0
    refine RP [] (.d (.d (.d (.d (.d .a))))) 26 (.i 177 (.int .i64 e') (.i 176 (.agg #[.int .i64 0, .int .i64 0, .string (mkS [])]) (.i 175 (.agg #[.int .i64 M, .slice a2 l2.length c2]) (.d (.d (.d (.d (.k .a)))))))) .a 51 [.int .i64 0, .slice none 0 0] fun g4 => ?_
    refine RP [] (.d .a) 27 .a .a 28 [.int .i64 0, .int .i64 0, .string ⟨#[]⟩] fun g5 => ?_
    refine RR [10, 10, 11, 11, 11] .z (.i 28 (.int .i64 e') (.k (.k (.d (.d (.d (.k .a))))))) (.k (.k (.k (.k (.k (.k (.k (.k (.k (.k (.u (.i (.int .i64 M) (.i (.slice a2 l2.length c2) .z)) (.u (.k (.k (.i (.string (mkS [])) .z))) .a)))))))))))) ?_
    refine RZ (NT (SQ ?_))
    refine wpc_draw (by kernel_rfl) [.blk g2 67 [.int .i64 t.k, .string (mkS t.tag), .slice t.a t.cells.length t.c, .int .i64 t.v.k, .int .i64 t.v.n, .string (mkS t.v.s), .int .i64 t.x.k, .int .i64 t.x.n, .string (mkS t.x.s), .int .i64 t.i]] (sub_of [8] (by kernel_rfl)) 13 (by kernel_rfl) ?_
    refine TK 8 [(0, []), (1, []), (2, [0]), (3, []), (4, [0])] (.i 183 (.slice t.a t.cells.length t.c) (.i 181 (.string (mkS t.tag)) (.i 179 (.pointer (some ⟨g, 0, none⟩)) (.k (.k (.k (.k (.k (.k (.d (.k .a))))))))))) (#[true, true, true, true, true, false, false, false, false, false, false, false, false]) ?_
    refine wpa_joinx (X := {y : Nat × Option Addr × Nat × List Ob // y.2.2.2.map Ob.o = L'}) (fun y => St.mk [(30, .int .i64 e'), (29, .pointer (some ⟨y.1.1, 0, none⟩)), (28, .int .i64 e'), (27, .pointer (some ⟨g5, 0, none⟩)), (26, .pointer (some ⟨g4, 0, none⟩)), (8, .bool false), (7, .pointer (some ⟨g3, 0, none⟩)), (6, .pointer none), (0, .pointer (some ⟨g, 0, none⟩))]
      [.blk g 59 [.bool true, .int .i64 M, .int .i64 (usedO L' : Nat), .slice y.1.2.1 y.1.2.2.2.length y.1.2.2.1], row 43 2 y.1.2.1 y.1.2.2.2.length y.1.2.2.1 (y.1.2.2.2.flatMap objC), star (y.1.2.2.2.map obRow), .blk g3 51 [.int .i64 0, .slice none 0 0], .blk g4 51 [.int .i64 M, .slice a2 l2.length c2], .blk g5 28 [.int .i64 0, .int .i64 0, .string (mkS [])], .blk y.1.1 28 [.int .i64 0, .int .i64 0, .string (mkS [])]]) (fun Q1 hQ1 hk => ?_) ?_
    · refine wpa_two (i := 5) (j := 10) (n := 7) (by kernel_rfl) ?_ ?_
      · refine wpi_call (i := 5) (dst := some 184) (rest := [.blk g 59 [.bool true, .int .i64 M, .int .i64 (↑(usedO L) : Int), .slice a1 l1.length c1], row 43 2 a1 l1.length c1 (List.flatMap objC l1), star (List.map obRow l1), ro a2 (List.flatMap objC l2), gBag l2, ro t.a (List.flatMap valC t.cells), gWords, .blk g1 51 [.int .i64 M, .slice a2 l2.length c2], .blk g2 67 [.int .i64 t.k, .string (mkS t.tag), .slice t.a t.cells.length t.c, .int .i64 t.v.k, .int .i64 t.v.n, .string (mkS t.v.s), .int .i64 t.x.k, .int .i64 t.x.n, .string (mkS t.x.s), .int .i64 t.i], .blk g3 51 [.int .i64 0, .slice none 0 0], .blk g4 51 [.int .i64 M, .slice a2 l2.length c2], .blk g5 28 [.int .i64 0, .int .i64 0, .string (mkS [])]]) (by kernel_rfl) (own_spec t.a t.c t.cells ht6 ht2) (Give.view (c := (ro t.a (List.flatMap valC t.cells))) (give (pre := []) (rest := [.blk g 59 [.bool true, .int .i64 M, .int .i64 (↑(usedO L) : Int), .slice a1 l1.length c1], row 43 2 a1 l1.length c1 (List.flatMap objC l1), star (List.map obRow l1), ro a2 (List.flatMap objC l2), gBag l2, ro t.a (List.flatMap valC t.cells), gWords, .blk g1 51 [.int .i64 M, .slice a2 l2.length c2], .blk g2 67 [.int .i64 t.k, .string (mkS t.tag), .slice t.a t.cells.length t.c, .int .i64 t.v.k, .int .i64 t.v.n, .string (mkS t.v.s), .int .i64 t.x.k, .int .i64 t.x.n, .string (mkS t.x.s), .int .i64 t.i], .blk g3 51 [.int .i64 0, .slice none 0 0], .blk g4 51 [.int .i64 M, .slice a2 l2.length c2], .blk g5 28 [.int .i64 0, .int .i64 0, .string (mkS [])]]) [] (by kernel_rfl)) 5 (by kernel_rfl) view_ro) (sub_of [8] (by kernel_rfl)) ?_
        rintro r _ ⟨a4, c4, hn4, hc4, rfl, rfl⟩
        refine wpa_ent (ent_turn 0 (ro a4 (t.cells.flatMap valC)) rfl (turn_view view_row) rfl) ?_
        have hal := hal0 a4 c4 hn4 hc4
        refine wpa_two (i := 6) (j := 10) (n := 6) (by kernel_rfl) ?_ ?_
        · refine wpi_call (i := 6) (dst := some 185) (rest := [ro a4 (List.flatMap valC t.cells), ro a2 (List.flatMap objC l2), gBag l2, ro t.a (List.flatMap valC t.cells), gWords, .blk g1 51 [.int .i64 M, .slice a2 l2.length c2], .blk g2 67 [.int .i64 t.k, .string (mkS t.tag), .slice t.a t.cells.length t.c, .int .i64 t.v.k, .int .i64 t.v.n, .string (mkS t.v.s), .int .i64 t.x.k, .int .i64 t.x.n, .string (mkS t.x.s), .int .i64 t.i], .blk g3 51 [.int .i64 0, .slice none 0 0], .blk g4 51 [.int .i64 M, .slice a2 l2.length c2], .blk g5 28 [.int .i64 0, .int .i64 0, .string (mkS [])]]) (by kernel_rfl) (hal) (Give.reorder (Give.view (c := (ro a4 (List.flatMap valC t.cells))) (Give.view (c := gWords) (give (pre := [.blk g 59 [.bool true, .int .i64 M, .int .i64 (↑(usedO L) : Int), .slice a1 l1.length c1], row 43 2 a1 l1.length c1 (List.flatMap objC l1), star (List.map obRow l1)]) (rest := [ro a4 (List.flatMap valC t.cells), ro a2 (List.flatMap objC l2), gBag l2, ro t.a (List.flatMap valC t.cells), gWords, .blk g1 51 [.int .i64 M, .slice a2 l2.length c2], .blk g2 67 [.int .i64 t.k, .string (mkS t.tag), .slice t.a t.cells.length t.c, .int .i64 t.v.k, .int .i64 t.v.n, .string (mkS t.v.s), .int .i64 t.x.k, .int .i64 t.x.n, .string (mkS t.x.s), .int .i64 t.i], .blk g3 51 [.int .i64 0, .slice none 0 0], .blk g4 51 [.int .i64 M, .slice a2 l2.length c2], .blk g5 28 [.int .i64 0, .int .i64 0, .string (mkS [])]]) [1, 1, 1] (by kernel_rfl)) 4 (by kernel_rfl) view_ro) 0 (by kernel_rfl) view_ro) [2, 2, 2, 0, 0] (by kernel_rfl)) (sub_of [6] (by kernel_rfl)) ?_
          rintro r _ ⟨a5, c5, l5, hm5, rfl, rfl⟩
          refine TK 3 [(7, []), (8, []), (9, [])] (.i 187 (.int .i64 e') (.i 186 (.agg #[.int .i64 0, .int .i64 0, .string (mkS [])]) (.d (.d (.d (.d (.d (.k .a)))))))) (#[true, true, true, true, true, true, true, true, true, true, false, false, false]) ?_
          refine wpa_new (n := 2) true 10 [] (fun g6 => [(29, .pointer (some ⟨g6, 0, none⟩)), (187, .int .i64 e'), (186, .agg #[.int .i64 0, .int .i64 0, .string (mkS [])]), (28, .int .i64 e'), (27, .pointer (some ⟨g5, 0, none⟩)), (26, .pointer (some ⟨g4, 0, none⟩)), (8, .bool false), (7, .pointer (some ⟨g3, 0, none⟩)), (6, .pointer none), (0, .pointer (some ⟨g, 0, none⟩))]) (fun g6 => [.blk g 59 [.bool true, .int .i64 M, .int .i64 (↑(usedO L') : Int), .slice a5 l5.length c5], row 43 2 a5 l5.length c5 (List.flatMap objC l5), star (List.map obRow l5), ro a4 (List.flatMap valC t.cells), ro a2 (List.flatMap objC l2), gBag l2, ro t.a (List.flatMap valC t.cells), gWords, .blk g1 51 [.int .i64 M, .slice a2 l2.length c2], .blk g2 67 [.int .i64 t.k, .string (mkS t.tag), .slice t.a t.cells.length t.c, .int .i64 t.v.k, .int .i64 t.v.n, .string (mkS t.v.s), .int .i64 t.x.k, .int .i64 t.x.n, .string (mkS t.x.s), .int .i64 t.i], .blk g3 51 [.int .i64 0, .slice none 0 0], .blk g4 51 [.int .i64 M, .slice a2 l2.length c2], .blk g5 28 [.int .i64 0, .int .i64 0, .string (mkS [])], .blk g6 28 [.int .i64 0, .int .i64 0, .string ⟨#[]⟩]]) (fun g6 => []) (by kernel_rfl) (fun g6 => by kernel_rfl) (fun g6 => by kernel_rfl) (fun g6 => trivial) (fun g6 => sub_of [9] (by kernel_rfl)) fun g6 => ?_
          refine AO 1 11 [13, 13, 13] (.k (.k (.d (.k .a)))) (.k (.k (.k (.k (.k (.k (.k (.k (.k (.k (.k (.k (.k (.u (.k (.k (.i (.string (mkS [])) .z))) .a)))))))))))))) [9] ?_
          refine TK 0 [(12, [])] (.i 30 (.int .i64 e') (.k (.d (.k .a)))) (#[true, true, true, true, true, true, true, true, true, true, true, true, true]) ?_
          refine wpa_done 0 (by kernel_rfl) ?_
          exact nx_ent (ent_hp [0, 0, 0, 7, 7, 7, 7] rfl) (nx_ent (ent_fr (by kernel_rfl)) (hk ⟨(g6, a5, c5, l5), hm5⟩))
        · refine wpi_new (n := 6) true 10 [] (fun g6 => [(29, .pointer (some ⟨g6, 0, none⟩)), (184, .slice a4 t.cells.length c4), (181, .string (mkS t.tag)), (179, .pointer (some ⟨g, 0, none⟩)), (28, .int .i64 e'), (27, .pointer (some ⟨g5, 0, none⟩)), (26, .pointer (some ⟨g4, 0, none⟩)), (8, .bool false), (7, .pointer (some ⟨g3, 0, none⟩)), (6, .pointer none), (0, .pointer (some ⟨g, 0, none⟩))]) (fun g6 => [ro a4 (List.flatMap valC t.cells), .blk g 59 [.bool true, .int .i64 M, .int .i64 (↑(usedO L) : Int), .slice a1 l1.length c1], row 43 2 a1 l1.length c1 (List.flatMap objC l1), star (List.map obRow l1), ro a2 (List.flatMap objC l2), gBag l2, ro t.a (List.flatMap valC t.cells), gWords, .blk g1 51 [.int .i64 M, .slice a2 l2.length c2], .blk g2 67 [.int .i64 t.k, .string (mkS t.tag), .slice t.a t.cells.length t.c, .int .i64 t.v.k, .int .i64 t.v.n, .string (mkS t.v.s), .int .i64 t.x.k, .int .i64 t.x.n, .string (mkS t.x.s), .int .i64 t.i], .blk g3 51 [.int .i64 0, .slice none 0 0], .blk g4 51 [.int .i64 M, .slice a2 l2.length c2], .blk g5 28 [.int .i64 0, .int .i64 0, .string (mkS [])], .blk g6 28 [.int .i64 0, .int .i64 0, .string ⟨#[]⟩]]) (fun g6 => []) (fun g6 => by kernel_rfl) (fun g6 => by kernel_rfl) (fun g6 => trivial) (fun g6 => sub_of [9] (by kernel_rfl)) fun g6 => ?_
          refine AC (dst := some 185) 5 6 (.k (.d (.d (.d (.k .a))))) (hal) (GO (GV (GV (GJ [1, 1, 1]) 4 view_ro) 0 view_ro) [2, 2, 2, 0, 0]) [6] ?_
          rintro r _ ⟨a5, c5, l5, hm5, rfl, rfl⟩
          refine TK 2 [(7, []), (8, []), (9, [])] (.i 187 (.int .i64 e') (.i 186 (.agg #[.int .i64 0, .int .i64 0, .string (mkS [])]) (.d (.k (.d (.d (.d (.k .a)))))))) (#[true, true, true, true, true, true, true, true, true, true, true, false, false]) ?_
          refine AO 1 11 [13, 13, 13] (.k (.d (.k .a))) (.k (.k (.k (.k (.k (.k (.k (.k (.k (.k (.k (.k (.k (.u (.k (.k (.i (.string (mkS [])) .z))) .a)))))))))))))) [9] ?_
          refine TK 0 [(12, [])] (.i 30 (.int .i64 e') (.d (.k .a))) (#[true, true, true, true, true, true, true, true, true, true, true, true, true]) ?_
          refine wpa_done 0 (by kernel_rfl) ?_
          exact nx_ent (ent_hp [0, 0, 0, 7, 7, 7, 7] rfl) (nx_ent (ent_fr (by kernel_rfl)) (hk ⟨(g6, a5, c5, l5), hm5⟩))
      · refine wpi_new (n := 7) true 10 [] (fun g6 => [(29, .pointer (some ⟨g6, 0, none⟩)), (183, .slice t.a t.cells.length t.c), (181, .string (mkS t.tag)), (179, .pointer (some ⟨g, 0, none⟩)), (28, .int .i64 e'), (27, .pointer (some ⟨g5, 0, none⟩)), (26, .pointer (some ⟨g4, 0, none⟩)), (8, .bool false), (7, .pointer (some ⟨g3, 0, none⟩)), (6, .pointer none), (0, .pointer (some ⟨g, 0, none⟩))]) (fun g6 => [.blk g 59 [.bool true, .int .i64 M, .int .i64 (↑(usedO L) : Int), .slice a1 l1.length c1], row 43 2 a1 l1.length c1 (List.flatMap objC l1), star (List.map obRow l1), ro a2 (List.flatMap objC l2), gBag l2, ro t.a (List.flatMap valC t.cells), gWords, .blk g1 51 [.int .i64 M, .slice a2 l2.length c2], .blk g2 67 [.int .i64 t.k, .string (mkS t.tag), .slice t.a t.cells.length t.c, .int .i64 t.v.k, .int .i64 t.v.n, .string (mkS t.v.s), .int .i64 t.x.k, .int .i64 t.x.n, .string (mkS t.x.s), .int .i64 t.i], .blk g3 51 [.int .i64 0, .slice none 0 0], .blk g4 51 [.int .i64 M, .slice a2 l2.length c2], .blk g5 28 [.int .i64 0, .int .i64 0, .string (mkS [])], .blk g6 28 [.int .i64 0, .int .i64 0, .string ⟨#[]⟩]]) (fun g6 => []) (fun g6 => by kernel_rfl) (fun g6 => by kernel_rfl) (fun g6 => trivial) (fun g6 => sub_of [8] (by kernel_rfl)) fun g6 => ?_
        refine AC (dst := some 184) 6 5 .a (own_spec t.a t.c t.cells ht6 ht2) (GV (GI []) 5 view_ro) [8] ?_
        rintro r _ ⟨a4, c4, hn4, hc4, rfl, rfl⟩
        refine wpa_ent (ent_turn 0 (ro a4 (t.cells.flatMap valC)) rfl (turn_view view_row) rfl) ?_
        have hal := hal0 a4 c4 hn4 hc4
        refine AC (dst := some 185) 5 6 (.k (.d (.d (.d (.k .a))))) (hal) (GO (GV (GV (GJ [1, 1, 1]) 4 view_ro) 0 view_ro) [2, 2, 2, 0, 0]) [6] ?_
        rintro r _ ⟨a5, c5, l5, hm5, rfl, rfl⟩
        refine TK 2 [(7, []), (8, []), (9, [])] (.i 187 (.int .i64 e') (.i 186 (.agg #[.int .i64 0, .int .i64 0, .string (mkS [])]) (.d (.d (.k (.d (.d (.d (.k .a))))))))) (#[true, true, true, true, true, true, true, true, true, true, true, false, false]) ?_
        refine AO 1 11 [13, 13, 13] (.k (.d (.k .a))) (.k (.k (.k (.k (.k (.k (.k (.k (.k (.k (.k (.k (.k (.u (.k (.k (.i (.string (mkS [])) .z))) .a)))))))))))))) [9] ?_
        refine TK 0 [(12, [])] (.i 30 (.int .i64 e') (.d (.k .a))) (#[true, true, true, true, true, true, true, true, true, true, true, true, true]) ?_
        refine wpa_done 0 (by kernel_rfl) ?_
        exact nx_ent (ent_hp [0, 0, 0, 7, 7, 7, 7] rfl) (nx_ent (ent_fr (by kernel_rfl)) (hk ⟨(g6, a5, c5, l5), hm5⟩))
    · rintro ⟨⟨g6, a5, c5, l5⟩, hm5⟩
      dsimp only at hm5 ⊢
      refine NT (SQ ?_)
      refine wpc_draw (by kernel_rfl) [.blk g 59 [.bool true, .int .i64 M, .int .i64 (↑(usedO L') : Int), .slice a5 l5.length c5], row 43 2 a5 l5.length c5 (List.flatMap objC l5), star (List.map obRow l5), .blk g4 51 [.int .i64 M, .slice a2 l2.length c2], .blk g5 28 [.int .i64 0, .int .i64 0, .string (mkS [])], .blk g6 28 [.int .i64 0, .int .i64 0, .string (mkS [])]] (sub_of [0, 1, 2, 4, 5, 6] (by kernel_rfl)) 13 (by kernel_rfl) ?_
      refine TK 2 [(0, []), (1, [3, 3]), (2, [4, 4, 4]), (3, [5, 5, 5]), (4, []), (5, []), (6, []), (7, []), (8, []), (9, []), (10, [])] (.i 6 (.pointer (some ⟨g, 0, none⟩)) (.i 197 (.bool (e' == e')) (.i 189 (.agg #[.int .i64 M, .slice a2 l2.length c2]) (.d (.d (.d (.d (.d (.k (.k .z)))))))))) (#[true, true, true, true, true, true, true, true, true, true, true, false, false]) ?_
      refine AO 1 11 [3, 3] (.k (.k (.d (.k .a)))) (.k (.k (.k (.u (.i (.int .i64 M) (.i (.slice a2 l2.length c2) .z)) .a)))) [0, 1, 2, 4, 5, 6] ?_
      refine TK 0 [(12, [])] (.i 8 (.bool (e' == e')) (.k (.d (.d (.k .a))))) (#[true, true, true, true, true, true, true, true, true, true, true, true, true]) ?_
      refine wpa_done 0 (by kernel_rfl) ?_
      refine NT (RE ?_)
      refine NE [0, 0, 0] (.k (.k (.k .z))) (.d (.d (.d (.k .a)))) [3, 3] (.tuple #[.pointer (some ⟨g, 0, none⟩), .agg #[.int .i64 M, .slice a2 l2.length c2], .bool (e' == e')]) ?_
      exact ⟨g, a5, c5, l5, hm5, .inr ⟨hL', by first | rfl | (rw [beq_self_eq_true]), by rw [hL']⟩⟩
theorem step_spec (g : Nat) (M : Int) (hM : 0 ≤ M ∧ M ≤ 4096) (a1 : Option Addr) (c1 : Nat) (l1 : List Ob) (L : List O) (hm1 : l1.map Ob.o = L) (a2 : Option Addr) (c2 : Nat) (l2 : List Ob) (hm2 : l2.map Ob.o = L) (hu : (usedO L : Int) ≤ M) (hok : okHeap L) (hwf : wfL L) (ha2 : a2 = none → l2 = []) (hn2 : ∀ o ∈ l2, o.a = none → o.cells = []) (t : At) (ht : t.ok) : StepS g M a1 c1 l1 L a2 c2 l2 t := by
  by_cases hk1 : t.k = 1
  · exact step_set g M hM a1 c1 l1 L hm1 a2 c2 l2 hm2 hu hok hwf ha2 hn2 t ht hk1
  by_cases hk2 : t.k = 2
  · exact step_get g M hM a1 c1 l1 L hm1 a2 c2 l2 hm2 hu hok hwf ha2 hn2 t ht hk1 hk2
  by_cases hk3 : t.k = 3
  · exact step_copy g M hM a1 c1 l1 L hm1 a2 c2 l2 hm2 hu hok hwf ha2 hn2 t ht hk1 hk2 hk3
  by_cases hk4 : t.k = 4
  · exact step_load g M hM a1 c1 l1 L hm1 a2 c2 l2 hm2 hu hok hwf ha2 hn2 t ht hk1 hk2 hk3 hk4
  · exact step_make g M hM a1 c1 l1 L hm1 a2 c2 l2 hm2 hu hok hwf ha2 hn2 t ht hk1 hk2 hk3 hk4
end Go.Proofs.YtpfhleghgkeemaaGreatDoor
