import Derived.Test.YtpfhleghgkeemaaGreatDoorH33
import Derived.Test.YtpfhleghgkeemaaGreatDoorH28
import Derived.Test.YtpfhleghgkeemaaGreatDoorY2
namespace Go.Proofs.YtpfhleghgkeemaaGreatDoor
open Go Go.Sx
set_option linter.unusedVariables false
set_option linter.unusedSimpArgs false

theorem All_o (g : Nat) (most : Int) (used : Nat) (a : Option Addr) (c : Nat) (l : List Ob) (L : List O) (hm : l.map Ob.o = L) (hl : L.length ≤ 4096) (hcl : ∀ o ∈ L, o.2.length ≤ 1048576) :
    Does Tryz.prog 22 [.pointer (some ⟨g, 0, none⟩)] [ro (some ⟨g, 0, none⟩) [.bool true, .int .i64 most, .int .i64 used, .slice a l.length c], ro a (l.flatMap objC), gBag l]
      (fun r hp' => ∃ a' c' l', l'.map Ob.o = L ∧ r = .slice a' l'.length c' ∧ hp' = [heapR a' c' l', heapS l']) := by
  subst hm
  rw [List.length_map] at hl
  exact All_spec g most used a c l hl (fun o ho => hcl o.o (List.mem_map.2 ⟨o, ho, rfl⟩))
theorem used_cells {L : List O} {o : O} (h : o ∈ L) : o.2.length ≤ usedO L := by
  induction L with
  | nil => cases h
  | cons p r ih =>
    have : usedO (p :: r) = p.2.length + 1 + usedO r := rfl
    rcases List.mem_cons.1 h with rfl | h
    · omega
    · have := ih h; omega
theorem setR_ne {L : List O} {v x : V} {i : Int} (h : (setR L v i x).2 ≠ 0) : (setR L v i x).1 = L := by
  unfold setR at h ⊢
  split
  · split
    · rename_i h1 h2
      rw [if_pos h1, if_pos h2] at h
      exact absurd rfl h
    · rfl
  · rfl
theorem setR_ok {L : List O} {v x : V} {i : Int} (h : (setR L v i x).2 = 0) : refB v L.length = true ∧ cellB L.length x = true ∧ inB i (objAt L v).2.length = true ∧ (setR L v i x).1 = L.set v.n.toNat ((objAt L v).1, (objAt L v).2.set i.toNat x) := by
  unfold setR at h ⊢
  split at h
  · rename_i h1
    split at h
    · rename_i h2
      rw [if_pos h1, if_pos h2]
      simp only [Bool.and_eq_true] at h1
      exact ⟨h1.1, h1.2, h2, rfl⟩
    · cases h
  · cases h
theorem set_get {L : List O} {v x : V} {i : Int} (h : (setR L v i x).2 = 0) : getR (setR L v i x).1 v i = (x, 0) := by
  obtain ⟨h1, h2, h3, h4⟩ := setR_ok h
  rw [h4]
  have hq : v.n.toNat < L.length := by obtain ⟨_, _, h5, h6⟩ := refB_lt h1; omega
  have hob : objAt (L.set v.n.toNat ((objAt L v).1, (objAt L v).2.set i.toNat x)) v = ((objAt L v).1, (objAt L v).2.set i.toNat x) := by
    show (L.set _ _).getD v.n.toNat ([], []) = _
    rw [List.getD_eq_getElem?_getD, List.getElem?_set_self hq]; rfl
  unfold getR
  rw [List.length_set, h1, if_pos rfl, hob]
  show (if inB i ((objAt L v).2.set i.toNat x).length = true then _ else _) = _
  rw [List.length_set, h3, if_pos rfl]
  have hj : i.toNat < (objAt L v).2.length := by
    unfold inB at h3; simp only [Bool.and_eq_true, decide_eq_true_eq] at h3; omega
  show (((objAt L v).2.set i.toNat x).getD i.toNat noV, (0 : Int)) = _
  rw [List.getD_eq_getElem?_getD, List.getElem?_set_self hj]; rfl
theorem set_other {L : List O} {v x : V} {i : Int} (h : (setR L v i x).2 = 0) {k : Nat} {o o' : O} (ho : L[k]? = some o) (ho' : (setR L v i x).1[k]? = some o') :
    o'.1 = o.1 ∧ o'.2.length = o.2.length ∧ ∀ (j : Nat) u u', o.2[j]? = some u → o'.2[j]? = some u' → (k : Int) ≠ v.n ∨ (j : Int) ≠ i → u' = u := by
  obtain ⟨h1, h2, h3, h4⟩ := setR_ok h
  rw [h4] at ho'
  obtain ⟨_, _, h5, h6⟩ := refB_lt h1
  have hq : v.n.toNat < L.length := by omega
  by_cases hk : v.n.toNat = k
  · subst hk
    rw [List.getElem?_set_self hq] at ho'
    obtain rfl := Option.some.inj ho'
    have hob : objAt L v = o := by
      show L.getD v.n.toNat ([], []) = _
      rw [List.getD_eq_getElem?_getD, ho]; rfl
    rw [hob]
    refine ⟨rfl, List.length_set, fun j u u' hu hu' hne => ?_⟩
    unfold inB at h3; simp only [Bool.and_eq_true, decide_eq_true_eq] at h3
    have hne2 : i.toNat ≠ j := by rcases hne with hne | hne <;> omega
    have hu2 : (o.2.set i.toNat x)[j]? = some u' := hu'
    rw [List.getElem?_set_ne hne2, hu] at hu2
    exact (Option.some.inj hu2).symm
  · rw [List.getElem?_set_ne hk, ho] at ho'
    obtain rfl := Option.some.inj ho'
    exact ⟨rfl, rfl, fun j u u' hu hu' _ => by rw [hu] at hu'; exact (Option.some.inj hu').symm⟩
def refV (n : Int) : V := ⟨4, n, []⟩
theorem obs_cl {l : List Ob} {L : List O} (hm : l.map Ob.o = L) (h : ∀ o ∈ L, o.2.length ≤ 1048576) : ∀ o ∈ l, o.cells.length ≤ 1048576 := fun o ho => h o.o (by rw [← hm]; exact List.mem_map.2 ⟨o, ho, rfl⟩)
set_option maxHeartbeats 4000000 in
theorem HeapSet_spec (a : Option Addr) (c : Nat) (l : List At) (n i : Int) (x : V) (hl : l.length ≤ 1048576) (hs : ∀ t ∈ l, t.ok) (hx : x.sm) :
    Does Tryz.prog 4 [.slice a l.length c, .int .i64 n, .int .i64 i, valV x] [ro a (l.flatMap actC), gActs l, gWords, gPow] (fun v hp' => v = .bool true ∧ hp' = []) := by
  unfold valV
  by_cases h60 : 60 < l.length
  · refine fn_enter Tryz.func4 rfl 134 rfl fun w0 h0 => ?_
    refine SQ (RG ?_)
    refine RP [] (.d .a) 7 (.k (.k (.k .z))) .a 28 [.int .i64 x.k, .int .i64 x.n, .string (mkS x.s)] fun g1 => ?_
    refine RR [] .z (.i 8 (.bool false) .a) (.k (.k (.k (.k (.i (.blk g1 28 [.int .i64 x.k, .int .i64 x.n, .string (mkS x.s)]) .z))))) ?_
    refine RZ (NT (SQ (SQ (RG ?_))))
    refine RR [] .z (.i 18 (.bool (decide ((↑l.length : Int) > 60))) .a) (.k (.k (.k (.k (.i (.blk g1 28 [.int .i64 x.k, .int .i64 x.n, .string (mkS x.s)]) .z))))) ?_
    refine RZ (NT ?_)
    refine SC 18 (decide ((↑l.length : Int) > 60)) true (decide_eq_true (by omega)) ?_
    refine CT (SQ (RG ?_))
    refine RCG (dst := some 19) (.k (.k (.k (.k (.i (.blk g1 28 [.int .i64 x.k, .int .i64 x.n, .string (mkS x.s)]) .z))))) (lives_spec) (GV (GV (GI []) 3 view_gPow) 2 view_ro) ?_
    rintro v _ ⟨rfl, rfl⟩
    refine RR [] .z (.i 8 (.bool true) (.d (.d (.d (.d (.k .a)))))) (.k (.k (.k (.k (.i (.blk g1 28 [.int .i64 x.k, .int .i64 x.n, .string (mkS x.s)]) .z))))) ?_
    refine RZ (NT (RE (TR ?_)))
    refine NE [] .z (.k (.k (.k (.k (.i (.blk g1 28 [.int .i64 x.k, .int .i64 x.n, .string (mkS x.s)]) .z))))) [] (.bool true) ?_
    exact ⟨rfl, rfl⟩
  · obtain ⟨L, hL⟩ : ∃ L, L = l.foldl doneR [] := ⟨_, rfl⟩
    have hd := done_spec a c l hl hs
    rw [← hL] at hd
    have hu : usedO L ≤ 4096 := by rw [hL]; exact fold_used _ _ (by decide)
    have hll := len_used L
    have hcl : ∀ o ∈ L, o.2.length ≤ 1048576 := fun o ho => by have := used_cells ho; omega
    unfold heapB heapR heapS at hd
    refine fn_enter Tryz.func4 rfl 134 rfl fun w0 h0 => ?_
    refine SQ (RG ?_)
    refine RP [] (.d .a) 7 (.k (.k (.k .z))) .a 28 [.int .i64 x.k, .int .i64 x.n, .string (mkS x.s)] fun g1 => ?_
    refine RR [] .z (.i 8 (.bool false) .a) (.k (.k (.k (.k (.i (.blk g1 28 [.int .i64 x.k, .int .i64 x.n, .string (mkS x.s)]) .z))))) ?_
    refine RZ (NT (SQ (SQ (RG ?_))))
    refine RR [] .z (.i 18 (.bool (decide ((↑l.length : Int) > 60))) .a) (.k (.k (.k (.k (.i (.blk g1 28 [.int .i64 x.k, .int .i64 x.n, .string (mkS x.s)]) .z))))) ?_
    refine RZ (NT ?_)
    refine SC 18 (decide ((↑l.length : Int) > 60)) false (decide_eq_false (by omega)) ?_
    refine CF (SK (NT (SQ (RG ?_))))
    refine RR [] (.d .a) (.i 20 (.slice a l.length c) (.d (.d (.k (.k (.d (.k .a))))))) (.k (.k (.k (.k (.i (.blk g1 28 [.int .i64 x.k, .int .i64 x.n, .string (mkS x.s)]) .z))))) ?_
    refine RCG (dst := some 21) (.k (.k (.k (.k (.i (.blk g1 28 [.int .i64 x.k, .int .i64 x.n, .string (mkS x.s)]) .z))))) (hd) (GV (GV (GV (GI []) 2 view_ro) 1 view_self) 0 view_ro) ?_
    rintro v _ ⟨g, a1, c1, l1, hm1, rfl, rfl⟩
    refine RR [] .z (.i 9 (.pointer (some ⟨g, 0, none⟩)) (.d (.d (.k .a)))) (.i (.blk g 59 [.bool true, .int .i64 4096, .int .i64 (↑(usedO L) : Int), .slice a1 l1.length c1]) (.d (.k (.k (.k (.k (.k (.k (.i (.blk g1 28 [.int .i64 x.k, .int .i64 x.n, .string (mkS x.s)]) .z))))))))) ?_
    refine RZ (NT (SQ (SQ (RG ?_))))
    refine RR [] .z (.i 23 (.bool false) .a) (.i (.blk g 59 [.bool true, .int .i64 4096, .int .i64 (↑(usedO L) : Int), .slice a1 l1.length c1]) (.d (.k (.k (.k (.k (.k (.k (.i (.blk g1 28 [.int .i64 x.k, .int .i64 x.n, .string (mkS x.s)]) .z))))))))) ?_
    refine RZ (NT (CF (SK (NT (SQ (RG ?_))))))
    refine RR [] (.d .a) (.i 24 (.pointer (some ⟨g, 0, none⟩)) (.d (.k .a))) (.i (.blk g 59 [.bool true, .int .i64 4096, .int .i64 (↑(usedO L) : Int), .slice a1 l1.length c1]) (.d (.k (.k (.k (.k (.k (.k (.i (.blk g1 28 [.int .i64 x.k, .int .i64 x.n, .string (mkS x.s)]) .z))))))))) ?_
    have hA := All_o g 4096 (usedO L) a1 c1 l1 L hm1 (by omega) hcl
    unfold heapR heapS at hA
    refine RCG (dst := some 25) (.i (.blk g 59 [.bool true, .int .i64 4096, .int .i64 (↑(usedO L) : Int), .slice a1 l1.length c1]) (.d (.k (.k (.k (.k (.k (.k (.i (.blk g1 28 [.int .i64 x.k, .int .i64 x.n, .string (mkS x.s)]) .z))))))))) (hA) (GV (GV (GV (GI []) 2 view_gBag) 1 view_row) 0 (view_blk0 (by simp [Go.Sx.One, Value.oneCell']))) ?_
    rintro v _ ⟨a2, c2, l2, hm2, rfl, rfl⟩
    refine RR [] .z (.i 10 (.slice a2 l2.length c2) (.d (.d (.k .a)))) (.k (.k (.i (.blk g 59 [.bool true, .int .i64 4096, .int .i64 (↑(usedO L) : Int), .slice a1 l1.length c1]) (.d (.k (.k (.k (.k (.k (.k (.i (.blk g1 28 [.int .i64 x.k, .int .i64 x.n, .string (mkS x.s)]) .z))))))))))) ?_
    refine RZ (NT (SQ (SQ ?_)))
    refine wpc_draw (by kernel_rfl) [.blk g1 28 [.int .i64 x.k, .int .i64 x.n, .string (mkS x.s)]] (sub_of [9] (by kernel_rfl)) 7 (by kernel_rfl) ?_
    refine TK 3 [(0, []), (1, []), (3, []), (4, [0, 0, 0])] (.i 30 (.agg #[.int .i64 x.k, .int .i64 x.n, .string (mkS x.s)]) (.i 29 (.int .i64 i) (.i 27 (.int .i64 n) (.i 26 (.pointer (some ⟨g, 0, none⟩)) .a)))) (#[true, true, false, true, true, false, false]) ?_
    refine AC (dst := some 28) 2 2 (.k (.k (.i (.blk g 59 [.bool true, .int .i64 4096, .int .i64 (↑(usedO L) : Int), .slice a1 l1.length c1]) (.d (.k (.k (.k (.k (.k (.k (.i (.blk g1 28 [.int .i64 x.k, .int .i64 x.n, .string (mkS x.s)]) .z))))))))))) (at_spec n) (GI []) [9] ?_
    rintro v _ ⟨rfl, rfl⟩
    have hS := Set_o g 4096 a1 c1 l1 L hm1 (refV n) i x (by omega) (show ([] : List UInt8).length ≤ 1048576 from by decide) hx
    unfold heapB heapR heapS valV at hS
    dsimp only [refV] at hS
    obtain ⟨L', hL'⟩ : ∃ L', L' = (setR L ⟨4, n, []⟩ i x).1 := ⟨_, rfl⟩
    obtain ⟨e', he'⟩ : ∃ e', e' = (setR L ⟨4, n, []⟩ i x).2 := ⟨_, rfl⟩
    rw [← hL', ← he'] at hS
    refine AC (dst := some 31) 1 5 (.k (.k (.d (.d (.d (.k (.k (.k (.k (.i (.blk g1 28 [.int .i64 x.k, .int .i64 x.n, .string (mkS x.s)]) .z)))))))))) (hS) (GI [2, 2, 2]) [6] ?_
    rintro v _ ⟨rfl, a3, c3, l3, hm3, rfl⟩
    have hu' : usedO L' = usedO L := by rw [hL', setR_used]
    have hlen' : L'.length = L.length := by rw [hL', setR_len]
    have hcl' : ∀ o ∈ L', o.2.length ≤ 1048576 := fun o ho => by have := used_cells ho; omega
    have hl2 : l2.length = L.length := by rw [← hm2, List.length_map]
    have hl3 : l3.length = L.length := by rw [← hlen', ← hm3, List.length_map]
    have hA3 := All_o g 4096 (usedO L') a3 c3 l3 L' hm3 (by omega) hcl'
    unfold heapR heapS at hA3
    by_cases h0 : e' = 0
    · subst h0
      have hok := setR_ok he'.symm
      refine TK 0 [(6, [])] (.i 32 (.bool false) (.d (.d (.d (.d (.d (.d (.k .a)))))))) (#[true, true, true, true, true, true, true]) ?_
      refine wpa_done 0 (by kernel_rfl) ?_
      refine NT (CF (SK (NT (SQ (RG ?_)))))
      refine RR [] (.d .a) (.i 40 (.pointer (some ⟨g, 0, none⟩)) (.d (.k .a))) (.i (.blk g 59 [.bool true, .int .i64 4096, .int .i64 (↑(usedO L') : Int), .slice a3 l3.length c3]) (.d (.k (.k (.k (.k (.k (.k (.k (.k (.i (.blk g1 28 [.int .i64 x.k, .int .i64 x.n, .string (mkS x.s)]) .z))))))))))) ?_
      refine RCG (dst := some 41) (.i (.blk g 59 [.bool true, .int .i64 4096, .int .i64 (↑(usedO L') : Int), .slice a3 l3.length c3]) (.d (.k (.k (.k (.k (.k (.k (.k (.k (.i (.blk g1 28 [.int .i64 x.k, .int .i64 x.n, .string (mkS x.s)]) .z))))))))))) (hA3) (GV (GV (GV (GI []) 2 view_gBag) 1 view_row) 0 (view_blk0 (by simp [Go.Sx.One, Value.oneCell']))) ?_
      rintro v _ ⟨a4, c4, l4, hm4, rfl, rfl⟩
      refine RR [] .z (.i 11 (.slice a4 l4.length c4) (.d (.d (.k .a)))) (.k (.k (.i (.blk g 59 [.bool true, .int .i64 4096, .int .i64 (↑(usedO L') : Int), .slice a3 l3.length c3]) (.d (.k (.k (.k (.k (.k (.k (.k (.k (.i (.blk g1 28 [.int .i64 x.k, .int .i64 x.n, .string (mkS x.s)]) .z))))))))))))) ?_
      refine RZ (NT (SQ (RG ?_)))
      refine RR [] (.d (.d .a)) (.i 44 (.int .i64 n) (.i 43 (.pointer (some ⟨g, 0, none⟩)) (.k (.k (.d (.k .a)))))) (.k (.k (.i (.blk g 59 [.bool true, .int .i64 4096, .int .i64 (↑(usedO L') : Int), .slice a3 l3.length c3]) (.d (.k (.k (.k (.k (.k (.k (.k (.k (.i (.blk g1 28 [.int .i64 x.k, .int .i64 x.n, .string (mkS x.s)]) .z))))))))))))) ?_
      have hl4 : l4.length = L.length := by rw [← hlen', ← hm4, List.length_map]
      have hG := Get_o g 4096 a3 c3 l3 L' hm3 (refV n) i (by omega) (show ([] : List UInt8).length ≤ 1048576 from by decide)
      unfold heapB heapR heapS valV at hG
      dsimp only [refV] at hG
      rw [show getR L' ⟨4, n, []⟩ i = (x, 0) from by rw [hL']; exact set_get he'.symm] at hG
      refine RC (dst := some 45) [] (.k (.k (.i (.blk g 59 [.bool true, .int .i64 4096, .int .i64 (↑(usedO L') : Int), .slice a3 l3.length c3]) (.d (.k (.k (.k (.k (.k (.k (.k (.k (.i (.blk g1 28 [.int .i64 x.k, .int .i64 x.n, .string (mkS x.s)]) .z))))))))))))) (at_spec n) ?_
      rintro v _ ⟨rfl, rfl⟩
      refine RR [] (.d .a) (.i 46 (.int .i64 i) (.k (.d (.k .a)))) (.k (.k (.i (.blk g 59 [.bool true, .int .i64 4096, .int .i64 (↑(usedO L') : Int), .slice a3 l3.length c3]) (.d (.k (.k (.k (.k (.k (.k (.k (.k (.i (.blk g1 28 [.int .i64 x.k, .int .i64 x.n, .string (mkS x.s)]) .z))))))))))))) ?_
      refine RC (dst := some 47) [2, 2, 2] (.k (.k (.d (.d (.d (.k (.k (.k (.k (.k (.k (.i (.blk g1 28 [.int .i64 x.k, .int .i64 x.n, .string (mkS x.s)]) .z)))))))))))) (hG) ?_
      rintro v _ ⟨rfl, rfl⟩
      refine RP [] (.d (.d (.d (.d .a)))) 12 (.i 49 (.int .i64 0) (.i 48 (.agg #[.int .i64 x.k, .int .i64 x.n, .string (mkS x.s)]) (.d (.d (.d (.d (.k .a))))))) (.i (.blk g 59 [.bool true, .int .i64 4096, .int .i64 (↑(usedO L') : Int), .slice a3 l3.length c3]) (.d (.k (.k (.k (.k (.k (.k (.k (.k (.k (.k (.i (.blk g1 28 [.int .i64 x.k, .int .i64 x.n, .string (mkS x.s)]) .z))))))))))))) 28 [.int .i64 0, .int .i64 0, .string ⟨#[]⟩] fun g2 => ?_
      refine RR [12, 12, 12] .z (.i 13 (.int .i64 0) (.k (.d (.d (.k .a))))) (.i (.blk g 59 [.bool true, .int .i64 4096, .int .i64 (↑(usedO L') : Int), .slice a3 l3.length c3]) (.d (.k (.k (.k (.k (.k (.k (.k (.k (.k (.k (.i (.blk g1 28 [.int .i64 x.k, .int .i64 x.n, .string (mkS x.s)]) (.i (.blk g2 28 [.int .i64 x.k, .int .i64 x.n, .string (mkS x.s)]) .z)))))))))))))) ?_
      refine RZ (NT (SQ (SQ (RG ?_))))
      refine RR [12, 12, 12, 11, 11, 11] (.d (.d .a)) (.i 51 (.agg #[.int .i64 x.k, .int .i64 x.n, .string (mkS x.s)]) (.i 50 (.agg #[.int .i64 x.k, .int .i64 x.n, .string (mkS x.s)]) (.k (.d (.k (.k (.k (.d (.k .a))))))))) (.i (.blk g 59 [.bool true, .int .i64 4096, .int .i64 (↑(usedO L') : Int), .slice a3 l3.length c3]) (.d (.k (.k (.k (.k (.k (.k (.k (.k (.k (.k (.i (.blk g1 28 [.int .i64 x.k, .int .i64 x.n, .string (mkS x.s)]) (.i (.blk g2 28 [.int .i64 x.k, .int .i64 x.n, .string (mkS x.s)]) .z)))))))))))))) ?_
      refine wpr_eqc_same (b := false) (t := 28) (xs := (valC x)) (dst := some 52) (by kernel_rfl) (by kernel_rfl) ?_
      refine RR [] .z (.i 63 (.bool ((↑l4.length : Int) != (↑l2.length : Int))) (.d (.d (.d (.d (.k .a)))))) (.i (.blk g 59 [.bool true, .int .i64 4096, .int .i64 (↑(usedO L') : Int), .slice a3 l3.length c3]) (.d (.k (.k (.k (.k (.k (.k (.k (.k (.k (.k (.i (.blk g1 28 [.int .i64 x.k, .int .i64 x.n, .string (mkS x.s)]) (.i (.blk g2 28 [.int .i64 x.k, .int .i64 x.n, .string (mkS x.s)]) .z)))))))))))))) ?_
      refine RZ (NT ?_)
      refine SC 63 ((↑l4.length : Int) != (↑l2.length : Int)) false (by simp only [bne_eq_false_iff_eq, beq_eq_false_iff_ne, ne_eq]; omega) ?_
      refine CF (SK (NT (SQ (SQ (RG ?_)))))
      refine RR [] .z (.i 14 (.int .i64 0) (.d (.d (.k .a)))) (.i (.blk g 59 [.bool true, .int .i64 4096, .int .i64 (↑(usedO L') : Int), .slice a3 l3.length c3]) (.d (.k (.k (.k (.k (.k (.k (.k (.k (.k (.k (.i (.blk g1 28 [.int .i64 x.k, .int .i64 x.n, .string (mkS x.s)]) (.i (.blk g2 28 [.int .i64 x.k, .int .i64 x.n, .string (mkS x.s)]) .z)))))))))))))) ?_
      refine RZ (NT (BK ?_))
      refine wpc_ent (ent_turn 3 (ro a4 (l4.flatMap objC)) rfl (turn_view view_row) rfl) ?_
      refine wpc_ent (ent_turn 4 (gBag l4) rfl (turn_view view_gBag) rfl) ?_
      refine wpc_ent (ent_turn 5 (ro a2 (l2.flatMap objC)) rfl (turn_view view_row) rfl) ?_
      refine wpc_ent (ent_turn 6 (gBag l2) rfl (turn_view view_gBag) rfl) ?_
      refine wpc_loop (X := {k : Nat // k ≤ l2.length}) (fun y => St.mk [(14, .int .i64 (y.1 : Int)), (11, .slice a4 l4.length c4), (10, .slice a2 l2.length c2), (8, .bool false), (1, .int .i64 n), (2, .int .i64 i)] [ro a4 (l4.flatMap objC), gBag l4, ro a2 (l2.flatMap objC), gBag l2, gWords, gPow]) (fun y => l2.length - y.1) ⟨0, Nat.zero_le _⟩ ?_ ?_
      · exact Ent.trans (ent_hp [3, 3, 3, 3, 5, 5] rfl) (ent_fr (by kernel_rfl))
      rintro ⟨k, hk⟩
      dsimp only at hk ⊢
      by_cases hlt : k < l2.length
      · have hlt4 : k < l4.length := by omega
        have hso := set_other (v := ⟨4, n, []⟩) (i := i) (x := x) (L := L) he'.symm (k := k) (o := l2[k].o) (o' := l4[k].o) (by rw [← hm2, List.getElem?_map, List.getElem?_eq_getElem hlt]; rfl) (by rw [← hL', ← hm4, List.getElem?_map, List.getElem?_eq_getElem hlt4]; rfl)
        have htag : l4[k].tag = l2[k].tag := hso.1
        have hcb := obs_cl hm2 hcl l2[k] (List.getElem_mem hlt)
        have hcle : l4[k].cells.length = l2[k].cells.length := hso.2.1
        refine wpc_fact (fun w h => ro_addr h 0 rfl (by rw [objs_len]; omega)) ?_
        rintro ⟨g4, o4, rfl⟩
        refine wpc_fact (fun w h => ro_addr h 2 rfl (by rw [objs_len]; omega)) ?_
        rintro ⟨g2, o2, rfl⟩
        refine SQ (SQ (RG ?_))
        refine RR [] .z (.i 67 (.bool (decide ((↑k : Int) < (↑l2.length : Int)))) .a) .a ?_
        refine RZ (NT ?_)
        refine SC 67 (decide ((↑k : Int) < (↑l2.length : Int))) true (decide_eq_true (by omega)) ?_
        refine CT (SK (NT (SQ (BK (SQ (SQ ?_))))))
        refine wpc_draw (by kernel_rfl) [ro (some ⟨g4, o4, none⟩) (List.flatMap objC l4), ro (some ⟨g2, o2, none⟩) (List.flatMap objC l2)] (sub_of [0, 2] (by kernel_rfl)) 26 (by kernel_rfl) ?_
        refine wpa_take true [(0, []), (1, []), (2, []), (3, []), (5, []), (6, []), (7, []), (8, [])] ([(78, .pointer (some ⟨g2, o2 + k * 2, none⟩)), (73, .pointer (some ⟨g4, o4 + k * 2, none⟩)), (14, .int .i64 (↑k : Int)), (11, .slice (some ⟨g4, o4, none⟩) l4.length c4), (10, .slice (some ⟨g2, o2, none⟩) l2.length c2), (8, .bool false), (1, .int .i64 n), (2, .int .i64 i)]) (#[true, true, true, true, false, true, true, true, true, false, false, false, false, false, false, false, false, false, false, false, false, false, false, false, false, false]) [(0 : Int) ≤ (↑k : Int) ∧ (↑k : Int) < (↑l4.length : Int), (0 : Int) ≤ (↑k : Int) ∧ (↑k : Int) < (↑l2.length : Int)] (n := 18) (by kernel_rfl) (by kernel_rfl) (by kernel_rfl) ⟨by first | omega | decide | (simp; done), by first | omega | decide | (simp; done), trivial⟩ ?_
        refine wpa_qld (i := 4) (n := 17) (by kernel_rfl) (by kernel_rfl) (by kernel_rfl) (t := 9) (a := ⟨g4, o4 + k * 2, none⟩) (dst := some 74) (by kernel_rfl) false 1 (by kernel_rfl) (by simp) [.string (mkS l4[k].tag)] rfl (fun w h => ld_roL h 0 rfl (k * 2 + 0) (obj_fld hlt4 0 1 (by decide))) ?_
        refine wpa_qld (i := 9) (n := 16) (by kernel_rfl) (by kernel_rfl) (by kernel_rfl) (t := 9) (a := ⟨g2, o2 + k * 2, none⟩) (dst := some 79) (by kernel_rfl) false 1 (by kernel_rfl) (by simp) [.string (mkS l2[k].tag)] rfl (fun w h => ld_roL h 1 rfl (k * 2 + 0) (obj_fld hlt 0 1 (by decide))) ?_
        refine TK 14 [(10, []), (11, [])] (.i 81 (.bool !decide (l4[k].tag = l2[k].tag)) (.d (.d (.d (.d (.k .a)))))) (#[true, true, true, true, true, true, true, true, true, true, true, true, false, false, false, false, false, false, false, false, false, false, false, false, false, false]) ?_
        refine SA 81 (!decide (l4[k].tag = l2[k].tag)) false (by simp; omega) ?_
        refine wpa_take true [(12, []), (13, []), (14, []), (15, []), (18, []), (19, []), (20, []), (21, [])] ([(91, .pointer (some ⟨g2, o2 + k * 2 + 1, none⟩)), (85, .pointer (some ⟨g4, o4 + k * 2 + 1, none⟩)), (81, .bool false), (14, .int .i64 (↑k : Int)), (11, .slice (some ⟨g4, o4, none⟩) l4.length c4), (10, .slice (some ⟨g2, o2, none⟩) l2.length c2), (8, .bool false), (1, .int .i64 n), (2, .int .i64 i)]) (#[true, true, true, true, true, true, true, true, true, true, true, true, true, true, true, true, false, false, true, true, true, true, false, false, false, false]) [(0 : Int) ≤ (↑k : Int) ∧ (↑k : Int) < (↑l4.length : Int), (0 : Int) ≤ (↑k : Int) ∧ (↑k : Int) < (↑l2.length : Int)] (n := 6) (by kernel_rfl) (by kernel_rfl) (by kernel_rfl) ⟨by first | omega | decide | (simp; done), by first | omega | decide | (simp; done), trivial⟩ ?_
        refine wpa_qld (i := 16) (n := 5) (by kernel_rfl) (by kernel_rfl) (by kernel_rfl) (t := 25) (a := ⟨g4, o4 + k * 2 + 1, none⟩) (dst := some 86) (by kernel_rfl) false 1 (by kernel_rfl) (by simp) [.slice l4[k].a l4[k].cells.length l4[k].c] rfl (fun w h => ld_roL h 0 rfl (k * 2 + 1) (obj_fld hlt4 1 1 (by decide))) ?_
        refine wpa_qld (i := 22) (n := 4) (by kernel_rfl) (by kernel_rfl) (by kernel_rfl) (t := 25) (a := ⟨g2, o2 + k * 2 + 1, none⟩) (dst := some 92) (by kernel_rfl) false 1 (by kernel_rfl) (by simp) [.slice l2[k].a l2[k].cells.length l2[k].c] rfl (fun w h => ld_roL h 1 rfl (k * 2 + 1) (obj_fld hlt 1 1 (by decide))) ?_
        refine TK 0 [(17, []), (23, []), (24, []), (25, [])] (.i 95 (.bool ((↑l4[k].cells.length : Int) != (↑l2[k].cells.length : Int))) (.d (.d (.d (.d (.d (.k .a))))))) (#[true, true, true, true, true, true, true, true, true, true, true, true, true, true, true, true, true, true, true, true, true, true, true, true, true, true]) ?_
        refine wpa_done 0 (by kernel_rfl) ?_
        refine NT ?_
        refine SC 95 ((↑l4[k].cells.length : Int) != (↑l2[k].cells.length : Int)) false (by simp only [bne_eq_false_iff_eq, beq_eq_false_iff_ne, ne_eq]; omega) ?_
        refine CF (SK (NT (SQ (RG ?_))))
        refine RR [] .z (.i 15 (.int .i64 0) (.d (.d (.k .a)))) .a ?_
        refine RZ (NT (BK ?_))
        refine wpc_loop (X := {j : Nat // j ≤ l2[k].cells.length}) (fun y => St.mk [(15, .int .i64 (y.1 : Int)), (14, .int .i64 (k : Int)), (11, .slice (some ⟨g4, o4, none⟩) l4.length c4), (10, .slice (some ⟨g2, o2, none⟩) l2.length c2), (8, .bool false), (1, .int .i64 n), (2, .int .i64 i)] [ro (some ⟨g4, o4, none⟩) (l4.flatMap objC), gBag l4, ro (some ⟨g2, o2, none⟩) (l2.flatMap objC), gBag l2, gWords, gPow]) (fun y => l2[k].cells.length - y.1) ⟨0, Nat.zero_le _⟩ (ent_fr (by kernel_rfl)) ?_
        rintro ⟨j, hj⟩
        dsimp only at hj ⊢
        by_cases hjt : j < l2[k].cells.length
        · have hjt4 : j < l4[k].cells.length := by omega
          refine wpc_fact (fun w h => bag_addr h 1 rfl (obRo_in hlt4) (by rw [vals_len]; omega)) ?_
          rintro ⟨g5, o5, ha4⟩
          refine wpc_fact (fun w h => bag_addr h 3 rfl (obRo_in hlt) (by rw [vals_len]; omega)) ?_
          rintro ⟨g6, o6, ha2⟩
          refine SQ (SQ (RG ?_))
          refine RV true [] (.d (.d (.d (.d (.d .a))))) (.i 100 (.pointer (some ⟨g2, o2 + k * 2 + 1, none⟩)) (.i 96 (.int .i64 (↑j : Int)) .a)) .a [(0 : Int) ≤ (↑k : Int) ∧ (↑k : Int) < (↑l2.length : Int)] ⟨by first | omega | decide | (simp; done), trivial⟩ ?_
          refine wpr_eq (ld (t := 25) (a := ⟨g2, o2 + k * 2 + 1, none⟩) (dst := some 101) (by kernel_rfl) false 1 (by kernel_rfl) (by simp) [.slice l2[k].a l2[k].cells.length l2[k].c] rfl (fun w h => ld_ro h 2 rfl (k * 2 + 1) (obj_fld hlt 1 1 (by decide)))) ?_
          by_cases hkn : (k : Int) = n
          · by_cases hji : (j : Int) = i
            · refine RR [] .z (.i 103 (.bool (decide ((↑j : Int) < (↑l2[k].cells.length : Int)))) (.d (.d (.d (.k .a))))) .a ?_
              refine RZ (NT ?_)
              refine SC 103 (decide ((↑j : Int) < (↑l2[k].cells.length : Int))) true (decide_eq_true (by omega)) ?_
              refine CT (SK (NT (SQ (BK (SQ ?_)))))
              refine wpc_draw (by kernel_rfl) [ro (some ⟨g4, o4, none⟩) (List.flatMap objC l4), gBag l4, ro (some ⟨g2, o2, none⟩) (List.flatMap objC l2), gBag l2] (sub_of [0, 1, 2, 3] (by kernel_rfl)) 27 (by kernel_rfl) ?_
              refine TK 23 [(0, []), (1, []), (2, []), (3, [])] (.i 109 (.bool ((↑k : Int) != n)) (.d (.d (.k .a)))) (#[true, true, true, true, false, false, false, false, false, false, false, false, false, false, false, false, false, false, false, false, false, false, false, false, false, false, false]) ?_
              refine SA 109 ((↑k : Int) != n) false (by simp only [bne_eq_false_iff_eq, beq_eq_false_iff_ne, ne_eq]; omega) ?_
              refine TK 18 [(4, []), (5, []), (6, []), (7, []), (8, [])] (.i 114 (.bool ((↑j : Int) != i)) (.d (.d (.k .a)))) (#[true, true, true, true, true, true, true, true, true, false, false, false, false, false, false, false, false, false, false, false, false, false, false, false, false, false, false]) ?_
              refine SA 114 ((↑j : Int) != i) false (by simp only [bne_eq_false_iff_eq, beq_eq_false_iff_ne, ne_eq]; omega) ?_
              refine TK 0 [(9, []), (10, []), (11, []), (12, []), (13, []), (14, []), (15, []), (16, []), (17, []), (18, []), (19, []), (20, []), (21, []), (22, []), (23, []), (24, []), (25, []), (26, [])] (.i 132 (.bool false) (.d (.d (.k .a)))) (#[true, true, true, true, true, true, true, true, true, true, true, true, true, true, true, true, true, true, true, true, true, true, true, true, true, true, true]) ?_
              refine wpa_done 0 (by kernel_rfl) ?_
              refine NT (CF (SK (BN (NT (RG ?_)))))
              refine RV true [] .z (.i 15 (.int .i64 ((↑j : Int) + 1)) (.d (.d (.k .a)))) .a ([inI64 ((↑j : Int) + (1 : Int))]) ⟨by unfold inI64; omega, trivial⟩ ?_
              refine RZ ?_
              exact fun a' w' hS' => ⟨⟨j + 1, hjt⟩, by dsimp only; omega, ent_fr (by kernel_rfl) _ _ (ent_hp [0, 0, 0, 0, 0, 0] rfl _ _ hS')⟩
            · have hval := hso.2.2 j l2[k].cells[j] l4[k].cells[j] (List.getElem?_eq_getElem hjt) (List.getElem?_eq_getElem hjt4) (.inr hji)
              refine RR [] .z (.i 103 (.bool (decide ((↑j : Int) < (↑l2[k].cells.length : Int)))) (.d (.d (.d (.k .a))))) .a ?_
              refine RZ (NT ?_)
              refine SC 103 (decide ((↑j : Int) < (↑l2[k].cells.length : Int))) true (decide_eq_true (by omega)) ?_
              refine CT (SK (NT (SQ (BK (SQ ?_)))))
              refine wpc_draw (by kernel_rfl) [ro (some ⟨g4, o4, none⟩) (List.flatMap objC l4), gBag l4, ro (some ⟨g2, o2, none⟩) (List.flatMap objC l2), gBag l2] (sub_of [0, 1, 2, 3] (by kernel_rfl)) 27 (by kernel_rfl) ?_
              refine TK 23 [(0, []), (1, []), (2, []), (3, [])] (.i 109 (.bool ((↑k : Int) != n)) (.d (.d (.k .a)))) (#[true, true, true, true, false, false, false, false, false, false, false, false, false, false, false, false, false, false, false, false, false, false, false, false, false, false, false]) ?_
              refine SA 109 ((↑k : Int) != n) false (by simp only [bne_eq_false_iff_eq, beq_eq_false_iff_ne, ne_eq]; omega) ?_
              refine TK 18 [(4, []), (5, []), (6, []), (7, []), (8, [])] (.i 114 (.bool ((↑j : Int) != i)) (.d (.d (.k .a)))) (#[true, true, true, true, true, true, true, true, true, false, false, false, false, false, false, false, false, false, false, false, false, false, false, false, false, false, false]) ?_
              refine SA 114 ((↑j : Int) != i) true (by simp only [bne_iff_ne, beq_iff_eq, ne_eq]; omega) ?_
              refine wpa_take true [(9, []), (10, []), (11, []), (12, []), (14, []), (17, []), (18, []), (19, []), (20, []), (22, [])] ([(128, .int .i64 (↑j : Int)), (126, .pointer (some ⟨g2, o2 + k * 2 + 1, none⟩)), (120, .int .i64 (↑j : Int)), (118, .pointer (some ⟨g4, o4 + k * 2 + 1, none⟩)), (114, .bool true), (15, .int .i64 (↑j : Int)), (14, .int .i64 (↑k : Int)), (11, .slice (some ⟨g4, o4, none⟩) l4.length c4), (10, .slice (some ⟨g2, o2, none⟩) l2.length c2), (8, .bool false), (1, .int .i64 n), (2, .int .i64 i)]) (#[true, true, true, true, true, true, true, true, true, true, true, true, true, false, true, false, false, true, true, true, true, false, true, false, false, false, false]) [(0 : Int) ≤ (↑k : Int) ∧ (↑k : Int) < (↑l4.length : Int), (0 : Int) ≤ (↑k : Int) ∧ (↑k : Int) < (↑l2.length : Int)] (n := 8) (by kernel_rfl) (by kernel_rfl) (by kernel_rfl) ⟨by first | omega | decide | (simp; done), by first | omega | decide | (simp; done), trivial⟩ ?_
              refine wpa_qld (i := 13) (n := 7) (by kernel_rfl) (by kernel_rfl) (by kernel_rfl) (t := 25) (a := ⟨g4, o4 + k * 2 + 1, none⟩) (dst := some 119) (by kernel_rfl) false 1 (by kernel_rfl) (by simp) [.slice l4[k].a l4[k].cells.length l4[k].c] rfl (fun w h => ld_roL h 0 rfl (k * 2 + 1) (obj_fld hlt4 1 1 (by decide))) ?_
              refine wpa_qld (i := 21) (n := 6) (by kernel_rfl) (by kernel_rfl) (by kernel_rfl) (t := 25) (a := ⟨g2, o2 + k * 2 + 1, none⟩) (dst := some 127) (by kernel_rfl) false 1 (by kernel_rfl) (by simp) [.slice l2[k].a l2[k].cells.length l2[k].c] rfl (fun w h => ld_roL h 2 rfl (k * 2 + 1) (obj_fld hlt 1 1 (by decide))) ?_
              rw [ha4, ha2]
              refine wpa_take true [(15, []), (23, [])] ([(129, .pointer (some ⟨g6, o6 + j * 3, none⟩)), (121, .pointer (some ⟨g5, o5 + j * 3, none⟩)), (114, .bool true), (15, .int .i64 (↑j : Int)), (14, .int .i64 (↑k : Int)), (11, .slice (some ⟨g4, o4, none⟩) l4.length c4), (10, .slice (some ⟨g2, o2, none⟩) l2.length c2), (8, .bool false), (1, .int .i64 n), (2, .int .i64 i)]) (#[true, true, true, true, true, true, true, true, true, true, true, true, true, true, true, true, false, true, true, true, true, true, true, true, false, false, false]) [(0 : Int) ≤ (↑j : Int) ∧ (↑j : Int) < (↑l4[k].cells.length : Int), (0 : Int) ≤ (↑j : Int) ∧ (↑j : Int) < (↑l2[k].cells.length : Int)] (n := 4) (by kernel_rfl) (by kernel_rfl) (by kernel_rfl) ⟨by first | omega | decide | (simp; done), by first | omega | decide | (simp; done), trivial⟩ ?_
              refine wpa_qld (i := 16) (n := 3) (by kernel_rfl) (by kernel_rfl) (by kernel_rfl) (t := 28) (a := ⟨g5, o5 + j * 3, none⟩) (dst := some 122) (by kernel_rfl) true 3 (by kernel_rfl) (by simp) (valC l4[k].cells[j]) rfl (fun w h => ld_bagL h 1 rfl (ha4 ▸ obRo_in hlt4) (j * 3) (vals_at hjt4)) ?_
              refine wpa_qld (i := 24) (n := 2) (by kernel_rfl) (by kernel_rfl) (by kernel_rfl) (t := 28) (a := ⟨g6, o6 + j * 3, none⟩) (dst := some 130) (by kernel_rfl) true 3 (by kernel_rfl) (by simp) (valC l2[k].cells[j]) rfl (fun w h => ld_bagL h 3 rfl (ha2 ▸ obRo_in hlt) (j * 3) (vals_at hjt)) ?_
              rw [hval]
              refine wpa_eqc_same (i := 25) (n := 1) (by kernel_rfl) (b := false) (t := 28) (xs := (valC l2[k].cells[j])) (dst := some 131) (by kernel_rfl) (by kernel_rfl) (sub_of [0, 1, 2, 3] (by kernel_rfl)) ?_
              refine TK 0 [(26, [])] (.i 132 (.bool false) (.d (.d (.d (.d (.d (.d (.k .a)))))))) (#[true, true, true, true, true, true, true, true, true, true, true, true, true, true, true, true, true, true, true, true, true, true, true, true, true, true, true]) ?_
              refine wpa_done 0 (by kernel_rfl) ?_
              refine NT (CF (SK (BN (NT (RG ?_)))))
              refine RV true [] .z (.i 15 (.int .i64 ((↑j : Int) + 1)) (.d (.d (.k .a)))) .a ([inI64 ((↑j : Int) + (1 : Int))]) ⟨by unfold inI64; omega, trivial⟩ ?_
              refine RZ ?_
              exact fun a' w' hS' => ⟨⟨j + 1, hjt⟩, by dsimp only; omega, ent_fr (by kernel_rfl) _ _ (ent_hp [0, 0, 0, 0, 0, 0] rfl _ _ hS')⟩
          · have hval := hso.2.2 j l2[k].cells[j] l4[k].cells[j] (List.getElem?_eq_getElem hjt) (List.getElem?_eq_getElem hjt4) (.inl hkn)
            refine RR [] .z (.i 103 (.bool (decide ((↑j : Int) < (↑l2[k].cells.length : Int)))) (.d (.d (.d (.k .a))))) .a ?_
            refine RZ (NT ?_)
            refine SC 103 (decide ((↑j : Int) < (↑l2[k].cells.length : Int))) true (decide_eq_true (by omega)) ?_
            refine CT (SK (NT (SQ (BK (SQ ?_)))))
            refine wpc_draw (by kernel_rfl) [ro (some ⟨g4, o4, none⟩) (List.flatMap objC l4), gBag l4, ro (some ⟨g2, o2, none⟩) (List.flatMap objC l2), gBag l2] (sub_of [0, 1, 2, 3] (by kernel_rfl)) 27 (by kernel_rfl) ?_
            refine TK 23 [(0, []), (1, []), (2, []), (3, [])] (.i 109 (.bool ((↑k : Int) != n)) (.d (.d (.k .a)))) (#[true, true, true, true, false, false, false, false, false, false, false, false, false, false, false, false, false, false, false, false, false, false, false, false, false, false, false]) ?_
            refine SA 109 ((↑k : Int) != n) true (by simp only [bne_iff_ne, beq_iff_eq, ne_eq]; omega) ?_
            refine wpa_take true [(4, []), (5, []), (6, []), (7, []), (8, []), (9, []), (10, []), (11, []), (12, []), (14, []), (17, []), (18, []), (19, []), (20, []), (22, [])] ([(128, .int .i64 (↑j : Int)), (126, .pointer (some ⟨g2, o2 + k * 2 + 1, none⟩)), (120, .int .i64 (↑j : Int)), (118, .pointer (some ⟨g4, o4 + k * 2 + 1, none⟩)), (114, .bool true), (15, .int .i64 (↑j : Int)), (14, .int .i64 (↑k : Int)), (11, .slice (some ⟨g4, o4, none⟩) l4.length c4), (10, .slice (some ⟨g2, o2, none⟩) l2.length c2), (8, .bool false), (1, .int .i64 n), (2, .int .i64 i)]) (#[true, true, true, true, true, true, true, true, true, true, true, true, true, false, true, false, false, true, true, true, true, false, true, false, false, false, false]) [(0 : Int) ≤ (↑k : Int) ∧ (↑k : Int) < (↑l4.length : Int), (0 : Int) ≤ (↑k : Int) ∧ (↑k : Int) < (↑l2.length : Int)] (n := 8) (by kernel_rfl) (by kernel_rfl) (by kernel_rfl) ⟨by first | omega | decide | (simp; done), by first | omega | decide | (simp; done), trivial⟩ ?_
            refine wpa_qld (i := 13) (n := 7) (by kernel_rfl) (by kernel_rfl) (by kernel_rfl) (t := 25) (a := ⟨g4, o4 + k * 2 + 1, none⟩) (dst := some 119) (by kernel_rfl) false 1 (by kernel_rfl) (by simp) [.slice l4[k].a l4[k].cells.length l4[k].c] rfl (fun w h => ld_roL h 0 rfl (k * 2 + 1) (obj_fld hlt4 1 1 (by decide))) ?_
            refine wpa_qld (i := 21) (n := 6) (by kernel_rfl) (by kernel_rfl) (by kernel_rfl) (t := 25) (a := ⟨g2, o2 + k * 2 + 1, none⟩) (dst := some 127) (by kernel_rfl) false 1 (by kernel_rfl) (by simp) [.slice l2[k].a l2[k].cells.length l2[k].c] rfl (fun w h => ld_roL h 2 rfl (k * 2 + 1) (obj_fld hlt 1 1 (by decide))) ?_
            rw [ha4, ha2]
            refine wpa_take true [(15, []), (23, [])] ([(129, .pointer (some ⟨g6, o6 + j * 3, none⟩)), (121, .pointer (some ⟨g5, o5 + j * 3, none⟩)), (114, .bool true), (15, .int .i64 (↑j : Int)), (14, .int .i64 (↑k : Int)), (11, .slice (some ⟨g4, o4, none⟩) l4.length c4), (10, .slice (some ⟨g2, o2, none⟩) l2.length c2), (8, .bool false), (1, .int .i64 n), (2, .int .i64 i)]) (#[true, true, true, true, true, true, true, true, true, true, true, true, true, true, true, true, false, true, true, true, true, true, true, true, false, false, false]) [(0 : Int) ≤ (↑j : Int) ∧ (↑j : Int) < (↑l4[k].cells.length : Int), (0 : Int) ≤ (↑j : Int) ∧ (↑j : Int) < (↑l2[k].cells.length : Int)] (n := 4) (by kernel_rfl) (by kernel_rfl) (by kernel_rfl) ⟨by first | omega | decide | (simp; done), by first | omega | decide | (simp; done), trivial⟩ ?_
            refine wpa_qld (i := 16) (n := 3) (by kernel_rfl) (by kernel_rfl) (by kernel_rfl) (t := 28) (a := ⟨g5, o5 + j * 3, none⟩) (dst := some 122) (by kernel_rfl) true 3 (by kernel_rfl) (by simp) (valC l4[k].cells[j]) rfl (fun w h => ld_bagL h 1 rfl (ha4 ▸ obRo_in hlt4) (j * 3) (vals_at hjt4)) ?_
            refine wpa_qld (i := 24) (n := 2) (by kernel_rfl) (by kernel_rfl) (by kernel_rfl) (t := 28) (a := ⟨g6, o6 + j * 3, none⟩) (dst := some 130) (by kernel_rfl) true 3 (by kernel_rfl) (by simp) (valC l2[k].cells[j]) rfl (fun w h => ld_bagL h 3 rfl (ha2 ▸ obRo_in hlt) (j * 3) (vals_at hjt)) ?_
            rw [hval]
            refine wpa_eqc_same (i := 25) (n := 1) (by kernel_rfl) (b := false) (t := 28) (xs := (valC l2[k].cells[j])) (dst := some 131) (by kernel_rfl) (by kernel_rfl) (sub_of [0, 1, 2, 3] (by kernel_rfl)) ?_
            refine TK 0 [(26, [])] (.i 132 (.bool false) (.d (.d (.d (.d (.d (.d (.k .a)))))))) (#[true, true, true, true, true, true, true, true, true, true, true, true, true, true, true, true, true, true, true, true, true, true, true, true, true, true, true]) ?_
            refine wpa_done 0 (by kernel_rfl) ?_
            refine NT (CF (SK (BN (NT (RG ?_)))))
            refine RV true [] .z (.i 15 (.int .i64 ((↑j : Int) + 1)) (.d (.d (.k .a)))) .a ([inI64 ((↑j : Int) + (1 : Int))]) ⟨by unfold inI64; omega, trivial⟩ ?_
            refine RZ ?_
            exact fun a' w' hS' => ⟨⟨j + 1, hjt⟩, by dsimp only; omega, ent_fr (by kernel_rfl) _ _ (ent_hp [0, 0, 0, 0, 0, 0] rfl _ _ hS')⟩
        · obtain rfl : j = l2[k].cells.length := by omega
          refine SQ (SQ (RG ?_))
          refine RV true [] (.d (.d (.d (.d (.d .a))))) (.i 100 (.pointer (some ⟨g2, o2 + k * 2 + 1, none⟩)) (.i 96 (.int .i64 (↑l2[k].cells.length : Int)) .a)) .a [(0 : Int) ≤ (↑k : Int) ∧ (↑k : Int) < (↑l2.length : Int)] ⟨by first | omega | decide | (simp; done), trivial⟩ ?_
          refine wpr_eq (ld (t := 25) (a := ⟨g2, o2 + k * 2 + 1, none⟩) (dst := some 101) (by kernel_rfl) false 1 (by kernel_rfl) (by simp) [.slice l2[k].a l2[k].cells.length l2[k].c] rfl (fun w h => ld_ro h 2 rfl (k * 2 + 1) (obj_fld hlt 1 1 (by decide)))) ?_
          refine RR [] .z (.i 103 (.bool (decide ((↑l2[k].cells.length : Int) < (↑l2[k].cells.length : Int)))) (.d (.d (.d (.k .a))))) .a ?_
          refine RZ (NT ?_)
          refine SC 103 (decide ((↑l2[k].cells.length : Int) < (↑l2[k].cells.length : Int))) false (by simp) ?_
          refine CF (EX (TE (TE (BH (BN (NT (RG ?_)))))))
          refine RV true [] .z (.i 14 (.int .i64 ((↑k : Int) + 1)) (.d (.d (.d (.d (.k .a)))))) .a ([inI64 ((↑k : Int) + (1 : Int))]) ⟨by unfold inI64; omega, trivial⟩ ?_
          refine RZ ?_
          exact fun a' w' hS' => ⟨⟨k + 1, hlt⟩, by dsimp only; omega, ent_fr (by kernel_rfl) _ _ (ent_hp [0, 0, 0, 0, 0, 0] rfl _ _ hS')⟩
      · obtain rfl : k = l2.length := by omega
        refine SQ (SQ (RG ?_))
        refine RR [] .z (.i 67 (.bool (decide ((↑l2.length : Int) < (↑l2.length : Int)))) .a) .a ?_
        refine RZ (NT ?_)
        refine SC 67 (decide ((↑l2.length : Int) < (↑l2.length : Int))) false (by simp) ?_
        refine CF (EX (TE (TE (BH (NT (SQ (RG ?_)))))))
        refine RCG (dst := some 133) .a (lives_spec) (GV (GV (GI []) 5 view_gPow) 4 view_ro) ?_
        rintro v _ ⟨rfl, rfl⟩
        refine RR [] .z (.i 8 (.bool true) .z) .a ?_
        refine RZ (NT (RE ?_))
        refine NE [] .z .a [] (.bool true) ?_
        exact ⟨rfl, rfl⟩
    · have hLL : L' = L := by rw [hL']; exact setR_ne (by rw [← he']; exact h0)
      refine TK 0 [(6, [])] (.i 32 (.bool (e' != 0)) (.d (.d (.d (.d (.d (.d (.k .a)))))))) (#[true, true, true, true, true, true, true]) ?_
      refine wpa_done 0 (by kernel_rfl) ?_
      refine NT ?_
      refine SC 32 (e' != 0) true (by simp only [bne_iff_ne, beq_iff_eq, ne_eq]; omega) ?_
      refine CT (SQ (RG ?_))
      refine RR [] (.d .a) (.i 33 (.pointer (some ⟨g, 0, none⟩)) (.d (.d (.k .a)))) (.i (.blk g 59 [.bool true, .int .i64 4096, .int .i64 (↑(usedO L') : Int), .slice a3 l3.length c3]) (.d (.k (.k (.k (.k (.k (.k (.k (.k (.i (.blk g1 28 [.int .i64 x.k, .int .i64 x.n, .string (mkS x.s)]) .z))))))))))) ?_
      refine RCG (dst := some 34) (.i (.blk g 59 [.bool true, .int .i64 4096, .int .i64 (↑(usedO L') : Int), .slice a3 l3.length c3]) (.d (.k (.k (.k (.k (.k (.k (.k (.k (.i (.blk g1 28 [.int .i64 x.k, .int .i64 x.n, .string (mkS x.s)]) .z))))))))))) (hA3) (GV (GV (GV (GI []) 2 view_gBag) 1 view_row) 0 (view_blk0 (by simp [Go.Sx.One, Value.oneCell']))) ?_
      rintro v _ ⟨a4, c4, l4, hm4, rfl, rfl⟩
      refine RR [] (.d .a) (.i 35 (.slice a2 l2.length c2) (.k (.d (.k .a)))) (.k (.k (.i (.blk g 59 [.bool true, .int .i64 4096, .int .i64 (↑(usedO L') : Int), .slice a3 l3.length c3]) (.d (.k (.k (.k (.k (.k (.k (.k (.k (.i (.blk g1 28 [.int .i64 x.k, .int .i64 x.n, .string (mkS x.s)]) .z))))))))))))) ?_
      have hl4 : l4.length = L.length := by rw [← hlen', ← hm4, List.length_map]
      refine RCG (dst := some 36) (.k (.k (.i (.blk g 59 [.bool true, .int .i64 4096, .int .i64 (↑(usedO L') : Int), .slice a3 l3.length c3]) (.d (.k (.k (.k (.k (.k (.k (.k (.k (.i (.blk g1 28 [.int .i64 x.k, .int .i64 x.n, .string (mkS x.s)]) .z))))))))))))) (Same_spec a4 c4 l4 a2 c2 l2 (by omega) (by omega) (obs_cl hm4 hcl') (obs_cl hm2 hcl)) (GV (GV (GV (GV (GI []) 6 view_gBag) 5 view_row) 1 view_gBag) 0 view_row) ?_
      rintro v _ ⟨rfl, rfl⟩
      rw [hm4, hm2, hLL, decide_eq_true rfl]
      refine RR [] (.d .a) (.i 37 (.bool true) (.d (.d (.d (.k .a))))) (.k (.k (.i (.blk g 59 [.bool true, .int .i64 4096, .int .i64 (↑(usedO L) : Int), .slice a3 l3.length c3]) (.d (.k (.k (.k (.k (.k (.k (.k (.k (.i (.blk g1 28 [.int .i64 x.k, .int .i64 x.n, .string (mkS x.s)]) .z))))))))))))) ?_
      refine RCG (dst := some 38) (.k (.k (.i (.blk g 59 [.bool true, .int .i64 4096, .int .i64 (↑(usedO L) : Int), .slice a3 l3.length c3]) (.d (.k (.k (.k (.k (.k (.k (.k (.k (.i (.blk g1 28 [.int .i64 x.k, .int .i64 x.n, .string (mkS x.s)]) .z))))))))))))) (lives_spec) (GV (GV (GI []) 10 view_gPow) 9 view_ro) ?_
      rintro v _ ⟨rfl, rfl⟩
      refine RR [] .z (.i 8 (.bool true) (.d (.d (.k (.k (.d (.k .a))))))) (.k (.k (.i (.blk g 59 [.bool true, .int .i64 4096, .int .i64 (↑(usedO L) : Int), .slice a3 l3.length c3]) (.d (.k (.k (.k (.k (.k (.k (.k (.k (.i (.blk g1 28 [.int .i64 x.k, .int .i64 x.n, .string (mkS x.s)]) .z))))))))))))) ?_
      refine RZ (NT (RE (TR ?_)))
      refine NE [] .z (.k (.k (.i (.blk g 59 [.bool true, .int .i64 4096, .int .i64 (↑(usedO L) : Int), .slice a3 l3.length c3]) (.d (.k (.k (.k (.k (.k (.k (.k (.k (.i (.blk g1 28 [.int .i64 x.k, .int .i64 x.n, .string (mkS x.s)]) .z))))))))))))) [] (.bool true) ?_
      exact ⟨rfl, rfl⟩
end Go.Proofs.YtpfhleghgkeemaaGreatDoor
