import Derived.Test.YtpfhleghgkeemaaGreatDoorH24
namespace Go.Proofs.YtpfhleghgkeemaaGreatDoor
open Go Go.Sx
set_option linter.unusedVariables false
set_option linter.unusedSimpArgs false

/-! The heap's calls, said of plain objects. -/
def allocR (most : Int) (L : List O) (tag : List UInt8) (cells : List V) : List O × V × Int :=
  if objB L.length tag cells then if (cells.length : Int) < most - usedO L then (L ++ [(tag, cells)], atV L.length, 0) else (L, noV, 12) else (L, noV, 2)
theorem usedO_snoc (L : List O) (o : O) : usedO (L ++ [o]) = usedO L + (o.2.length + 1) := by
  unfold usedO; rw [List.map_append, List.map_singleton, usedN_snoc]
theorem Alloc_o (g : Nat) (most : Int) (a : Option Addr) (c : Nat) (l : List Ob) (L : List O) (hm : l.map Ob.o = L) (tag : List UInt8) (cells : List V) (oa : Option Addr) (oc : Nat) (hmo : 0 ≤ most ∧ most ≤ 4096) (hu : (usedO L : Int) ≤ most) (ha : oa = none → cells = []) (hlc : cells.length ≤ oc) (hcl : cells.length ≤ 1048576) (ht : tag.length ≤ 1048576) (hs : smL cells) :
    Does Tryz.prog 18 [.pointer (some ⟨g, 0, none⟩), .string (mkS tag), .slice oa cells.length oc] [heapB g most (usedO L) a l.length c, heapR a c l, heapS l, ro oa (cells.flatMap valC), gWords]
      (fun v hp' => ∃ a' c' l', l'.map Ob.o = (allocR most L tag cells).1 ∧ v = .tuple #[valV (allocR most L tag cells).2.1, .int .i64 (allocR most L tag cells).2.2] ∧ hp' = [heapB g most (usedO (allocR most L tag cells).1) a' l'.length c', heapR a' c' l', heapS l']) := by
  subst hm
  have hl4 : l.length ≤ 4096 := by
    have := len_le_used (l.map Ob.n)
    rw [usedO_eq, List.length_map] at this; omega
  have h := Alloc_spec g most a c l tag cells oa oc hmo (by rw [usedO_eq]; exact hu) hl4 ha hlc hcl ht hs
  rw [usedO_eq] at h
  refine h.mono fun v hp' hR => ?_
  unfold allocR
  rw [List.length_map]
  by_cases h1 : objB l.length tag cells = true
  · rw [if_pos h1]
    by_cases h2 : (cells.length : Int) < most - usedO (l.map Ob.o)
    · rw [if_pos ⟨h1, h2⟩] at hR
      rw [if_pos h2]
      obtain ⟨a', c', o, rfl, ht, hc, rfl⟩ := hR
      have ho : o.o = (tag, cells) := by unfold Ob.o; rw [ht, hc]
      refine ⟨a', c', l ++ [o], by rw [List.map_append, List.map_singleton, ho], rfl, ?_⟩
      rw [usedO_eq, List.map_append, List.map_singleton, ho]
    · rw [if_neg (fun hh => h2 hh.2), if_pos h1] at hR
      rw [if_neg h2]
      exact ⟨a, c, l, rfl, hR.1, hR.2⟩
  · rw [if_neg (fun hh => h1 hh.1), if_neg h1] at hR
    rw [if_neg h1]
    exact ⟨a, c, l, rfl, hR.1, hR.2⟩
theorem setR_len (L : List O) (v x : V) (i : Int) : (setR L v i x).1.length = L.length := by
  unfold setR; split
  · split
    · exact List.length_set
    · rfl
  · rfl
theorem setR_n (L : List O) (v x : V) (i : Int) : (setR L v i x).1.map (fun o => o.2.length) = L.map (fun o => o.2.length) := by
  unfold setR; split
  · split
    · rw [List.map_set]
      refine List.ext_getElem (by simp) fun k h1 h2 => ?_
      rw [List.getElem_set]
      split
      · rename_i hk
        subst hk
        have hlt : v.n.toNat < L.length := by simpa using h2
        simp only [List.length_set, List.getElem_map]
        unfold objAt
        rw [List.getD_eq_getElem?_getD, List.getElem?_eq_getElem hlt]; rfl
      · rfl
    · rfl
  · rfl
theorem setR_used (L : List O) (v x : V) (i : Int) : usedO (setR L v i x).1 = usedO L := by
  unfold usedO; rw [setR_n]
theorem Set_o (g : Nat) (most : Int) (a : Option Addr) (c : Nat) (l : List Ob) (L : List O) (hm : l.map Ob.o = L) (v : V) (i : Int) (x : V) (hl : L.length ≤ 4096) (hv : v.sm) (hx : x.sm) :
    Does Tryz.prog 23 [.pointer (some ⟨g, 0, none⟩), valV v, .int .i64 i, valV x] [heapB g most (usedO L) a l.length c, heapR a c l, heapS l]
      (fun r hp' => r = .int .i64 (setR L v i x).2 ∧ ∃ a' c' l', l'.map Ob.o = (setR L v i x).1 ∧ hp' = [heapB g most (usedO (setR L v i x).1) a' l'.length c', heapR a' c' l', heapS l']) := by
  subst hm
  rw [List.length_map] at hl
  rw [setR_used]
  refine (Set_spec g most (usedO (l.map Ob.o)) a c l v i x hl hv hx).mono fun r hp' ⟨h1, l', h2, h3⟩ => ⟨h1, a, c, l', h2, h3⟩
theorem Get_o (g : Nat) (most : Int) (a : Option Addr) (c : Nat) (l : List Ob) (L : List O) (hm : l.map Ob.o = L) (v : V) (i : Int) (hl : L.length ≤ 4096) (hv : v.sm) :
    Does Tryz.prog 25 [.pointer (some ⟨g, 0, none⟩), valV v, .int .i64 i] [heapB g most (usedO L) a l.length c, heapR a c l, heapS l]
      (fun r hp' => r = .tuple #[valV (getR L v i).1, .int .i64 (getR L v i).2] ∧ hp' = [heapB g most (usedO L) a l.length c, heapR a c l, heapS l]) := by
  subst hm
  rw [List.length_map] at hl
  exact Get_spec g most _ a c l v i hl hv
theorem Show_o (g : Nat) (most : Int) (a : Option Addr) (c : Nat) (l : List Ob) (L : List O) (hm : l.map Ob.o = L) (hl4 : L.length ≤ 4096) (hL : okHeap L) (v : V) (hs : v.sm) (hi : v.i64) :
    Does Tryz.prog 26 [.pointer (some ⟨g, 0, none⟩), valV v] [ro (some ⟨g, 0, none⟩) [.bool true, .int .i64 most, .int .i64 (usedO L), .slice a l.length c], ro a (l.flatMap objC), gBag l, gPow]
    (fun u hp' => u = .string (mkS (showT L v)) ∧ hp' = []) := by
  subst hm
  rw [List.length_map] at hl4
  exact Show_spec g most _ a c l hl4 hL v hs hi
end Go.Proofs.YtpfhleghgkeemaaGreatDoor
