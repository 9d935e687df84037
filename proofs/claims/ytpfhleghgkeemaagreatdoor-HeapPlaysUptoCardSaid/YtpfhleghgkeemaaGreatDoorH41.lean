import Derived.Test.YtpfhleghgkeemaaGreatDoorH40
import Derived.Test.YtpfhleghgkeemaaGreatDoorY2
namespace Go.Proofs.YtpfhleghgkeemaaGreatDoor
open Go Go.Sx
set_option linter.unusedVariables false
set_option linter.unusedSimpArgs false

/-- The one of a reference, with where its cells lie. -/
def obN (l : List Ob) (v : V) : Ob := if refB v l.length then l.getD v.n.toNat ⟨[], none, 0, []⟩ else ⟨[], none, 0, []⟩
theorem obN_at {l : List Ob} {v : V} (h : refB v l.length = true) (hq : v.n.toNat < l.length) : obN l v = l[v.n.toNat] := by
  unfold obN; rw [if_pos h, List.getD_eq_getElem?_getD, List.getElem?_eq_getElem hq]; rfl
theorem obN_no {l : List Ob} {v : V} (h : refB v l.length = false) : obN l v = ⟨[], none, 0, []⟩ := by
  unfold obN; rw [h]; rfl
theorem robject_spec (most : Int) (a : Option Addr) (c : Nat) (l : List Ob) (v : V) (hl : l.length ≤ 1048576) (hv : v.sm) :
    Does Tryz.prog 105 [.agg #[.int .i64 most, .slice a l.length c], valV v] [ro a (l.flatMap objC)]
      (fun r hp' => r = .tuple #[.agg #[.string (mkS (obN l v).tag), .slice (obN l v).a (obN l v).cells.length (obN l v).c], .bool (refB v l.length)] ∧ hp' = []) := by
  have hck := Right_spec v l.length hv
  by_cases hk : v.k = 4
  · have hR : refB v l.length = rightB v l.length := by unfold refB; rw [decide_eq_true hk]; rfl
    cases hr : rightB v l.length with
    | false =>
      rw [obN_no (by rw [hR, hr]), hR, hr]
      rw [hr] at hck
      obtain ⟨k, n, s⟩ := v
      dsimp only at hk
      subst hk
      unfold valV at hck ⊢
      dsimp only at hck ⊢
      refine fn_enter Tryz.func105 rfl 24 rfl fun w0 h0 => ?_
      refine SQ (RG ?_)
      refine RP [] (.d .a) 2 (.d (.k .a)) .a 51 [.int .i64 most, .slice a l.length c] fun g1 => ?_
      refine RP [] (.d .a) 3 (.k .z) .a 28 [.int .i64 4, .int .i64 n, .string (mkS s)] fun g2 => ?_
      refine RP [] (.d .a) 4 .a .a 43 [.string ⟨#[]⟩, .slice none 0 0] fun g3 => ?_
      refine RR [] .z (.i 5 (.bool false) .a) .a ?_
      refine RZ (NT (SQ (SQ (RG ?_))))
      refine RR [2, 2, 2, 2, 1] (.d (.d (.d (.d (.d (.d (.d (.d .a)))))))) (.i 13 (.int .i64 (↑l.length : Int)) (.i 10 (.agg #[.int .i64 4, .int .i64 n, .string (mkS s)]) (.i 9 (.bool false) .a))) .a ?_
      refine RC (dst := some 14) [] .a (hck) ?_
      rintro r _ ⟨rfl, rfl⟩
      refine RR [] .z (.i 16 (.bool true) (.d (.d (.d (.d (.k .a)))))) .a ?_
      refine RZ (NT (CT (SQ (RG ?_))))
      refine RR [3, 3] .z (.d (.k .a)) .a ?_
      refine RZ (NT (RE (TR ?_)))
      refine NE [] .z .a [3, 3] (.tuple #[.agg #[.string ⟨#[]⟩, .slice none 0 0], .bool false]) ?_
      exact ⟨rfl, rfl⟩
    | true =>
      have hr2 : refB v l.length = true := by rw [hR, hr]
      obtain ⟨_, hs0, hn0, hnl⟩ := refB_lt hr2
      have hq : v.n.toNat < l.length := by omega
      rw [obN_at hr2 hq, hr2]
      rw [hr] at hck
      obtain ⟨k, n, s⟩ := v
      dsimp only at hk hn0 hnl hq ⊢
      subst hk
      unfold valV at hck ⊢
      dsimp only at hck ⊢
      refine does_fact (fun w h => ro_addr h 0 rfl (by rw [objs_len]; omega)) ?_
      rintro ⟨g0, o0, rfl⟩
      refine fn_enter Tryz.func105 rfl 24 rfl fun w0 h0 => ?_
      refine SQ (RG ?_)
      refine RP [] (.d .a) 2 (.d (.k .a)) .a 51 [.int .i64 most, .slice (some ⟨g0, o0, none⟩) l.length c] fun g1 => ?_
      refine RP [] (.d .a) 3 (.k .z) .a 28 [.int .i64 4, .int .i64 n, .string (mkS s)] fun g2 => ?_
      refine RP [] (.d .a) 4 .a .a 43 [.string ⟨#[]⟩, .slice none 0 0] fun g3 => ?_
      refine RR [] .z (.i 5 (.bool false) .a) .a ?_
      refine RZ (NT (SQ (SQ (RG ?_))))
      refine RR [2, 2, 2, 2, 1] (.d (.d (.d (.d (.d (.d (.d (.d .a)))))))) (.i 13 (.int .i64 (↑l.length : Int)) (.i 10 (.agg #[.int .i64 4, .int .i64 n, .string (mkS s)]) (.i 9 (.bool false) .a))) .a ?_
      refine RC (dst := some 14) [] .a (hck) ?_
      rintro r _ ⟨rfl, rfl⟩
      refine RR [] .z (.i 16 (.bool false) (.d (.d (.d (.d (.k .a)))))) .a ?_
      refine RZ (NT (CF (SK (NT (SQ (RG ?_))))))
      refine RV true [1, 2] (.d (.d (.d (.d (.d .a))))) (.i 22 (.pointer (some ⟨g0, o0 + n.toNat * 2, none⟩)) (.d (.k (.k .z)))) .a [(0 : Int) ≤ n ∧ n < (↑l.length : Int)] ⟨by omega, trivial⟩ ?_
      refine wpr_eq (ld (t := 43) (a := ⟨g0, o0 + n.toNat * 2, none⟩) (dst := some 23) (by kernel_rfl) true 2 (by kernel_rfl) (by simp) (objC l[n.toNat]) rfl (fun w h => ld_ro h 0 rfl (n.toNat * 2) (objs_at hq))) ?_
      refine RR [3, 3] .z (.i 5 (.bool true) (.d (.d (.d (.k .a))))) (.k (.k (.k (.u (.i (.string (mkS l[n.toNat].tag)) (.i (.slice l[n.toNat].a l[n.toNat].cells.length l[n.toNat].c) .z)) .a)))) ?_
      refine RZ (NT (RE ?_))
      refine NE [] .z .a [3, 3] (.tuple #[.agg #[.string (mkS l[n.toNat].tag), .slice l[n.toNat].a l[n.toNat].cells.length l[n.toNat].c], .bool true]) ?_
      exact ⟨rfl, rfl⟩
  · have hR : refB v l.length = false := by unfold refB; rw [decide_eq_false hk]; rfl
    rw [obN_no hR, hR]
    obtain ⟨k, n, s⟩ := v
    dsimp only at hk
    unfold valV
    dsimp only
    refine fn_enter Tryz.func105 rfl 24 rfl fun w0 h0 => ?_
    refine SQ (RG ?_)
    refine RP [] (.d .a) 2 (.d (.k .a)) .a 51 [.int .i64 most, .slice a l.length c] fun g1 => ?_
    refine RP [] (.d .a) 3 (.k .z) .a 28 [.int .i64 k, .int .i64 n, .string (mkS s)] fun g2 => ?_
    refine RP [] (.d .a) 4 .a .a 43 [.string ⟨#[]⟩, .slice none 0 0] fun g3 => ?_
    refine RR [] .z (.i 5 (.bool false) .a) .a ?_
    refine RZ (NT (SQ (SQ (RG ?_))))
    refine RR [2] (.d (.d (.d (.d .a)))) (.i 9 (.bool (k != (4 : Int))) .a) .a ?_
    refine SR 9 (k != (4 : Int)) true (by simp only [bne_iff_ne, beq_iff_eq, ne_eq]; omega) ?_
    refine RR [] .z (.i 16 (.bool true) (.d (.d (.k .a)))) .a ?_
    refine RZ (NT (CT (SQ (RG ?_))))
    refine RR [3, 3] .z (.d (.k .a)) .a ?_
    refine RZ (NT (RE (TR ?_)))
    refine NE [] .z .a [3, 3] (.tuple #[.agg #[.string ⟨#[]⟩, .slice none 0 0], .bool false]) ?_
    exact ⟨rfl, rfl⟩
theorem rLen_spec (most : Int) (a : Option Addr) (c : Nat) (l : List Ob) (v : V) (hl : l.length ≤ 1048576) (hv : v.sm) :
    Does Tryz.prog 64 [.agg #[.int .i64 most, .slice a l.length c], valV v] [ro a (l.flatMap objC)]
      (fun r hp' => r = .tuple #[.int .i64 (lenR (l.map Ob.o) v).1, .int .i64 (lenR (l.map Ob.o) v).2] ∧ hp' = []) := by
  have hob := robject_spec most a c l v hl hv
  unfold lenR
  rw [List.length_map]
  cases hr : refB v l.length with
  | false =>
    rw [hr, obN_no hr] at hob
    unfold valV at hob ⊢
    refine fn_enter Tryz.func64 rfl 19 rfl fun w0 h0 => ?_
    refine SQ (RG ?_)
    refine RP [] (.d .a) 2 (.d (.k .a)) .a 51 [.int .i64 most, .slice a l.length c] fun g1 => ?_
    refine RP [] (.d .a) 3 (.k .z) .a 28 [.int .i64 v.k, .int .i64 v.n, .string (mkS v.s)] fun g2 => ?_
    refine RR [] .z (.i 5 (.int .i64 0) (.i 4 (.int .i64 0) .a)) .a ?_
    refine RZ (NT (SQ (RG ?_)))
    refine RR [1, 1, 2, 2, 2] (.d (.d .a)) (.i 10 (.agg #[.int .i64 v.k, .int .i64 v.n, .string (mkS v.s)]) (.i 9 (.agg #[.int .i64 most, .slice a l.length c]) (.k (.k .z)))) .a ?_
    refine RCG (dst := some 11) .a (hob) (GV (GI []) 0 view_ro) ?_
    rintro r _ ⟨rfl, rfl⟩
    refine RP [] (.d (.d (.d (.d .a)))) 6 (.i 13 (.bool false) (.i 12 (.agg #[.string (mkS []), .slice none 0 0]) (.d (.d (.d (.k .a)))))) .a 43 [.string ⟨#[]⟩, .slice none 0 0] fun g3 => ?_
    refine RR [3, 3] .z (.i 7 (.bool false) (.k (.d (.d (.k .a))))) (.k (.k (.k (.u (.i (.string (mkS [])) (.d (.k .a))) .a)))) ?_
    refine RZ (NT (SQ (SQ (RG ?_))))
    refine RR [] .z (.i 15 (.bool true) (.d (.k .a))) .a ?_
    refine RZ (NT (CT (SQ (RG ?_))))
    refine RR [] .z (.i 5 (.int .i64 2) (.i 4 (.int .i64 0) (.d (.k .z)))) .a ?_
    refine RZ (NT (RE (TR ?_)))
    refine NE [] .z .a [] (.tuple #[.int .i64 0, .int .i64 2]) ?_
    exact ⟨rfl, rfl⟩
  | true =>
    obtain ⟨_, hs0, hn0, hnl⟩ := refB_lt hr
    have hq : v.n.toNat < l.length := by omega
    rw [hr, obN_at hr hq] at hob
    rw [objAt_map hq]
    unfold valV at hob ⊢
    refine fn_enter Tryz.func64 rfl 19 rfl fun w0 h0 => ?_
    refine SQ (RG ?_)
    refine RP [] (.d .a) 2 (.d (.k .a)) .a 51 [.int .i64 most, .slice a l.length c] fun g1 => ?_
    refine RP [] (.d .a) 3 (.k .z) .a 28 [.int .i64 v.k, .int .i64 v.n, .string (mkS v.s)] fun g2 => ?_
    refine RR [] .z (.i 5 (.int .i64 0) (.i 4 (.int .i64 0) .a)) .a ?_
    refine RZ (NT (SQ (RG ?_)))
    refine RR [1, 1, 2, 2, 2] (.d (.d .a)) (.i 10 (.agg #[.int .i64 v.k, .int .i64 v.n, .string (mkS v.s)]) (.i 9 (.agg #[.int .i64 most, .slice a l.length c]) (.k (.k .z)))) .a ?_
    refine RCG (dst := some 11) .a (hob) (GV (GI []) 0 view_ro) ?_
    rintro r _ ⟨rfl, rfl⟩
    refine RP [] (.d (.d (.d (.d .a)))) 6 (.i 13 (.bool true) (.i 12 (.agg #[.string (mkS l[v.n.toNat].tag), .slice l[v.n.toNat].a l[v.n.toNat].cells.length l[v.n.toNat].c]) (.d (.d (.d (.k .a)))))) .a 43 [.string ⟨#[]⟩, .slice none 0 0] fun g3 => ?_
    refine RR [3, 3] .z (.i 7 (.bool true) (.k (.d (.d (.k .a))))) (.k (.k (.k (.u (.i (.string (mkS l[v.n.toNat].tag)) (.i (.slice l[v.n.toNat].a l[v.n.toNat].cells.length l[v.n.toNat].c) .z)) .a)))) ?_
    refine RZ (NT (SQ (SQ (RG ?_))))
    refine RR [] .z (.i 15 (.bool false) (.d (.k .a))) .a ?_
    refine RZ (NT (CF (SK (NT (SQ (RG ?_))))))
    refine RR [3] .z (.d (.d (.k (.i 4 (.int .i64 (↑l[v.n.toNat].cells.length : Int)) .z)))) .a ?_
    refine RZ (NT (RE ?_))
    refine NE [] .z .a [] (.tuple #[.int .i64 (↑l[v.n.toNat].cells.length : Int), .int .i64 0]) ?_
    exact ⟨rfl, rfl⟩
theorem rTag_spec (most : Int) (a : Option Addr) (c : Nat) (l : List Ob) (v : V) (hl : l.length ≤ 1048576) (hv : v.sm) :
    Does Tryz.prog 65 [.agg #[.int .i64 most, .slice a l.length c], valV v] [ro a (l.flatMap objC)]
      (fun r hp' => r = .tuple #[.string (mkS (tagR (l.map Ob.o) v).1), .int .i64 (tagR (l.map Ob.o) v).2] ∧ hp' = []) := by
  have hob := robject_spec most a c l v hl hv
  unfold tagR
  rw [List.length_map]
  cases hr : refB v l.length with
  | false =>
    rw [hr, obN_no hr] at hob
    unfold valV at hob ⊢
    refine fn_enter Tryz.func65 rfl 18 rfl fun w0 h0 => ?_
    refine SQ (RG ?_)
    refine RP [] (.d .a) 2 (.d (.k .a)) .a 51 [.int .i64 most, .slice a l.length c] fun g1 => ?_
    refine RP [] (.d .a) 3 (.k .z) .a 28 [.int .i64 v.k, .int .i64 v.n, .string (mkS v.s)] fun g2 => ?_
    refine RR [] .z (.i 5 (.int .i64 0) (.i 4 (.string ⟨#[]⟩) .a)) .a ?_
    refine RZ (NT (SQ (RG ?_)))
    refine RR [1, 1, 2, 2, 2] (.d (.d .a)) (.i 10 (.agg #[.int .i64 v.k, .int .i64 v.n, .string (mkS v.s)]) (.i 9 (.agg #[.int .i64 most, .slice a l.length c]) (.k (.k .z)))) .a ?_
    refine RCG (dst := some 11) .a (hob) (GV (GI []) 0 view_ro) ?_
    rintro r _ ⟨rfl, rfl⟩
    refine RP [] (.d (.d (.d (.d .a)))) 6 (.i 13 (.bool false) (.i 12 (.agg #[.string (mkS []), .slice none 0 0]) (.d (.d (.d (.k .a)))))) .a 43 [.string ⟨#[]⟩, .slice none 0 0] fun g3 => ?_
    refine RR [3, 3] .z (.i 7 (.bool false) (.k (.d (.d (.k .a))))) (.k (.k (.k (.u (.i (.string (mkS [])) (.d (.k .a))) .a)))) ?_
    refine RZ (NT (SQ (SQ (RG ?_))))
    refine RR [] .z (.i 15 (.bool true) (.d (.k .a))) .a ?_
    refine RZ (NT (CT (SQ (RG ?_))))
    refine RR [] .z (.i 5 (.int .i64 2) (.i 4 (.string ⟨#[]⟩) (.d (.k .z)))) .a ?_
    refine RZ (NT (RE (TR ?_)))
    refine NE [] .z .a [] (.tuple #[.string ⟨#[]⟩, .int .i64 2]) ?_
    exact ⟨rfl, rfl⟩
  | true =>
    obtain ⟨_, hs0, hn0, hnl⟩ := refB_lt hr
    have hq : v.n.toNat < l.length := by omega
    rw [hr, obN_at hr hq] at hob
    rw [objAt_map hq]
    unfold valV at hob ⊢
    refine fn_enter Tryz.func65 rfl 18 rfl fun w0 h0 => ?_
    refine SQ (RG ?_)
    refine RP [] (.d .a) 2 (.d (.k .a)) .a 51 [.int .i64 most, .slice a l.length c] fun g1 => ?_
    refine RP [] (.d .a) 3 (.k .z) .a 28 [.int .i64 v.k, .int .i64 v.n, .string (mkS v.s)] fun g2 => ?_
    refine RR [] .z (.i 5 (.int .i64 0) (.i 4 (.string ⟨#[]⟩) .a)) .a ?_
    refine RZ (NT (SQ (RG ?_)))
    refine RR [1, 1, 2, 2, 2] (.d (.d .a)) (.i 10 (.agg #[.int .i64 v.k, .int .i64 v.n, .string (mkS v.s)]) (.i 9 (.agg #[.int .i64 most, .slice a l.length c]) (.k (.k .z)))) .a ?_
    refine RCG (dst := some 11) .a (hob) (GV (GI []) 0 view_ro) ?_
    rintro r _ ⟨rfl, rfl⟩
    refine RP [] (.d (.d (.d (.d .a)))) 6 (.i 13 (.bool true) (.i 12 (.agg #[.string (mkS l[v.n.toNat].tag), .slice l[v.n.toNat].a l[v.n.toNat].cells.length l[v.n.toNat].c]) (.d (.d (.d (.k .a)))))) .a 43 [.string ⟨#[]⟩, .slice none 0 0] fun g3 => ?_
    refine RR [3, 3] .z (.i 7 (.bool true) (.k (.d (.d (.k .a))))) (.k (.k (.k (.u (.i (.string (mkS l[v.n.toNat].tag)) (.i (.slice l[v.n.toNat].a l[v.n.toNat].cells.length l[v.n.toNat].c) .z)) .a)))) ?_
    refine RZ (NT (SQ (SQ (RG ?_))))
    refine RR [] .z (.i 15 (.bool false) (.d (.k .a))) .a ?_
    refine RZ (NT (CF (SK (NT (SQ (RG ?_))))))
    refine RR [3] .z (.d (.d (.k (.i 4 (.string (mkS l[v.n.toNat].tag)) .z)))) .a ?_
    refine RZ (NT (RE ?_))
    refine NE [] .z .a [] (.tuple #[.string (mkS l[v.n.toNat].tag), .int .i64 0]) ?_
    exact ⟨rfl, rfl⟩
theorem rGet_spec (most : Int) (a : Option Addr) (c : Nat) (l : List Ob) (v : V) (i : Int) (hl : l.length ≤ 1048576) (hv : v.sm) (hcl : ∀ o ∈ l, o.cells.length ≤ 1048576) :
    Does Tryz.prog 63 [.agg #[.int .i64 most, .slice a l.length c], valV v, .int .i64 i] [ro a (l.flatMap objC), gBag l]
      (fun r hp' => r = .tuple #[valV (getR (l.map Ob.o) v i).1, .int .i64 (getR (l.map Ob.o) v i).2] ∧ hp' = []) := by
  have hob := robject_spec most a c l v hl hv
  cases hr : refB v l.length with
  | false =>
    rw [getR_no hr]
    rw [hr, obN_no hr] at hob
    unfold valV at hob ⊢
    refine fn_enter Tryz.func63 rfl 34 rfl fun w0 h0 => ?_
    refine SQ (RG ?_)
    refine RP [] (.d .a) 3 (.d (.k .a)) .a 51 [.int .i64 most, .slice a l.length c] fun g1 => ?_
    refine RP [] (.d .a) 4 (.k (.d (.k .a))) .a 28 [.int .i64 v.k, .int .i64 v.n, .string (mkS v.s)] fun g2 => ?_
    refine RP [] (.d .a) 6 .a .a 28 [.int .i64 0, .int .i64 0, .string ⟨#[]⟩] fun g3 => ?_
    refine RR [] .z (.i 7 (.int .i64 0) .a) .a ?_
    refine RZ (NT (SQ (RG ?_)))
    refine RR [2, 2, 3, 3, 3] (.d (.d .a)) (.i 12 (.agg #[.int .i64 v.k, .int .i64 v.n, .string (mkS v.s)]) (.i 11 (.agg #[.int .i64 most, .slice a l.length c]) (.k (.k (.d (.d (.k .a))))))) .a ?_
    refine RCG (dst := some 13) .a (hob) (GV (GI []) 0 view_ro) ?_
    rintro r _ ⟨rfl, rfl⟩
    refine RP [] (.d (.d (.d (.d .a)))) 8 (.i 15 (.bool false) (.i 14 (.agg #[.string (mkS []), .slice none 0 0]) (.d (.d (.d (.k .a)))))) .a 43 [.string ⟨#[]⟩, .slice none 0 0] fun g4 => ?_
    refine RR [5, 5] .z (.i 9 (.bool false) (.k (.d (.d (.k .a))))) (.k (.k (.k (.k (.k (.u (.i (.string (mkS [])) (.d (.k .a))) .a)))))) ?_
    refine RZ (NT (SQ (SQ (RG ?_))))
    refine RR [] .z (.i 17 (.bool true) (.d (.k .a))) .a ?_
    refine RZ (NT (CT (SQ (RG ?_))))
    refine RR [4, 4, 4] .z (.i 7 (.int .i64 2) (.d (.k (.d (.k .a))))) .a ?_
    refine RZ (NT (RE (TR ?_)))
    refine NE [] .z .a [4, 4, 4] (.tuple #[.agg #[.int .i64 0, .int .i64 0, .string ⟨#[]⟩], .int .i64 2]) ?_
    exact ⟨rfl, rfl⟩
  | true =>
    obtain ⟨_, hs0, hn0, hnl⟩ := refB_lt hr
    have hq : v.n.toNat < l.length := by omega
    have hcb := hcl _ (List.getElem_mem hq)
    rw [hr, obN_at hr hq] at hob
    by_cases h0 : 0 ≤ i
    · by_cases h1 : i < l[v.n.toNat].cells.length
      · obtain ⟨j, rfl⟩ : ∃ j : Nat, i = j := ⟨i.toNat, by omega⟩
        have hi2 : j < l[v.n.toNat].cells.length := by omega
        rw [getR_in hr hq hi2]
        refine does_fact (fun w h => bag_addr h 1 rfl (obRo_in hq) (by rw [vals_len]; omega)) ?_
        rintro ⟨gc, oc, hac⟩
        rw [hac] at hob
        unfold valV at hob ⊢
        refine fn_enter Tryz.func63 rfl 34 rfl fun w0 h0 => ?_
        refine SQ (RG ?_)
        refine RP [] (.d .a) 3 (.d (.k .a)) .a 51 [.int .i64 most, .slice a l.length c] fun g1 => ?_
        refine RP [] (.d .a) 4 (.k (.d (.k .a))) .a 28 [.int .i64 v.k, .int .i64 v.n, .string (mkS v.s)] fun g2 => ?_
        refine RP [] (.d .a) 6 .a .a 28 [.int .i64 0, .int .i64 0, .string ⟨#[]⟩] fun g3 => ?_
        refine RR [] .z (.i 7 (.int .i64 0) .a) .a ?_
        refine RZ (NT (SQ (RG ?_)))
        refine RR [2, 2, 3, 3, 3] (.d (.d .a)) (.i 12 (.agg #[.int .i64 v.k, .int .i64 v.n, .string (mkS v.s)]) (.i 11 (.agg #[.int .i64 most, .slice a l.length c]) (.k (.k (.d (.d (.k .a))))))) .a ?_
        refine RCG (dst := some 13) .a (hob) (GV (GI []) 0 view_ro) ?_
        rintro r _ ⟨rfl, rfl⟩
        refine RP [] (.d (.d (.d (.d .a)))) 8 (.i 15 (.bool true) (.i 14 (.agg #[.string (mkS l[v.n.toNat].tag), .slice (some ⟨gc, oc, none⟩) l[v.n.toNat].cells.length l[v.n.toNat].c]) (.d (.d (.d (.k .a)))))) .a 43 [.string ⟨#[]⟩, .slice none 0 0] fun g4 => ?_
        refine RR [5, 5] .z (.i 9 (.bool true) (.k (.d (.d (.k .a))))) (.k (.k (.k (.k (.k (.u (.i (.string (mkS l[v.n.toNat].tag)) (.i (.slice (some ⟨gc, oc, none⟩) l[v.n.toNat].cells.length l[v.n.toNat].c) .z)) .a)))))) ?_
        refine RZ (NT (SQ (SQ (RG ?_))))
        refine RR [] .z (.i 17 (.bool false) (.d (.k .a))) .a ?_
        refine RZ (NT (CF (SK (NT (SQ (SQ (RG ?_)))))))
        refine RR [5] .z (.i 27 (.bool (decide ((↑j : Int) ≥ (↑l[v.n.toNat].cells.length : Int)))) (.d (.k .a))) .a ?_
        refine RZ (NT ?_)
        refine SC 27 (decide ((↑j : Int) ≥ (↑l[v.n.toNat].cells.length : Int))) false (decide_eq_false (by omega)) ?_
        refine CF (SK (NT (SQ (RG ?_))))
        refine RV true [5] (.d (.d (.d (.d .a)))) (.i 32 (.pointer (some ⟨gc, oc + j * 3, none⟩)) (.d (.d (.d (.k (.k .z)))))) .a [(0 : Int) ≤ (↑j : Int) ∧ (↑j : Int) < (↑l[v.n.toNat].cells.length : Int)] ⟨by omega, trivial⟩ ?_
        refine wpr_eq (ld (t := 28) (a := ⟨gc, oc + j * 3, none⟩) (dst := some 33) (by kernel_rfl) true 3 (by kernel_rfl) (by simp) (valC l[v.n.toNat].cells[j]) rfl (fun w h => ld_bag h 1 rfl (hac ▸ obRo_in hq) (j * 3) (vals_at hi2))) ?_
        refine RR [4, 4, 4] .z (.d (.d (.k .a))) (.k (.k (.k (.k (.u (.i (.int .i64 l[v.n.toNat].cells[j].k) (.i (.int .i64 l[v.n.toNat].cells[j].n) (.i (.string (mkS l[v.n.toNat].cells[j].s)) .z))) .a))))) ?_
        refine RZ (NT (RE ?_))
        refine NE [] .z .a [4, 4, 4] (.tuple #[.agg #[.int .i64 l[v.n.toNat].cells[j].k, .int .i64 l[v.n.toNat].cells[j].n, .string (mkS l[v.n.toNat].cells[j].s)], .int .i64 0]) ?_
        exact ⟨rfl, rfl⟩
      · have hin : inB i l[v.n.toNat].cells.length = false := by simp [inB, h1]
        rw [getR_out hr hq hin]
        unfold valV at hob ⊢
        refine fn_enter Tryz.func63 rfl 34 rfl fun w0 h0 => ?_
        refine SQ (RG ?_)
        refine RP [] (.d .a) 3 (.d (.k .a)) .a 51 [.int .i64 most, .slice a l.length c] fun g1 => ?_
        refine RP [] (.d .a) 4 (.k (.d (.k .a))) .a 28 [.int .i64 v.k, .int .i64 v.n, .string (mkS v.s)] fun g2 => ?_
        refine RP [] (.d .a) 6 .a .a 28 [.int .i64 0, .int .i64 0, .string ⟨#[]⟩] fun g3 => ?_
        refine RR [] .z (.i 7 (.int .i64 0) .a) .a ?_
        refine RZ (NT (SQ (RG ?_)))
        refine RR [2, 2, 3, 3, 3] (.d (.d .a)) (.i 12 (.agg #[.int .i64 v.k, .int .i64 v.n, .string (mkS v.s)]) (.i 11 (.agg #[.int .i64 most, .slice a l.length c]) (.k (.k (.d (.d (.k .a))))))) .a ?_
        refine RCG (dst := some 13) .a (hob) (GV (GI []) 0 view_ro) ?_
        rintro r _ ⟨rfl, rfl⟩
        refine RP [] (.d (.d (.d (.d .a)))) 8 (.i 15 (.bool true) (.i 14 (.agg #[.string (mkS l[v.n.toNat].tag), .slice l[v.n.toNat].a l[v.n.toNat].cells.length l[v.n.toNat].c]) (.d (.d (.d (.k .a)))))) .a 43 [.string ⟨#[]⟩, .slice none 0 0] fun g4 => ?_
        refine RR [5, 5] .z (.i 9 (.bool true) (.k (.d (.d (.k .a))))) (.k (.k (.k (.k (.k (.u (.i (.string (mkS l[v.n.toNat].tag)) (.i (.slice l[v.n.toNat].a l[v.n.toNat].cells.length l[v.n.toNat].c) .z)) .a)))))) ?_
        refine RZ (NT (SQ (SQ (RG ?_))))
        refine RR [] .z (.i 17 (.bool false) (.d (.k .a))) .a ?_
        refine RZ (NT (CF (SK (NT (SQ (SQ (RG ?_)))))))
        refine RR [] (.d (.d (.d .a))) (.i 21 (.bool (decide (i < (0 : Int)))) (.d (.k .a))) .a ?_
        refine SR 21 (decide (i < (0 : Int))) false (decide_eq_false (by omega)) ?_
        refine RR [5] .z (.i 27 (.bool (decide (i ≥ (↑l[v.n.toNat].cells.length : Int)))) (.d (.d (.k .a)))) .a ?_
        refine RZ (NT ?_)
        refine SC 27 (decide (i ≥ (↑l[v.n.toNat].cells.length : Int))) true (decide_eq_true (by omega)) ?_
        refine CT (SQ (RG ?_))
        refine RR [4, 4, 4] .z (.i 7 (.int .i64 10) (.d (.d (.k (.d (.k .a)))))) .a ?_
        refine RZ (NT (RE (TR ?_)))
        refine NE [] .z .a [4, 4, 4] (.tuple #[.agg #[.int .i64 0, .int .i64 0, .string ⟨#[]⟩], .int .i64 10]) ?_
        exact ⟨rfl, rfl⟩
    · have hin : inB i l[v.n.toNat].cells.length = false := by simp [inB, h0]
      rw [getR_out hr hq hin]
      unfold valV at hob ⊢
      refine fn_enter Tryz.func63 rfl 34 rfl fun w0 h0 => ?_
      refine SQ (RG ?_)
      refine RP [] (.d .a) 3 (.d (.k .a)) .a 51 [.int .i64 most, .slice a l.length c] fun g1 => ?_
      refine RP [] (.d .a) 4 (.k (.d (.k .a))) .a 28 [.int .i64 v.k, .int .i64 v.n, .string (mkS v.s)] fun g2 => ?_
      refine RP [] (.d .a) 6 .a .a 28 [.int .i64 0, .int .i64 0, .string ⟨#[]⟩] fun g3 => ?_
      refine RR [] .z (.i 7 (.int .i64 0) .a) .a ?_
      refine RZ (NT (SQ (RG ?_)))
      refine RR [2, 2, 3, 3, 3] (.d (.d .a)) (.i 12 (.agg #[.int .i64 v.k, .int .i64 v.n, .string (mkS v.s)]) (.i 11 (.agg #[.int .i64 most, .slice a l.length c]) (.k (.k (.d (.d (.k .a))))))) .a ?_
      refine RCG (dst := some 13) .a (hob) (GV (GI []) 0 view_ro) ?_
      rintro r _ ⟨rfl, rfl⟩
      refine RP [] (.d (.d (.d (.d .a)))) 8 (.i 15 (.bool true) (.i 14 (.agg #[.string (mkS l[v.n.toNat].tag), .slice l[v.n.toNat].a l[v.n.toNat].cells.length l[v.n.toNat].c]) (.d (.d (.d (.k .a)))))) .a 43 [.string ⟨#[]⟩, .slice none 0 0] fun g4 => ?_
      refine RR [5, 5] .z (.i 9 (.bool true) (.k (.d (.d (.k .a))))) (.k (.k (.k (.k (.k (.u (.i (.string (mkS l[v.n.toNat].tag)) (.i (.slice l[v.n.toNat].a l[v.n.toNat].cells.length l[v.n.toNat].c) .z)) .a)))))) ?_
      refine RZ (NT (SQ (SQ (RG ?_))))
      refine RR [] .z (.i 17 (.bool false) (.d (.k .a))) .a ?_
      refine RZ (NT (CF (SK (NT (SQ (SQ (RG ?_)))))))
      refine RR [] (.d (.d (.d .a))) (.i 21 (.bool (decide (i < (0 : Int)))) (.d (.k .a))) .a ?_
      refine SR 21 (decide (i < (0 : Int))) true (decide_eq_true (by omega)) ?_
      refine RR [] .z (.i 27 (.bool true) (.d (.d (.k .a)))) .a ?_
      refine RZ (NT (CT (SQ (RG ?_))))
      refine RR [4, 4, 4] .z (.i 7 (.int .i64 10) (.d (.k (.d (.k .a))))) .a ?_
      refine RZ (NT (RE (TR ?_)))
      refine NE [] .z .a [4, 4, 4] (.tuple #[.agg #[.int .i64 0, .int .i64 0, .string ⟨#[]⟩], .int .i64 10]) ?_
      exact ⟨rfl, rfl⟩
theorem objs_put {l : List Ob} {q : Nat} {x : Ob} (hq : q < l.length) : (l.set q x).flatMap objC = (l.flatMap objC).take (q * 2) ++ (objC x ++ (l.flatMap objC).drop (q * 2 + 2)) := by
  induction l generalizing q with
  | nil => cases hq
  | cons b l ih =>
    cases q with
    | zero => rfl
    | succ q =>
      simp only [List.set_cons_succ, List.flatMap_cons]
      rw [ih (by simpa using hq), show (q + 1) * 2 = q * 2 + 2 by omega]
      rfl
theorem rSet_spec (most : Int) (a : Option Addr) (c : Nat) (l : List Ob) (v : V) (i : Int) (x : V) (ha : a = none → l = []) (hl : l.length ≤ 1048576) (hv : v.sm) (hx : x.sm) (hcl : ∀ o ∈ l, o.cells.length ≤ 1048576) (hna : ∀ o ∈ l, o.a = none → o.cells = []) :
    Does Tryz.prog 62 [.agg #[.int .i64 most, .slice a l.length c], valV v, .int .i64 i, valV x] [ro a (l.flatMap objC), gBag l]
      (fun r hp' => if (setR (l.map Ob.o) v i x).2 = 0 then ∃ a' c' o, (l.set v.n.toNat o).map Ob.o = (setR (l.map Ob.o) v i x).1 ∧ r = .tuple #[.agg #[.int .i64 most, .slice a' l.length c'], .int .i64 0] ∧ hp' = [row 43 2 a' l.length c' ((l.set v.n.toNat o).flatMap objC), obRow o]
        else r = .tuple #[.agg #[.int .i64 most, .slice a l.length c], .int .i64 (setR (l.map Ob.o) v i x).2] ∧ hp' = []) := by
  have hob := robject_spec most a c l v hl hv
  have hck := Right_spec x l.length hx
  unfold valV at hob hck ⊢
  refine fn_enter Tryz.func62 rfl 69 rfl fun w0 h0 => ?_
  refine SQ (RG ?_)
  refine RP [] (.d .a) 4 (.d (.k .a)) .a 51 [.int .i64 most, .slice a l.length c] fun g1 => ?_
  refine RP [] (.d .a) 5 (.k (.d (.k .a))) .a 28 [.int .i64 v.k, .int .i64 v.n, .string (mkS v.s)] fun g2 => ?_
  refine RP [] (.d .a) 7 (.k (.k (.k .z))) .a 28 [.int .i64 x.k, .int .i64 x.n, .string (mkS x.s)] fun g3 => ?_
  refine RP [] (.d .a) 8 .a .a 51 [.int .i64 0, .slice none 0 0] fun g4 => ?_
  refine RR [] .z (.i 9 (.int .i64 0) .a) .a ?_
  refine RZ (NT (SQ (RG ?_)))
  refine RR [2, 2, 3, 3, 3] (.d (.d .a)) (.i 16 (.agg #[.int .i64 v.k, .int .i64 v.n, .string (mkS v.s)]) (.i 15 (.agg #[.int .i64 most, .slice a l.length c]) .a)) .a ?_
  refine RCG (dst := some 17) .a (hob) (GV (GI []) 0 view_ro) ?_
  rintro r _ ⟨rfl, rfl⟩
  cases hr : refB v l.length with
  | false =>
    rw [setR_no (by rw [hr]; rfl)]
    refine RP [] (.d (.d (.d (.d .a)))) 10 (.i 19 (.bool false) (.i 18 (.agg #[.string (mkS (obN l v).tag), .slice (obN l v).a (obN l v).cells.length (obN l v).c]) (.d (.d (.d (.k .a)))))) .a 43 [.string ⟨#[]⟩, .slice none 0 0] fun g5 => ?_
    refine RR [6, 6] .z (.i 11 (.bool false) (.k (.d (.d (.k .a))))) (.k (.k (.k (.k (.k (.k (.u (.i (.string (mkS (obN l v).tag)) (.i (.slice (obN l v).a (obN l v).cells.length (obN l v).c) .z)) .a))))))) ?_
    refine RZ (NT (SQ (SQ (RG ?_))))
    refine RR [] .z (.i 34 (.bool true) (.d (.k .a))) .a ?_
    refine RZ (NT (CT (SQ (RG ?_))))
    refine RR [2, 2, 5, 5] .z (.i 9 (.int .i64 2) (.d (.k (.d (.k .a))))) (.k (.k (.k (.k (.k (.u (.i (.int .i64 most) (.i (.slice a l.length c) .z)) .a)))))) ?_
    refine RZ (NT (RE (TR ?_)))
    refine NE [] .z .a [5, 5] (.tuple #[.agg #[.int .i64 most, .slice a l.length c], .int .i64 2]) ?_
    rw [if_neg (fun e => by cases e)]
    exact ⟨rfl, rfl⟩
  | true =>
    obtain ⟨_, hs0, hn0, hnl⟩ := refB_lt hr
    have hq : v.n.toNat < l.length := by omega
    have hcb := hcl _ (List.getElem_mem hq)
    rw [obN_at hr hq]
    refine RP [] (.d (.d (.d (.d .a)))) 10 (.i 19 (.bool true) (.i 18 (.agg #[.string (mkS l[v.n.toNat].tag), .slice l[v.n.toNat].a l[v.n.toNat].cells.length l[v.n.toNat].c]) (.d (.d (.d (.k .a)))))) .a 43 [.string ⟨#[]⟩, .slice none 0 0] fun g5 => ?_
    refine RR [6, 6] .z (.i 11 (.bool true) (.k (.d (.d (.k .a))))) (.k (.k (.k (.k (.k (.k (.u (.i (.string (mkS l[v.n.toNat].tag)) (.i (.slice l[v.n.toNat].a l[v.n.toNat].cells.length l[v.n.toNat].c) .z)) .a))))))) ?_
    refine RZ (NT (SQ (SQ (RG ?_))))
    refine RR [4, 4, 4, 2] (.d (.d (.d (.d (.d (.d (.d .a))))))) (.i 26 (.int .i64 (↑l.length : Int)) (.i 23 (.agg #[.int .i64 x.k, .int .i64 x.n, .string (mkS x.s)]) (.i 22 (.bool false) (.d (.k .a))))) .a ?_
    refine RC (dst := some 27) [] .a (hck) ?_
    rintro r _ ⟨rfl, rfl⟩
    cases hrx : rightB x l.length with
    | false =>
      rw [setR_no (by simp [cellB, hrx])]
      refine RR [] .z (.i 34 (.bool true) (.d (.d (.d (.d (.k .a)))))) .a ?_
      refine RZ (NT (CT (SQ (RG ?_))))
      refine RR [2, 2, 5, 5] .z (.i 9 (.int .i64 2) (.d (.k (.d (.k .a))))) (.k (.k (.k (.k (.k (.u (.i (.int .i64 most) (.i (.slice a l.length c) .z)) .a)))))) ?_
      refine RZ (NT (RE (TR ?_)))
      refine NE [] .z .a [5, 5] (.tuple #[.agg #[.int .i64 most, .slice a l.length c], .int .i64 2]) ?_
      rw [if_neg (fun e => by cases e)]
      exact ⟨rfl, rfl⟩
    | true =>
    by_cases hk : x.k = 0
    · rw [setR_no (by simp [cellB, hk])]
      refine RR [4] .z (.i 34 (.bool (x.k == (0 : Int))) (.d (.d (.d (.d (.k .a)))))) .a ?_
      refine RZ (NT ?_)
      refine SC 34 (x.k == (0 : Int)) true (by simp only [bne_iff_ne, beq_iff_eq, ne_eq]; omega) ?_
      refine CT (SQ (RG ?_))
      refine RR [2, 2, 5, 5] .z (.i 9 (.int .i64 2) (.d (.d (.k (.d (.k .a)))))) (.k (.k (.k (.k (.k (.u (.i (.int .i64 most) (.i (.slice a l.length c) .z)) .a)))))) ?_
      refine RZ (NT (RE (TR ?_)))
      refine NE [] .z .a [5, 5] (.tuple #[.agg #[.int .i64 most, .slice a l.length c], .int .i64 2]) ?_
      rw [if_neg (fun e => by cases e)]
      exact ⟨rfl, rfl⟩
    · have hcx : cellB l.length x = true := by simp [cellB, hrx, hk]
      by_cases h0 : 0 ≤ i
      · by_cases h1 : i < l[v.n.toNat].cells.length
        · obtain ⟨j, rfl⟩ : ∃ j : Nat, i = j := ⟨i.toNat, by omega⟩
          have hi2 : j < l[v.n.toNat].cells.length := by omega
          have hsR := setR_in hr hcx hq hi2
          refine RR [4] .z (.i 34 (.bool (x.k == (0 : Int))) (.d (.d (.d (.d (.k .a)))))) .a ?_
          refine RZ (NT ?_)
          refine SC 34 (x.k == (0 : Int)) false (by simp only [bne_eq_false_iff_eq, beq_eq_false_iff_ne, ne_eq]; omega) ?_
          refine CF (SK (NT (SQ (SQ (RG ?_)))))
          refine RR [6] .z (.i 44 (.bool (decide ((↑j : Int) ≥ (↑l[v.n.toNat].cells.length : Int)))) (.d (.d (.k .a)))) .a ?_
          refine RZ (NT ?_)
          refine SC 44 (decide ((↑j : Int) ≥ (↑l[v.n.toNat].cells.length : Int))) false (decide_eq_false (by omega)) ?_
          refine CF (SK (NT (SQ (RG ?_))))
          refine RN [] (.d .a) 46 (fun g6 => (.slice (some ⟨g6, 0, none⟩) 0 0)) (.d (.d (.k .a))) .a 43 [] fun g6 => ?_
          refine RR [2] (.d (.d .a)) (.i 48 (.slice a l.length c) .a) .a ?_
          refine wpr_ent (ent_turn 7 (row 43 2 (some ⟨g6, 0, none⟩) 0 0 []) rfl (turn_blk rfl (by intro u hu; cases hu) (by simp)) rfl) ?_
          refine wpr_app (a := (some ⟨g6, 0, none⟩)) (n := 0) (cap := 0) (x := (.slice a l.length c)) (t := 37) (xt := 37) (dst := some 49) (by kernel_rfl) (e := 43) (sz := 2) (bytes := 40) (by kernel_rfl) 7 (xs := []) (by kernel_rfl) (m := l.length) (news := (l.flatMap objC)) (fun w h => src_ro h 0 rfl (objs_len l) (fun e => by rw [ha e]; rfl)) (by unfold maxLen; omega) (by omega) ?_
          intro a1 c1 hn1
          simp only [List.nil_append, Nat.zero_add]
          refine RR [] .z (.i 12 (.slice a1 l.length c1) (.d (.d (.d (.k .a))))) .a ?_
          refine RZ (NT (SQ (RG ?_)))
          refine RR [6] (.d (.d .a)) (.i 51 (.slice l[v.n.toNat].a l[v.n.toNat].cells.length l[v.n.toNat].c) .a) .a ?_
          refine wpr_ent (ent_copy 1 (ro l[v.n.toNat].a (l[v.n.toNat].cells.flatMap valC)) rfl (fun h => h) (view_in (obRo_in hq) view_ro)) ?_
          refine RCG (dst := some 52) .a (rown_spec l[v.n.toNat].a l[v.n.toNat].c l[v.n.toNat].cells (hna _ (List.getElem_mem hq)) hcb) (GV (GI []) 0 view_ro) ?_
          rintro r _ ⟨a2, c2, hn2, hc2, rfl, rfl⟩
          refine wpr_fact (fun w h => row_addr h 0 rfl (by omega)) ?_
          rintro ⟨g7, o7, rfl⟩
          refine wpr_fact (fun w h => row_addr h 9 rfl (by omega)) ?_
          rintro ⟨g8, o8, rfl⟩
          refine RR [] .z (.i 13 (.slice (some ⟨g7, o7, none⟩) l[v.n.toNat].cells.length c2) (.d (.d (.k .a)))) .a ?_
          refine RZ (NT (SQ (RG ?_)))
          refine RV true [6, 6, 6] (.d (.d (.d (.d .a)))) (.i 56 (.pointer (some ⟨g7, o7 + j * 3, none⟩)) (.i 55 (.agg #[.int .i64 x.k, .int .i64 x.n, .string (mkS x.s)]) (.k (.k (.k (.k (.k (.d (.k (.k .z)))))))))) .a [(0 : Int) ≤ (↑j : Int) ∧ (↑j : Int) < (↑l[v.n.toNat].cells.length : Int)] ⟨by omega, trivial⟩ ?_
          refine wpr_eq (stq' (t := 28) (g := g7) (off := o7) (q := (j * 3)) (v := (.agg #[.int .i64 x.k, .int .i64 x.n, .string (mkS x.s)])) (dst := none) (by kernel_rfl) 0 (T := 28) (sz := 3) (n := (l[v.n.toNat].cells.length)) (cap := c2) (xs := (List.flatMap valC l[v.n.toNat].cells)) (by kernel_rfl) [.int .i64 x.k, .int .i64 x.n, .string (mkS x.s)] (by kernel_rfl) (by kernel_rfl) (by simp [Go.Sx.One, Value.oneCell']) (by rw [vals_len]; show _ + 3 ≤ _; omega) (xs' := ((l[v.n.toNat].cells.set j x).flatMap valC)) (by rw [vals_set hi2, List.append_assoc]; rfl)) ?_
          refine RZ (NT (SQ (RG ?_)))
          refine RV true [5, 8] (.d (.d (.d (.d (.d (.d (.d (.d .a)))))))) (.i 64 (.pointer (some ⟨g8, o8 + v.n.toNat * 2, none⟩)) (.i 63 (.agg #[.string (mkS l[v.n.toNat].tag), .slice (some ⟨g7, o7, none⟩) l[v.n.toNat].cells.length c2]) (.d (.d (.d (.k (.d (.k (.k (.d (.k .a))))))))))) .a [(0 : Int) ≤ v.n ∧ v.n < (↑l.length : Int)] ⟨by omega, trivial⟩ ?_
          obtain ⟨o', ho'⟩ : ∃ o', o' = Ob.mk l[v.n.toNat].tag (some ⟨g7, o7, none⟩) c2 (l[v.n.toNat].cells.set j x) := ⟨_, rfl⟩
          have hrow : row 28 3 (some (Addr.mk g7 o7 none)) l[v.n.toNat].cells.length c2 ((l[v.n.toNat].cells.set j x).flatMap valC) = obRow o' := by
            rw [ho']; unfold obRow; dsimp only; rw [List.length_set]
          have hobj : objC o' = [.string (mkS l[v.n.toNat].tag), .slice (some ⟨g7, o7, none⟩) l[v.n.toNat].cells.length c2] := by rw [ho']; unfold objC; dsimp only; rw [List.length_set]
          refine wpr_eq (stq' (t := 43) (g := g8) (off := o8) (q := (v.n.toNat * 2)) (v := (.agg #[.string (mkS l[v.n.toNat].tag), .slice (some ⟨g7, o7, none⟩) l[v.n.toNat].cells.length c2])) (dst := none) (by kernel_rfl) 9 (T := 43) (sz := 2) (n := l.length) (cap := c1) (xs := (List.flatMap objC l)) (by kernel_rfl) [.string (mkS l[v.n.toNat].tag), .slice (some ⟨g7, o7, none⟩) l[v.n.toNat].cells.length c2] (by kernel_rfl) (by kernel_rfl) (by simp [Go.Sx.One, Value.oneCell']) (by rw [objs_len]; show _ + 2 ≤ _; omega) (xs' := ((l.set v.n.toNat o').flatMap objC)) (by rw [objs_put hq, hobj, List.append_assoc]; rfl)) ?_
          refine RZ (NT (SQ (RG ?_)))
          refine RR [4, 7, 7] .z (.d (.d (.d (.k (.k .z))))) (.k (.k (.k (.k (.k (.k (.k (.u (.i (.int .i64 most) (.i (.slice (some ⟨g8, o8, none⟩) l.length c1) .z)) .a)))))))) ?_
          refine RZ (NT (RE ?_))
          rw [hrow]
          refine NE [9, 0] (.i (row 43 2 (some ⟨g8, o8, none⟩) l.length c1 (List.flatMap objC (l.set v.n.toNat o'))) (.k .z)) (.d (.k (.k (.k (.k (.k (.k (.k (.k .z))))))))) [7, 7] (.tuple #[.agg #[.int .i64 most, .slice (some ⟨g8, o8, none⟩) l.length c1], .int .i64 0]) ?_
          rw [hsR, if_pos rfl]
          refine ⟨_, _, o', ?_, rfl, rfl⟩
          rw [List.map_set, List.map_set, ho']; rfl
        · rw [setR_out hr hcx hq (by simp [inB, h1])]
          refine RR [4] .z (.i 34 (.bool (x.k == (0 : Int))) (.d (.d (.d (.d (.k .a)))))) .a ?_
          refine RZ (NT ?_)
          refine SC 34 (x.k == (0 : Int)) false (by simp only [bne_eq_false_iff_eq, beq_eq_false_iff_ne, ne_eq]; omega) ?_
          refine CF (SK (NT (SQ (SQ (RG ?_)))))
          refine RR [] (.d (.d (.d .a))) (.i 38 (.bool (decide (i < (0 : Int)))) (.d (.d (.k .a)))) .a ?_
          refine SR 38 (decide (i < (0 : Int))) false (decide_eq_false (by omega)) ?_
          refine RR [6] .z (.i 44 (.bool (decide (i ≥ (↑l[v.n.toNat].cells.length : Int)))) (.d (.d (.k .a)))) .a ?_
          refine RZ (NT ?_)
          refine SC 44 (decide (i ≥ (↑l[v.n.toNat].cells.length : Int))) true (decide_eq_true (by omega)) ?_
          refine CT (SQ (RG ?_))
          refine RR [2, 2, 5, 5] .z (.i 9 (.int .i64 10) (.d (.d (.k (.d (.k .a)))))) (.k (.k (.k (.k (.k (.u (.i (.int .i64 most) (.i (.slice a l.length c) .z)) .a)))))) ?_
          refine RZ (NT (RE (TR ?_)))
          refine NE [] .z .a [5, 5] (.tuple #[.agg #[.int .i64 most, .slice a l.length c], .int .i64 10]) ?_
          rw [if_neg (fun e => by cases e)]
          exact ⟨rfl, rfl⟩
      · rw [setR_out hr hcx hq (by simp [inB, h0])]
        refine RR [4] .z (.i 34 (.bool (x.k == (0 : Int))) (.d (.d (.d (.d (.k .a)))))) .a ?_
        refine RZ (NT ?_)
        refine SC 34 (x.k == (0 : Int)) false (by simp only [bne_eq_false_iff_eq, beq_eq_false_iff_ne, ne_eq]; omega) ?_
        refine CF (SK (NT (SQ (SQ (RG ?_)))))
        refine RR [] (.d (.d (.d .a))) (.i 38 (.bool (decide (i < (0 : Int)))) (.d (.d (.k .a)))) .a ?_
        refine SR 38 (decide (i < (0 : Int))) true (decide_eq_true (by omega)) ?_
        refine RR [] .z (.i 44 (.bool true) (.d (.d (.k .a)))) .a ?_
        refine RZ (NT (CT (SQ (RG ?_))))
        refine RR [2, 2, 5, 5] .z (.i 9 (.int .i64 10) (.d (.k (.d (.k .a))))) (.k (.k (.k (.k (.k (.u (.i (.int .i64 most) (.i (.slice a l.length c) .z)) .a)))))) ?_
        refine RZ (NT (RE (TR ?_)))
        refine NE [] .z .a [5, 5] (.tuple #[.agg #[.int .i64 most, .slice a l.length c], .int .i64 10]) ?_
        rw [if_neg (fun e => by cases e)]
        exact ⟨rfl, rfl⟩
end Go.Proofs.YtpfhleghgkeemaaGreatDoor
