import Derived.Test.YtpfhleghgkeemaaGreatDoorH17
import Derived.Test.YtpfhleghgkeemaaGreatDoorY2
namespace Go.Proofs.YtpfhleghgkeemaaGreatDoor
open Go Go.Sx
set_option linter.unusedVariables false
set_option linter.unusedSimpArgs false

def Ob.sm (o : Ob) : Prop := o.tag.length ≤ 1048576 ∧ o.cells.length ≤ o.c ∧ o.cells.length ≤ 1048576 ∧ smL o.cells
def smO (l : List Ob) : Prop := ∀ o ∈ l, o.sm
theorem len_le_used (l : List Nat) : l.length ≤ usedN l := by
  induction l with
  | nil => exact Nat.zero_le _
  | cons n l ih => simp only [usedN, List.map_cons, List.sum_cons, List.length_cons] at ih ⊢; omega
/-- What is right among objects. -/
def okObs (m : Nat) (l : List Ob) : Bool := l.all fun o => objB m o.tag o.cells
def usedO (l : List O) : Nat := usedN (l.map fun o => o.2.length)
theorem usedO_eq (l : List Ob) : usedN (l.map Ob.n) = usedO (l.map Ob.o) := by
  unfold usedO; rw [List.map_map]; rfl
theorem usedN_le (l : List Nat) (i : Nat) : usedN (l.take i) ≤ usedN l := by
  conv => rhs; rw [← List.take_append_drop i l]
  simp only [usedN, List.map_append, List.sum_append]; omega
theorem usedN_at {l : List Ob} {i : Nat} (hi : i < l.length) : usedN ((l.take i).map Ob.n) + (l[i].cells.length + 1) ≤ usedN (l.map Ob.n) := by
  have h1 := usedN_le (l.map Ob.n) (i + 1)
  rw [← List.map_take, take_snoc Ob.n hi, usedN_snoc] at h1
  exact h1
theorem ob_o_n {l l' : List Ob} (h : l'.map Ob.o = l.map Ob.o) : l'.map Ob.n = l.map Ob.n := by
  have := congrArg (List.map fun o : O => o.2.length) h
  rwa [List.map_map, List.map_map] at this
theorem Load_spec (m : Int) (a : Option Addr) (c : Nat) (l : List Ob) (hl : l.length ≤ 1048576) (hs : smO l) :
    Does Tryz.prog 28 [.int .i64 m, .slice a l.length c] [ro a (l.flatMap objC), gBag l, gWords]
      (fun r hp' => if okObs l.length l = false then r = .tuple #[.pointer none, .int .i64 2] ∧ hp' = []
        else if (usedN (l.map Ob.n) : Int) ≤ mostI m then ∃ g a' c' l', l'.map Ob.o = l.map Ob.o ∧ r = .tuple #[.pointer (some ⟨g, 0, none⟩), .int .i64 0] ∧ hp' = Hp3 g (mostI m) (usedN (l'.map Ob.n)) a' c' l'
        else r = .tuple #[.pointer none, .int .i64 12] ∧ hp' = []) := by
  unfold Hp3 heapB heapR heapS
  refine fn_enter Tryz.func28 rfl 37 rfl fun w0 h0 => ?_
  refine SQ (RG ?_)
  refine RR [] .z (.i 5 (.int .i64 0) (.i 4 (.pointer none) .a)) .a ?_
  refine RZ (NT (SQ (SQ (RG ?_))))
  refine RR [] .z (.i 13 (.int .i64 0) (.i 12 (.int .i64 (↑l.length : Int)) (.i 11 (.slice a l.length c) .a))) .a ?_
  refine RZ (NT (BK ?_))
  refine wpc_loop (X := {n : Nat // ∃ h : n ≤ l.length, ∀ j, (hj : j < n) → objB l.length (l[j]'(by omega)).tag (l[j]'(by omega)).cells = true}) (fun x => St.mk [(13, .int .i64 (x.1 : Int)), (12, .int .i64 l.length), (11, .slice a l.length c), (5, .int .i64 0), (4, .pointer none), (0, .int .i64 m), (1, .slice a l.length c)] [ro a (l.flatMap objC), gBag l, gWords]) (fun x => l.length - x.1) ⟨0, Nat.zero_le _, fun j h => absurd h (Nat.not_lt_zero _)⟩ (ent_fr (by kernel_rfl)) ?_
  rintro ⟨n, hn, hall⟩
  dsimp only at hn hall ⊢
  by_cases hlt : n < l.length
  · refine wpc_fact (fun w h => ro_addr h 0 rfl (by rw [objs_len]; omega)) ?_
    rintro ⟨g0, o0, rfl⟩
    obtain ⟨s1, s2, s3, s4⟩ := hs l[n] (List.getElem_mem hlt)
    refine SQ (RG ?_)
    refine RR [] .z (.i 14 (.bool (decide ((↑n : Int) < (↑l.length : Int)))) .a) .a ?_
    refine RZ (NT (SQ ?_))
    refine SC 14 (decide ((↑n : Int) < (↑l.length : Int))) true (decide_eq_true (by omega)) ?_
    refine CT (SK (NT (SQ (BK (SQ (RG ?_))))))
    refine RV true [] (.d .a) (.i 15 (.pointer (some ⟨g0, o0 + n * 2, none⟩)) (.d (.d (.k .a)))) .a [(0 : Int) ≤ (↑n : Int) ∧ (↑n : Int) < (↑l.length : Int)] ⟨by first | omega | decide | (simp; done), trivial⟩ ?_
    refine wpr_eq (ld (t := 43) (a := ⟨g0, o0 + n * 2, none⟩) (dst := some 16) (by kernel_rfl) true 2 (by kernel_rfl) (by simp) [.string (mkS l[n].tag), .slice l[n].a l[n].cells.length l[n].c] rfl (fun w h => ld_ro h 0 rfl (n * 2) (objs_at hlt))) ?_
    refine RP [] (.d .a) 7 (.i 16 (.agg #[.string (mkS l[n].tag), .slice l[n].2 l[n].cells.length l[n].c]) (.d (.d (.k .a)))) .a 43 [.string ⟨#[]⟩, .slice none 0 0] fun g1 => ?_
    refine RR [3, 3] .z (.k (.d (.k .a))) (.k (.k (.k (.i (.blk g1 43 [.string (mkS l[n].tag), .slice l[n].2 l[n].cells.length l[n].c]) .z)))) ?_
    refine RZ (NT (SQ (RG ?_)))
    refine RR [3, 3] (.d (.d (.d .a))) (.i 19 (.int .i64 (↑l.length : Int)) (.i 17 (.agg #[.string (mkS l[n].tag), .slice l[n].2 l[n].cells.length l[n].c]) (.d (.k .a)))) (.k (.k (.k (.i (.blk g1 43 [.string (mkS l[n].tag), .slice l[n].2 l[n].cells.length l[n].c]) .z)))) ?_
    refine wpr_ent (ent_copy 1 (ro l[n].a (l[n].cells.flatMap valC)) rfl (fun h => h) (view_in (obRo_in hlt) view_ro)) ?_
    refine RCG (dst := some 20) (.k (.k (.k (.k (.i (.blk g1 43 [.string (mkS l[n].tag), .slice l[n].2 l[n].cells.length l[n].c]) .z))))) (fit_spec l[n].tag l[n].cells l[n].a l[n].c l.length s1 s3 s4) (GV (GV (GI []) 3 view_ro) 0 view_ro) ?_
    rintro v _ ⟨rfl, rfl⟩
    cases hob : objB l.length l[n].tag l[n].cells with
    | true =>
      refine RR [] .z (.i 21 (.bool false) (.d (.d (.d (.k .a))))) (.k (.k (.k (.k (.i (.blk g1 43 [.string (mkS l[n].tag), .slice l[n].2 l[n].cells.length l[n].c]) .z))))) ?_
      refine RZ (NT (CF (SK (BN (NT (RG ?_))))))
      refine RV true [] .z (.i 13 (.int .i64 ((↑n : Int) + 1)) (.d (.d (.k .a)))) (.k (.k (.k (.k (.i (.blk g1 43 [.string (mkS l[n].tag), .slice l[n].2 l[n].cells.length l[n].c]) .z))))) ([inI64 ((↑n : Int) + (1 : Int))]) ⟨by unfold inI64; omega, trivial⟩ ?_
      refine RZ ?_
      exact fun a' w' hS' => ⟨⟨n + 1, hlt, fun j hj => by
              rcases Nat.lt_or_ge j n with h | h
              · exact hall j h
              · obtain rfl : j = n := by omega
                exact hob⟩, by dsimp only; omega, ent_fr (by kernel_rfl) _ _ (ent_hp [1, 1, 1] rfl _ _ hS')⟩
    | false =>
      refine RR [] .z (.i 21 (.bool true) (.d (.d (.d (.k .a))))) (.k (.k (.k (.k (.i (.blk g1 43 [.string (mkS l[n].tag), .slice l[n].2 l[n].cells.length l[n].c]) .z))))) ?_
      refine RZ (NT (CT (SQ (RG ?_))))
      refine RR [] .z (.i 5 (.int .i64 2) (.i 4 (.pointer none) (.d (.k (.k (.k (.d (.d (.k .a))))))))) (.k (.k (.k (.k (.i (.blk g1 43 [.string (mkS l[n].tag), .slice l[n].2 l[n].cells.length l[n].c]) .z))))) ?_
      refine RZ (NT (RE (BR (TR (TR (BR (TR ?_)))))))
      refine NE [] .z (.k (.k (.k (.k (.i (.blk g1 43 [.string (mkS l[n].tag), .slice l[n].2 l[n].cells.length l[n].c]) .z))))) [] (.tuple #[.pointer none, .int .i64 2]) ?_
      have hno : okObs l.length l = false := by
        cases h : okObs l.length l with
        | false => rfl
        | true =>
          have h2 := List.all_eq_true.1 h l[n] (List.getElem_mem hlt)
          rw [hob] at h2; cases h2
      rw [if_pos hno]
      exact ⟨rfl, rfl⟩
  · have hok : okObs l.length l = true := List.all_eq_true.2 fun x hx => by
      obtain ⟨j, hj⟩ := List.getElem?_of_mem hx
      obtain ⟨hj1, rfl⟩ := List.getElem?_eq_some_iff.1 hj
      exact hall j (by omega)
    rw [hok]
    refine SQ (RG ?_)
    refine RR [] .z (.i 14 (.bool (decide ((↑n : Int) < (↑l.length : Int)))) .a) .a ?_
    refine RZ (NT (SQ ?_))
    refine SC 14 (decide ((↑n : Int) < (↑l.length : Int))) false (decide_eq_false (by omega)) ?_
    refine CF (EX (TE (TE (BH (NT (SQ (RG ?_)))))))
    refine RR [] (.d .a) (.i 23 (.int .i64 m) (.d (.d (.d (.d (.d (.k (.k (.d (.k .a)))))))))) .a ?_
    refine RC (dst := some 24) [] .a (New_spec m) ?_
    rintro v _ ⟨g, rfl, rfl⟩
    refine RR [] .z (.i 8 (.pointer (some ⟨g, 0, none⟩)) (.d (.d (.k .a)))) (.i (.blk g 59 [.bool true, .int .i64 (mostI m), .int .i64 0, .slice none 0 0]) (.d (.k .a))) ?_
    refine RZ (NT (SQ (SQ (RG ?_))))
    refine RR [] .z (.i 27 (.int .i64 0) (.i 26 (.int .i64 (↑l.length : Int)) (.i 25 (.slice a l.length c) (.k (.k (.k .z)))))) (.i (.blk g 59 [.bool true, .int .i64 (mostI m), .int .i64 0, .slice none 0 0]) (.d (.k .a))) ?_
    refine RZ (NT (BK ?_))
    have hmo := mostI_le m
    refine wpc_loop (X := {x : Nat × Option Addr × Nat × List Ob // x.1 ≤ l.length ∧ x.2.2.2.map Ob.o = (l.take x.1).map Ob.o ∧ (usedN (x.2.2.2.map Ob.n) : Int) ≤ mostI m}) (fun x => St.mk [(27, .int .i64 (x.1.1 : Int)), (26, .int .i64 l.length), (25, .slice a l.length c), (8, .pointer (some ⟨g, 0, none⟩)), (5, .int .i64 0), (4, .pointer none)]
      [.blk g 59 [.bool true, .int .i64 (mostI m), .int .i64 (usedN (x.1.2.2.2.map Ob.n) : Nat), .slice x.1.2.1 x.1.2.2.2.length x.1.2.2.1], row 43 2 x.1.2.1 x.1.2.2.2.length x.1.2.2.1 (x.1.2.2.2.flatMap objC), star (x.1.2.2.2.map obRow), ro a (l.flatMap objC), gBag l]) (fun x => l.length - x.1.1) ⟨(0, none, 0, []), Nat.zero_le _, rfl, hmo.1⟩ ?_ ?_
    · exact Ent.trans (ent_star_nil) (Ent.trans (ent_nil 43 2) (Ent.trans (ent_hp [2, 0, 0, 0, 0] rfl) (ent_fr (by kernel_rfl))))
    rintro ⟨⟨i, a1, c1, l1⟩, hi, hm, hu⟩
    dsimp only at hi hm hu ⊢
    by_cases hlt : i < l.length
    · refine wpc_fact (fun w h => ro_addr h 3 rfl (by rw [objs_len]; omega)) ?_
      rintro ⟨g0, o0, rfl⟩
      refine wpc_fact (fun w h => gob_nil h (i := 4) rfl hlt) fun hnil => ?_
      obtain ⟨s1, s2, s3, s4⟩ := hs l[i] (List.getElem_mem hlt)
      have hl1 : l1.length ≤ 4096 := by
        have := len_le_used (l1.map Ob.n)
        rw [List.length_map] at this; omega
      have hput := put_spec g (mostI m) a1 c1 l1 l[i].tag l[i].cells l[i].a l[i].c hmo hu hl1 hnil s2 s3
      unfold heapB heapR heapS at hput
      refine SQ (RG ?_)
      refine RR [] .z (.i 28 (.bool (decide ((↑i : Int) < (↑l.length : Int)))) .a) (.i (.blk g 59 [.bool true, .int .i64 (mostI m), .int .i64 (↑(usedN (List.map Ob.n l1)) : Int), .slice a1 l1.length c1]) (.d (.k .a))) ?_
      refine RZ (NT (SQ ?_))
      refine SC 28 (decide ((↑i : Int) < (↑l.length : Int))) true (decide_eq_true (by omega)) ?_
      refine CT (SK (NT (SQ (BK (SQ (RG ?_))))))
      refine RV true [] (.d .a) (.i 29 (.pointer (some ⟨g0, o0 + i * 2, none⟩)) (.d (.d (.k .a)))) (.i (.blk g 59 [.bool true, .int .i64 (mostI m), .int .i64 (↑(usedN (List.map Ob.n l1)) : Int), .slice a1 l1.length c1]) (.d (.k .a))) [(0 : Int) ≤ (↑i : Int) ∧ (↑i : Int) < (↑l.length : Int)] ⟨by first | omega | decide | (simp; done), trivial⟩ ?_
      refine wpr_eq (ld (t := 43) (a := ⟨g0, o0 + i * 2, none⟩) (dst := some 30) (by kernel_rfl) true 2 (by kernel_rfl) (by simp) [.string (mkS l[i].tag), .slice l[i].a l[i].cells.length l[i].c] rfl (fun w h => ld_ro h 3 rfl (i * 2) (objs_at hlt))) ?_
      refine RP [] (.d .a) 10 (.i 30 (.agg #[.string (mkS l[i].tag), .slice l[i].2 l[i].cells.length l[i].c]) (.d (.d (.k .a)))) (.i (.blk g 59 [.bool true, .int .i64 (mostI m), .int .i64 (↑(usedN (List.map Ob.n l1)) : Int), .slice a1 l1.length c1]) (.d (.k .a))) 43 [.string ⟨#[]⟩, .slice none 0 0] fun g1 => ?_
      refine RR [5, 5] .z (.k (.d (.k .a))) (.i (.blk g 59 [.bool true, .int .i64 (mostI m), .int .i64 (↑(usedN (List.map Ob.n l1)) : Int), .slice a1 l1.length c1]) (.d (.k (.k (.k (.k (.i (.blk g1 43 [.string (mkS l[i].tag), .slice l[i].2 l[i].cells.length l[i].c]) .z))))))) ?_
      refine RZ (NT (SQ (RG ?_)))
      refine RR [5, 5] (.d (.d .a)) (.i 32 (.agg #[.string (mkS l[i].tag), .slice l[i].2 l[i].cells.length l[i].c]) (.i 31 (.pointer (some ⟨g, 0, none⟩)) (.d (.k .a)))) (.i (.blk g 59 [.bool true, .int .i64 (mostI m), .int .i64 (↑(usedN (List.map Ob.n l1)) : Int), .slice a1 l1.length c1]) (.d (.k (.k (.k (.k (.i (.blk g1 43 [.string (mkS l[i].tag), .slice l[i].2 l[i].cells.length l[i].c]) .z))))))) ?_
      refine wpr_ent (ent_copy 4 (ro l[i].a (l[i].cells.flatMap valC)) rfl (fun h => h) (view_in (obRo_in hlt) view_ro)) ?_
      refine RCG (dst := some 33) (.k (.d (.d (.d (.k (.k (.i (.blk g1 43 [.string (mkS l[i].tag), .slice l[i].2 l[i].cells.length l[i].c]) .z))))))) (hput) (GO (GV (GJ [1, 1, 1]) 0 view_ro) [1, 1, 1, 0]) ?_
      intro v hp' h
      by_cases hf : (l[i].cells.length : Int) < mostI m - usedN (l1.map Ob.n)
      · rw [if_pos hf] at h
        obtain ⟨a2, c2, o, rfl, h1, h2, rfl⟩ := h
        refine RR [] .z (.i 34 (.bool false) (.d (.d (.d (.k .a))))) (.i (.blk g 59 [.bool true, .int .i64 (mostI m), .int .i64 (↑(usedN (List.map Ob.n (l1 ++ [o]))) : Int), .slice a2 (l1 ++ [o]).length c2]) (.d (.k (.k (.k (.k (.k (.i (.blk g1 43 [.string (mkS l[i].tag), .slice l[i].2 l[i].cells.length l[i].c]) .z)))))))) ?_
        refine RZ (NT (CF (SK (BN (NT (RG ?_))))))
        refine RV true [] .z (.i 27 (.int .i64 ((↑i : Int) + 1)) (.d (.d (.k .a)))) (.i (.blk g 59 [.bool true, .int .i64 (mostI m), .int .i64 (↑(usedN (List.map Ob.n (l1 ++ [o]))) : Int), .slice a2 (l1 ++ [o]).length c2]) (.d (.k (.k (.k (.k (.k (.i (.blk g1 43 [.string (mkS l[i].tag), .slice l[i].2 l[i].cells.length l[i].c]) .z)))))))) ([inI64 ((↑i : Int) + (1 : Int))]) ⟨by unfold inI64; omega, trivial⟩ ?_
        refine RZ ?_
        exact fun a' w' hS' => ⟨⟨(i + 1, a2, c2, l1 ++ [o]), hlt, by rw [take_snoc Ob.o hlt, ← hm, List.map_append]; unfold Ob.o; rw [List.map_singleton, h1, h2], by
                  rw [List.map_append, List.map_singleton, usedN_snoc]; simp only [Ob.n, h2]; omega⟩, by dsimp only; omega, ent_fr (by kernel_rfl) _ _ (ent_hp [0, 0, 0, 1, 1] rfl _ _ hS')⟩
      · rw [if_neg hf] at h
        obtain ⟨rfl, rfl⟩ := h
        refine RR [] .z (.i 34 (.bool true) (.d (.d (.d (.k .a))))) (.i (.blk g 59 [.bool true, .int .i64 (mostI m), .int .i64 (↑(usedN (List.map Ob.n l1)) : Int), .slice a1 l1.length c1]) (.d (.k (.k (.k (.k (.k (.i (.blk g1 43 [.string (mkS l[i].tag), .slice l[i].2 l[i].cells.length l[i].c]) .z)))))))) ?_
        refine RZ (NT (CT (SQ (RG ?_))))
        refine RR [] .z (.i 5 (.int .i64 12) (.i 4 (.pointer none) (.d (.k (.k (.k (.k .z))))))) (.i (.blk g 59 [.bool true, .int .i64 (mostI m), .int .i64 (↑(usedN (List.map Ob.n l1)) : Int), .slice a1 l1.length c1]) (.d (.k (.k (.k (.k (.k (.i (.blk g1 43 [.string (mkS l[i].tag), .slice l[i].2 l[i].cells.length l[i].c]) .z)))))))) ?_
        refine RZ (NT (RE (BR (TR (TR (BR (TR ?_)))))))
        refine NE [] .z (.i (.blk g 59 [.bool true, .int .i64 (mostI m), .int .i64 (↑(usedN (List.map Ob.n l1)) : Int), .slice a1 l1.length c1]) (.d (.k (.k (.k (.k (.k (.i (.blk g1 43 [.string (mkS l[i].tag), .slice l[i].2 l[i].cells.length l[i].c]) .z)))))))) [] (.tuple #[.pointer none, .int .i64 12]) ?_
        have hno : ¬ (usedN (l.map Ob.n) : Int) ≤ mostI m := fun h => by
          have h3 := usedN_at hlt
          rw [← ob_o_n hm] at h3
          omega
        rw [if_neg (by simp), if_neg hno]
        exact ⟨rfl, rfl⟩
    · obtain rfl : i = l.length := by omega
      rw [List.take_length] at hm
      refine SQ (RG ?_)
      refine RR [] .z (.i 28 (.bool (decide ((↑l.length : Int) < (↑l.length : Int)))) .a) (.i (.blk g 59 [.bool true, .int .i64 (mostI m), .int .i64 (↑(usedN (List.map Ob.n l1)) : Int), .slice a1 l1.length c1]) (.d (.k .a))) ?_
      refine RZ (NT (SQ ?_))
      refine SC 28 (decide ((↑l.length : Int) < (↑l.length : Int))) false (by simp) ?_
      refine CF (EX (TE (TE (BH (NT (SQ (RG ?_)))))))
      refine RR [] .z (.d (.d (.d (.d (.d (.d (.k (.i 4 (.pointer (some ⟨g, 0, none⟩)) .z)))))))) (.i (.blk g 59 [.bool true, .int .i64 (mostI m), .int .i64 (↑(usedN (List.map Ob.n l1)) : Int), .slice a1 l1.length c1]) (.d (.k .a))) ?_
      refine RZ (NT (RE ?_))
      refine NE [0, 0, 0] (.i (.blk g 59 [.bool true, .int .i64 (mostI m), .int .i64 (↑(usedN (List.map Ob.n l1)) : Int), .slice a1 l1.length c1]) (.d (.k (.k .z)))) (.d (.d (.d (.k .a)))) [] (.tuple #[.pointer (some ⟨g, 0, none⟩), .int .i64 0]) ?_
      rw [if_neg (by simp), ← ob_o_n hm, if_pos hu]
      exact ⟨g, a1, c1, l1, hm, rfl, rfl⟩
end Go.Proofs.YtpfhleghgkeemaaGreatDoor
