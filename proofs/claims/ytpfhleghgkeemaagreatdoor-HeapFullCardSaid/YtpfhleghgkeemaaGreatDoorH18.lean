import Derived.Test.YtpfhleghgkeemaaGreatDoorH17
import Derived.Test.YtpfhleghgkeemaaGreatDoorX16
namespace Go.Proofs.YtpfhleghgkeemaaGreatDoor
open Go Go.Sx
set_option linter.unusedSimpArgs false

def Ob.sm (o : Ob) : Prop := o.tag.length ≤ 1048576 ∧ o.cells.length ≤ o.c ∧ o.cells.length ≤ 1048576 ∧ smL o.cells
def smO (l : List Ob) : Prop := ∀ o ∈ l, o.sm
theorem len_le_used (l : List Nat) : l.length ≤ usedN l := by
  induction l with
  | nil => exact Nat.zero_le _
  | cons n l ih => simp only [usedN, List.map_cons, List.sum_cons, List.length_cons] at ih ⊢; omega
/-- What is right among objects. -/
def okObs (m : Nat) (l : List Ob) : Bool := l.all fun o => objB m o.tag o.cells
def usedO (l : List O) : Nat := usedN (l.map fun o => o.2.length)
theorem usedO_eq (l : List Ob) : usedN (l.map Ob.n) = usedO (l.map Ob.o) := by
  unfold usedO; rw [List.map_map]; rfl
theorem usedN_le (l : List Nat) (i : Nat) : usedN (l.take i) ≤ usedN l := by
  conv => rhs; rw [← List.take_append_drop i l]
  simp only [usedN, List.map_append, List.sum_append]; omega
theorem usedN_at {l : List Ob} {i : Nat} (hi : i < l.length) : usedN ((l.take i).map Ob.n) + (l[i].cells.length + 1) ≤ usedN (l.map Ob.n) := by
  have h1 := usedN_le (l.map Ob.n) (i + 1)
  rw [← List.map_take, take_snoc Ob.n hi, usedN_snoc] at h1
  exact h1
theorem ob_o_n {l l' : List Ob} (h : l'.map Ob.o = l.map Ob.o) : l'.map Ob.n = l.map Ob.n := by
  have := congrArg (List.map fun o : O => o.2.length) h
  rwa [List.map_map, List.map_map] at this
theorem Load_spec (m : Int) (a : Option Addr) (c : Nat) (l : List Ob) (hl : l.length ≤ 1048576) (hs : smO l) :
    Does Tryz.prog 28 [.int .i64 m, .slice a l.length c] [ro a (l.flatMap objC), gBag l, gWords]
      (fun r hp' => if okObs l.length l = false then r = .tuple #[.pointer none, .int .i64 2] ∧ hp' = []
        else if (usedN (l.map Ob.n) : Int) ≤ mostI m then ∃ g a' c' l', l'.map Ob.o = l.map Ob.o ∧ r = .tuple #[.pointer (some ⟨g, 0, none⟩), .int .i64 0] ∧ hp' = Hp3 g (mostI m) (usedN (l'.map Ob.n)) a' c' l'
        else r = .tuple #[.pointer none, .int .i64 12] ∧ hp' = []) := by
  unfold Hp3 heapB heapR heapS
  refine fn_enter Tryz.func28 rfl 37 rfl fun w0 h0 => ?_
  refine wpc_seq ?_
  refine wpc_region [0, 1] (by kernel_rfl) ?_
  refine wpr_run (l₂ := []) true [0, 1] [] [(5, .int .i64 0), (4, .pointer none), (0, .int .i64 m), (1, .slice a l.length c)] [ro a (List.flatMap objC l), gBag l, gWords] [] (by kernel_rfl) (by kernel_rfl) trivial ?_
  refine wpr_nil (nx_then (wpc_seq (wpc_seq ?_)))
  refine wpc_region [0, 1, 2] (by kernel_rfl) ?_
  refine wpr_run (l₂ := []) true [0, 1, 2] [] [(13, .int .i64 0), (12, .int .i64 (↑l.length : Int)), (11, .slice a l.length c), (5, .int .i64 0), (4, .pointer none), (0, .int .i64 m), (1, .slice a l.length c)] [ro a (List.flatMap objC l), gBag l, gWords] [] (by kernel_rfl) (by kernel_rfl) trivial ?_
  refine wpr_nil (nx_then ?_)
  refine wpc_block ?_
  refine wpc_loop (X := {n : Nat // ∃ h : n ≤ l.length, ∀ j, (hj : j < n) → objB l.length (l[j]'(by omega)).tag (l[j]'(by omega)).cells = true}) (fun x => St.mk [(13, .int .i64 (x.1 : Int)), (12, .int .i64 l.length), (11, .slice a l.length c), (5, .int .i64 0), (4, .pointer none), (0, .int .i64 m), (1, .slice a l.length c)] [ro a (l.flatMap objC), gBag l, gWords]) (fun x => l.length - x.1) ⟨0, Nat.zero_le _, fun j h => absurd h (Nat.not_lt_zero _)⟩ (ent_fr (by kernel_rfl)) ?_
  rintro ⟨n, hn, hall⟩
  dsimp only at hn hall ⊢
  by_cases hlt : n < l.length
  · refine wpc_fact (fun w h => ro_addr h 0 rfl (by rw [objs_len]; omega)) ?_
    rintro ⟨g0, o0, rfl⟩
    obtain ⟨s1, s2, s3, s4⟩ := hs l[n] (List.getElem_mem hlt)
    refine wpc_seq ?_
    refine wpc_region [0] (by kernel_rfl) ?_
    refine wpr_run (l₂ := []) true [0] [] [(14, .bool (decide ((↑n : Int) < (↑l.length : Int)))), (13, .int .i64 (↑n : Int)), (12, .int .i64 (↑l.length : Int)), (11, .slice (some ⟨g0, o0, none⟩) l.length c), (5, .int .i64 0), (4, .pointer none), (0, .int .i64 m), (1, .slice (some ⟨g0, o0, none⟩) l.length c)] [ro (some ⟨g0, o0, none⟩) (List.flatMap objC l), gBag l, gWords] [] (by kernel_rfl) (by kernel_rfl) trivial ?_
    refine wpr_nil (nx_then (wpc_seq ?_))
    refine wpc_ent (ent_set 14 (.bool (decide ((↑n : Int) < (↑l.length : Int)))) (.bool true) (by kernel_rfl) (congrArg _ (decide_eq_true (by omega)))) ?_
    refine wpc_true (by kernel_rfl) ?_
    refine wpc_skip ?_
    refine nx_then (wpc_seq ?_)
    refine wpc_block ?_
    refine wpc_seq ?_
    refine wpc_region [0, 1, 2, 3] (by kernel_rfl) ?_
    refine wpr_run (l₂ := [1, 2, 3]) true [0] [] ([(15, .pointer (some ⟨g0, o0 + n * 2, none⟩)), (13, .int .i64 (↑n : Int)), (12, .int .i64 (↑l.length : Int)), (11, .slice (some ⟨g0, o0, none⟩) l.length c), (5, .int .i64 0), (4, .pointer none), (0, .int .i64 m), (1, .slice (some ⟨g0, o0, none⟩) l.length c)]) [ro (some ⟨g0, o0, none⟩) (List.flatMap objC l), gBag l, gWords] [(0 : Int) ≤ (↑n : Int) ∧ (↑n : Int) < (↑l.length : Int)] (by kernel_rfl) (by kernel_rfl) ⟨by first | omega | decide | (simp; done), trivial⟩ ?_
    refine wpr_eq (ld (t := 43) (a := ⟨g0, o0 + n * 2, none⟩) (dst := some 16) (by kernel_rfl) true 2 (by kernel_rfl) (by simp) [.string (mkS l[n].tag), .slice l[n].a l[n].cells.length l[n].c] rfl (fun w h => ld_ro h 0 rfl (n * 2) (objs_at hlt))) ?_
    refine wpr_new (l₂ := [3]) true [2] [] (fun g1 => [(7, .pointer (some ⟨g1, 0, none⟩)), (16, .agg #[.string (mkS l[n].tag), .slice l[n].2 l[n].cells.length l[n].c]), (13, .int .i64 (↑n : Int)), (12, .int .i64 (↑l.length : Int)), (11, .slice (some ⟨g0, o0, none⟩) l.length c), (5, .int .i64 0), (4, .pointer none), (0, .int .i64 m), (1, .slice (some ⟨g0, o0, none⟩) l.length c)]) (fun g1 => [ro (some ⟨g0, o0, none⟩) (List.flatMap objC l), gBag l, gWords, .blk g1 43 [.string ⟨#[]⟩, .slice none 0 0]]) (fun g1 => []) (fun g1 => by kernel_rfl) (fun g1 => by kernel_rfl) (fun g1 => trivial) fun g1 => ?_
    refine wpr_run (l₂ := []) true [3] [3, 3] [(7, .pointer (some ⟨g1, 0, none⟩)), (13, .int .i64 (↑n : Int)), (12, .int .i64 (↑l.length : Int)), (11, .slice (some ⟨g0, o0, none⟩) l.length c), (5, .int .i64 0), (4, .pointer none), (0, .int .i64 m), (1, .slice (some ⟨g0, o0, none⟩) l.length c)] [ro (some ⟨g0, o0, none⟩) (List.flatMap objC l), gBag l, gWords, .blk g1 43 [.string (mkS l[n].tag), .slice l[n].2 l[n].cells.length l[n].c]] [] (by kernel_rfl) (by kernel_rfl) trivial ?_
    refine wpr_nil (nx_then (wpc_seq ?_))
    refine wpc_region [0, 1, 2, 3, 4] (by kernel_rfl) ?_
    refine wpr_run (l₂ := [3, 4]) true [0, 1, 2] [3, 3] [(19, .int .i64 (↑l.length : Int)), (17, .agg #[.string (mkS l[n].tag), .slice l[n].2 l[n].cells.length l[n].c]), (13, .int .i64 (↑n : Int)), (12, .int .i64 (↑l.length : Int)), (11, .slice (some ⟨g0, o0, none⟩) l.length c), (5, .int .i64 0), (4, .pointer none), (0, .int .i64 m), (1, .slice (some ⟨g0, o0, none⟩) l.length c)] [ro (some ⟨g0, o0, none⟩) (List.flatMap objC l), gBag l, gWords, .blk g1 43 [.string (mkS l[n].tag), .slice l[n].2 l[n].cells.length l[n].c]] [] (by kernel_rfl) (by kernel_rfl) trivial ?_
    refine wpr_ent (ent_copy 1 (ro l[n].a (l[n].cells.flatMap valC)) rfl (fun h => h) (view_in (obRo_in hlt) view_ro)) ?_
    refine wpr_call (dst := some 20) (rest := [ro l[n].a (List.flatMap valC l[n].cells), ro (some ⟨g0, o0, none⟩) (List.flatMap objC l), gBag l, gWords, .blk g1 43 [.string (mkS l[n].tag), .slice l[n].2 l[n].cells.length l[n].c]]) (by kernel_rfl) (fit_spec l[n].tag l[n].cells l[n].a l[n].c l.length s1 s3 s4) (Give.view (c := (ro l[n].a (List.flatMap valC l[n].cells))) (Give.view (c := gWords) (give (pre := []) (rest := [ro l[n].a (List.flatMap valC l[n].cells), ro (some ⟨g0, o0, none⟩) (List.flatMap objC l), gBag l, gWords, .blk g1 43 [.string (mkS l[n].tag), .slice l[n].2 l[n].cells.length l[n].c]]) [] (by kernel_rfl)) 3 (by kernel_rfl) view_ro) 0 (by kernel_rfl) view_ro) ?_
    rintro v _ ⟨rfl, rfl⟩
    cases hob : objB l.length l[n].tag l[n].cells with
    | true =>
      refine wpr_run (l₂ := []) true [4] [] [(21, .bool false), (13, .int .i64 (↑n : Int)), (12, .int .i64 (↑l.length : Int)), (11, .slice (some ⟨g0, o0, none⟩) l.length c), (5, .int .i64 0), (4, .pointer none), (0, .int .i64 m), (1, .slice (some ⟨g0, o0, none⟩) l.length c)] [ro l[n].a (List.flatMap valC l[n].cells), ro (some ⟨g0, o0, none⟩) (List.flatMap objC l), gBag l, gWords, .blk g1 43 [.string (mkS l[n].tag), .slice l[n].2 l[n].cells.length l[n].c]] [] (by kernel_rfl) (by kernel_rfl) trivial ?_
      refine wpr_nil (nx_then ?_)
      refine wpc_false (by kernel_rfl) ?_
      refine wpc_skip ?_
      refine nx_block (nx_then ?_)
      refine wpc_region [0, 1] (by kernel_rfl) ?_
      refine wpr_run (l₂ := []) true [0, 1] [] ([(13, .int .i64 ((↑n : Int) + 1)), (12, .int .i64 (↑l.length : Int)), (11, .slice (some ⟨g0, o0, none⟩) l.length c), (5, .int .i64 0), (4, .pointer none), (0, .int .i64 m), (1, .slice (some ⟨g0, o0, none⟩) l.length c)]) [ro l[n].a (List.flatMap valC l[n].cells), ro (some ⟨g0, o0, none⟩) (List.flatMap objC l), gBag l, gWords, .blk g1 43 [.string (mkS l[n].tag), .slice l[n].2 l[n].cells.length l[n].c]] ([inI64 ((↑n : Int) + (1 : Int))]) (by kernel_rfl) (by kernel_rfl) ⟨by unfold inI64; omega, trivial⟩ ?_
      refine wpr_nil ?_
      exact fun a' w' hS' => ⟨⟨n + 1, hlt, fun j hj => by
              rcases Nat.lt_or_ge j n with h | h
              · exact hall j h
              · obtain rfl : j = n := by omega
                exact hob⟩, by dsimp only; omega, ent_fr (by kernel_rfl) _ _ (ent_hp [1, 1, 1] rfl _ _ hS')⟩
    | false =>
      refine wpr_run (l₂ := []) true [4] [] [(21, .bool true), (13, .int .i64 (↑n : Int)), (12, .int .i64 (↑l.length : Int)), (11, .slice (some ⟨g0, o0, none⟩) l.length c), (5, .int .i64 0), (4, .pointer none), (0, .int .i64 m), (1, .slice (some ⟨g0, o0, none⟩) l.length c)] [ro l[n].a (List.flatMap valC l[n].cells), ro (some ⟨g0, o0, none⟩) (List.flatMap objC l), gBag l, gWords, .blk g1 43 [.string (mkS l[n].tag), .slice l[n].2 l[n].cells.length l[n].c]] [] (by kernel_rfl) (by kernel_rfl) trivial ?_
      refine wpr_nil (nx_then ?_)
      refine wpc_true (by kernel_rfl) ?_
      refine wpc_seq ?_
      refine wpc_region [0, 1] (by kernel_rfl) ?_
      refine wpr_run (l₂ := []) true [0, 1] [] [(5, .int .i64 2), (4, .pointer none), (13, .int .i64 (↑n : Int)), (12, .int .i64 (↑l.length : Int)), (11, .slice (some ⟨g0, o0, none⟩) l.length c), (0, .int .i64 m), (1, .slice (some ⟨g0, o0, none⟩) l.length c)] [ro l[n].a (List.flatMap valC l[n].cells), ro (some ⟨g0, o0, none⟩) (List.flatMap objC l), gBag l, gWords, .blk g1 43 [.string (mkS l[n].tag), .slice l[n].2 l[n].cells.length l[n].c]] [] (by kernel_rfl) (by kernel_rfl) trivial ?_
      refine wpr_nil (nx_then ?_)
      refine wpc_ret ?_
      refine nx_block_ret ?_
      refine nx_then_ret ?_
      refine nx_then_ret ?_
      refine nx_block_ret ?_
      refine nx_then_ret ?_
      refine nx_end (hp' := []) (rest := [ro l[n].a (List.flatMap valC l[n].cells), ro (some ⟨g0, o0, none⟩) (List.flatMap objC l), gBag l, gWords, .blk g1 43 [.string (mkS l[n].tag), .slice l[n].2 l[n].cells.length l[n].c]]) [] ((Value.tuple #[.pointer none, .int .i64 2])) (by kernel_rfl) (by kernel_rfl) (give [] (by kernel_rfl)) (by first | ((repeat (first | exact trivial | refine ⟨trivial, ?_⟩)); done) | assumption) ?_ (.inr rfl)
      have hno : okObs l.length l = false := by
        cases h : okObs l.length l with
        | false => rfl
        | true =>
          have h2 := List.all_eq_true.1 h l[n] (List.getElem_mem hlt)
          rw [hob] at h2; cases h2
      rw [if_pos hno]
      exact ⟨rfl, rfl⟩
  · have hok : okObs l.length l = true := List.all_eq_true.2 fun x hx => by
      obtain ⟨j, hj⟩ := List.getElem?_of_mem hx
      obtain ⟨hj1, rfl⟩ := List.getElem?_eq_some_iff.1 hj
      exact hall j (by omega)
    rw [hok]
    refine wpc_seq ?_
    refine wpc_region [0] (by kernel_rfl) ?_
    refine wpr_run (l₂ := []) true [0] [] [(14, .bool (decide ((↑n : Int) < (↑l.length : Int)))), (13, .int .i64 (↑n : Int)), (12, .int .i64 (↑l.length : Int)), (11, .slice a l.length c), (5, .int .i64 0), (4, .pointer none), (0, .int .i64 m), (1, .slice a l.length c)] [ro a (List.flatMap objC l), gBag l, gWords] [] (by kernel_rfl) (by kernel_rfl) trivial ?_
    refine wpr_nil (nx_then (wpc_seq ?_))
    refine wpc_ent (ent_set 14 (.bool (decide ((↑n : Int) < (↑l.length : Int)))) (.bool false) (by kernel_rfl) (congrArg _ (decide_eq_false (by omega)))) ?_
    refine wpc_false (by kernel_rfl) ?_
    refine wpc_exit ?_
    refine nx_then_exit ?_
    refine nx_then_exit ?_
    refine nx_block_here ?_
    refine nx_then (wpc_seq ?_)
    refine wpc_region [0, 1, 2] (by kernel_rfl) ?_
    refine wpr_run (l₂ := [1, 2]) true [0] [] [(23, .int .i64 m), (5, .int .i64 0), (4, .pointer none), (1, .slice a l.length c)] [ro a (List.flatMap objC l), gBag l, gWords] [] (by kernel_rfl) (by kernel_rfl) trivial ?_
    refine wpr_call (dst := some 24) (rest := [ro a (List.flatMap objC l), gBag l, gWords]) (by kernel_rfl) (New_spec m) (give [] (by kernel_rfl)) ?_
    rintro v _ ⟨g, rfl, rfl⟩
    refine wpr_run (l₂ := []) true [2] [] [(8, .pointer (some ⟨g, 0, none⟩)), (5, .int .i64 0), (4, .pointer none), (1, .slice a l.length c)] [.blk g 59 [.bool true, .int .i64 (mostI m), .int .i64 0, .slice none 0 0], ro a (List.flatMap objC l), gBag l, gWords] [] (by kernel_rfl) (by kernel_rfl) trivial ?_
    refine wpr_nil (nx_then (wpc_seq (wpc_seq ?_)))
    refine wpc_region [0, 1, 2] (by kernel_rfl) ?_
    refine wpr_run (l₂ := []) true [0, 1, 2] [] [(27, .int .i64 0), (26, .int .i64 (↑l.length : Int)), (25, .slice a l.length c), (8, .pointer (some ⟨g, 0, none⟩)), (5, .int .i64 0), (4, .pointer none)] [.blk g 59 [.bool true, .int .i64 (mostI m), .int .i64 0, .slice none 0 0], ro a (List.flatMap objC l), gBag l, gWords] [] (by kernel_rfl) (by kernel_rfl) trivial ?_
    refine wpr_nil (nx_then ?_)
    refine wpc_block ?_
    have hmo := mostI_le m
    refine wpc_loop (X := {x : Nat × Option Addr × Nat × List Ob // x.1 ≤ l.length ∧ x.2.2.2.map Ob.o = (l.take x.1).map Ob.o ∧ (usedN (x.2.2.2.map Ob.n) : Int) ≤ mostI m}) (fun x => St.mk [(27, .int .i64 (x.1.1 : Int)), (26, .int .i64 l.length), (25, .slice a l.length c), (8, .pointer (some ⟨g, 0, none⟩)), (5, .int .i64 0), (4, .pointer none)]
      [.blk g 59 [.bool true, .int .i64 (mostI m), .int .i64 (usedN (x.1.2.2.2.map Ob.n) : Nat), .slice x.1.2.1 x.1.2.2.2.length x.1.2.2.1], row 43 2 x.1.2.1 x.1.2.2.2.length x.1.2.2.1 (x.1.2.2.2.flatMap objC), star (x.1.2.2.2.map obRow), ro a (l.flatMap objC), gBag l]) (fun x => l.length - x.1.1) ⟨(0, none, 0, []), Nat.zero_le _, rfl, hmo.1⟩ ?_ ?_
    · exact Ent.trans (ent_star_nil) (Ent.trans (ent_nil 43 2) (Ent.trans (ent_hp [2, 0, 0, 0, 0] rfl) (ent_fr (by kernel_rfl))))
    rintro ⟨⟨i, a1, c1, l1⟩, hi, hm, hu⟩
    dsimp only at hi hm hu ⊢
    by_cases hlt : i < l.length
    · refine wpc_fact (fun w h => ro_addr h 3 rfl (by rw [objs_len]; omega)) ?_
      rintro ⟨g0, o0, rfl⟩
      refine wpc_fact (fun w h => gob_nil h (i := 4) rfl hlt) fun hnil => ?_
      obtain ⟨s1, s2, s3, s4⟩ := hs l[i] (List.getElem_mem hlt)
      have hl1 : l1.length ≤ 4096 := by
        have := len_le_used (l1.map Ob.n)
        rw [List.length_map] at this; omega
      have hput := put_spec g (mostI m) a1 c1 l1 l[i].tag l[i].cells l[i].a l[i].c hmo hu hl1 hnil s2 s3
      unfold heapB heapR heapS at hput
      refine wpc_seq ?_
      refine wpc_region [0] (by kernel_rfl) ?_
      refine wpr_run (l₂ := []) true [0] [] [(28, .bool (decide ((↑i : Int) < (↑l.length : Int)))), (27, .int .i64 (↑i : Int)), (26, .int .i64 (↑l.length : Int)), (25, .slice (some ⟨g0, o0, none⟩) l.length c), (8, .pointer (some ⟨g, 0, none⟩)), (5, .int .i64 0), (4, .pointer none)] [.blk g 59 [.bool true, .int .i64 (mostI m), .int .i64 (↑(usedN (List.map Ob.n l1)) : Int), .slice a1 l1.length c1], row 43 2 a1 l1.length c1 (List.flatMap objC l1), star (List.map obRow l1), ro (some ⟨g0, o0, none⟩) (List.flatMap objC l), gBag l] [] (by kernel_rfl) (by kernel_rfl) trivial ?_
      refine wpr_nil (nx_then (wpc_seq ?_))
      refine wpc_ent (ent_set 28 (.bool (decide ((↑i : Int) < (↑l.length : Int)))) (.bool true) (by kernel_rfl) (congrArg _ (decide_eq_true (by omega)))) ?_
      refine wpc_true (by kernel_rfl) ?_
      refine wpc_skip ?_
      refine nx_then (wpc_seq ?_)
      refine wpc_block ?_
      refine wpc_seq ?_
      refine wpc_region [0, 1, 2, 3] (by kernel_rfl) ?_
      refine wpr_run (l₂ := [1, 2, 3]) true [0] [] ([(29, .pointer (some ⟨g0, o0 + i * 2, none⟩)), (27, .int .i64 (↑i : Int)), (26, .int .i64 (↑l.length : Int)), (25, .slice (some ⟨g0, o0, none⟩) l.length c), (8, .pointer (some ⟨g, 0, none⟩)), (5, .int .i64 0), (4, .pointer none)]) [.blk g 59 [.bool true, .int .i64 (mostI m), .int .i64 (↑(usedN (List.map Ob.n l1)) : Int), .slice a1 l1.length c1], row 43 2 a1 l1.length c1 (List.flatMap objC l1), star (List.map obRow l1), ro (some ⟨g0, o0, none⟩) (List.flatMap objC l), gBag l] [(0 : Int) ≤ (↑i : Int) ∧ (↑i : Int) < (↑l.length : Int)] (by kernel_rfl) (by kernel_rfl) ⟨by first | omega | decide | (simp; done), trivial⟩ ?_
      refine wpr_eq (ld (t := 43) (a := ⟨g0, o0 + i * 2, none⟩) (dst := some 30) (by kernel_rfl) true 2 (by kernel_rfl) (by simp) [.string (mkS l[i].tag), .slice l[i].a l[i].cells.length l[i].c] rfl (fun w h => ld_ro h 3 rfl (i * 2) (objs_at hlt))) ?_
      refine wpr_new (l₂ := [3]) true [2] [] (fun g1 => [(10, .pointer (some ⟨g1, 0, none⟩)), (30, .agg #[.string (mkS l[i].tag), .slice l[i].2 l[i].cells.length l[i].c]), (27, .int .i64 (↑i : Int)), (26, .int .i64 (↑l.length : Int)), (25, .slice (some ⟨g0, o0, none⟩) l.length c), (8, .pointer (some ⟨g, 0, none⟩)), (5, .int .i64 0), (4, .pointer none)]) (fun g1 => [.blk g 59 [.bool true, .int .i64 (mostI m), .int .i64 (↑(usedN (List.map Ob.n l1)) : Int), .slice a1 l1.length c1], row 43 2 a1 l1.length c1 (List.flatMap objC l1), star (List.map obRow l1), ro (some ⟨g0, o0, none⟩) (List.flatMap objC l), gBag l, .blk g1 43 [.string ⟨#[]⟩, .slice none 0 0]]) (fun g1 => []) (fun g1 => by kernel_rfl) (fun g1 => by kernel_rfl) (fun g1 => trivial) fun g1 => ?_
      refine wpr_run (l₂ := []) true [3] [5, 5] [(10, .pointer (some ⟨g1, 0, none⟩)), (27, .int .i64 (↑i : Int)), (26, .int .i64 (↑l.length : Int)), (25, .slice (some ⟨g0, o0, none⟩) l.length c), (8, .pointer (some ⟨g, 0, none⟩)), (5, .int .i64 0), (4, .pointer none)] [.blk g 59 [.bool true, .int .i64 (mostI m), .int .i64 (↑(usedN (List.map Ob.n l1)) : Int), .slice a1 l1.length c1], row 43 2 a1 l1.length c1 (List.flatMap objC l1), star (List.map obRow l1), ro (some ⟨g0, o0, none⟩) (List.flatMap objC l), gBag l, .blk g1 43 [.string (mkS l[i].tag), .slice l[i].2 l[i].cells.length l[i].c]] [] (by kernel_rfl) (by kernel_rfl) trivial ?_
      refine wpr_nil (nx_then (wpc_seq ?_))
      refine wpc_region [0, 1, 2, 3] (by kernel_rfl) ?_
      refine wpr_run (l₂ := [2, 3]) true [0, 1] [5, 5] [(32, .agg #[.string (mkS l[i].tag), .slice l[i].2 l[i].cells.length l[i].c]), (31, .pointer (some ⟨g, 0, none⟩)), (27, .int .i64 (↑i : Int)), (26, .int .i64 (↑l.length : Int)), (25, .slice (some ⟨g0, o0, none⟩) l.length c), (8, .pointer (some ⟨g, 0, none⟩)), (5, .int .i64 0), (4, .pointer none)] [.blk g 59 [.bool true, .int .i64 (mostI m), .int .i64 (↑(usedN (List.map Ob.n l1)) : Int), .slice a1 l1.length c1], row 43 2 a1 l1.length c1 (List.flatMap objC l1), star (List.map obRow l1), ro (some ⟨g0, o0, none⟩) (List.flatMap objC l), gBag l, .blk g1 43 [.string (mkS l[i].tag), .slice l[i].2 l[i].cells.length l[i].c]] [] (by kernel_rfl) (by kernel_rfl) trivial ?_
      refine wpr_ent (ent_copy 4 (ro l[i].a (l[i].cells.flatMap valC)) rfl (fun h => h) (view_in (obRo_in hlt) view_ro)) ?_
      refine wpr_call (dst := some 33) (rest := [ro l[i].a (List.flatMap valC l[i].cells), ro (some ⟨g0, o0, none⟩) (List.flatMap objC l), gBag l, .blk g1 43 [.string (mkS l[i].tag), .slice l[i].2 l[i].cells.length l[i].c]]) (by kernel_rfl) (hput) (Give.reorder (Give.view (c := (ro l[i].a (List.flatMap valC l[i].cells))) (give (pre := [.blk g 59 [.bool true, .int .i64 (mostI m), .int .i64 (↑(usedN (List.map Ob.n l1)) : Int), .slice a1 l1.length c1], row 43 2 a1 l1.length c1 (List.flatMap objC l1), star (List.map obRow l1)]) (rest := [ro l[i].a (List.flatMap valC l[i].cells), ro (some ⟨g0, o0, none⟩) (List.flatMap objC l), gBag l, .blk g1 43 [.string (mkS l[i].tag), .slice l[i].2 l[i].cells.length l[i].c]]) [1, 1, 1] (by kernel_rfl)) 0 (by kernel_rfl) view_ro) [1, 1, 1, 0] (by kernel_rfl)) ?_
      intro v hp' h
      by_cases hf : (l[i].cells.length : Int) < mostI m - usedN (l1.map Ob.n)
      · rw [if_pos hf] at h
        obtain ⟨a2, c2, o, rfl, h1, h2, rfl⟩ := h
        refine wpr_run (l₂ := []) true [3] [] [(34, .bool false), (27, .int .i64 (↑i : Int)), (26, .int .i64 (↑l.length : Int)), (25, .slice (some ⟨g0, o0, none⟩) l.length c), (8, .pointer (some ⟨g, 0, none⟩)), (5, .int .i64 0), (4, .pointer none)] ([.blk g 59 [.bool true, .int .i64 (mostI m), .int .i64 (↑(usedN (List.map Ob.n (l1 ++ [o]))) : Int), .slice a2 (l1 ++ [o]).length c2], row 43 2 a2 (l1 ++ [o]).length c2 (List.flatMap objC (l1 ++ [o])), star (List.map obRow (l1 ++ [o])), ro l[i].a (List.flatMap valC l[i].cells), ro (some ⟨g0, o0, none⟩) (List.flatMap objC l), gBag l, .blk g1 43 [.string (mkS l[i].tag), .slice l[i].2 l[i].cells.length l[i].c]]) [] (by kernel_rfl) (by kernel_rfl) trivial ?_
        refine wpr_nil (nx_then ?_)
        refine wpc_false (by kernel_rfl) ?_
        refine wpc_skip ?_
        refine nx_block (nx_then ?_)
        refine wpc_region [0, 1] (by kernel_rfl) ?_
        refine wpr_run (l₂ := []) true [0, 1] [] ([(27, .int .i64 ((↑i : Int) + 1)), (26, .int .i64 (↑l.length : Int)), (25, .slice (some ⟨g0, o0, none⟩) l.length c), (8, .pointer (some ⟨g, 0, none⟩)), (5, .int .i64 0), (4, .pointer none)]) ([.blk g 59 [.bool true, .int .i64 (mostI m), .int .i64 (↑(usedN (List.map Ob.n (l1 ++ [o]))) : Int), .slice a2 (l1 ++ [o]).length c2], row 43 2 a2 (l1 ++ [o]).length c2 (List.flatMap objC (l1 ++ [o])), star (List.map obRow (l1 ++ [o])), ro l[i].a (List.flatMap valC l[i].cells), ro (some ⟨g0, o0, none⟩) (List.flatMap objC l), gBag l, .blk g1 43 [.string (mkS l[i].tag), .slice l[i].2 l[i].cells.length l[i].c]]) ([inI64 ((↑i : Int) + (1 : Int))]) (by kernel_rfl) (by kernel_rfl) ⟨by unfold inI64; omega, trivial⟩ ?_
        refine wpr_nil ?_
        exact fun a' w' hS' => ⟨⟨(i + 1, a2, c2, l1 ++ [o]), hlt, by rw [take_snoc Ob.o hlt, ← hm, List.map_append]; unfold Ob.o; rw [List.map_singleton, h1, h2], by
                  rw [List.map_append, List.map_singleton, usedN_snoc]; simp only [Ob.n, h2]; omega⟩, by dsimp only; omega, ent_fr (by kernel_rfl) _ _ (ent_hp [0, 0, 0, 1, 1] rfl _ _ hS')⟩
      · rw [if_neg hf] at h
        obtain ⟨rfl, rfl⟩ := h
        refine wpr_run (l₂ := []) true [3] [] [(34, .bool true), (27, .int .i64 (↑i : Int)), (26, .int .i64 (↑l.length : Int)), (25, .slice (some ⟨g0, o0, none⟩) l.length c), (8, .pointer (some ⟨g, 0, none⟩)), (5, .int .i64 0), (4, .pointer none)] [.blk g 59 [.bool true, .int .i64 (mostI m), .int .i64 (↑(usedN (List.map Ob.n l1)) : Int), .slice a1 l1.length c1], row 43 2 a1 l1.length c1 (List.flatMap objC l1), star (List.map obRow l1), ro l[i].a (List.flatMap valC l[i].cells), ro (some ⟨g0, o0, none⟩) (List.flatMap objC l), gBag l, .blk g1 43 [.string (mkS l[i].tag), .slice l[i].2 l[i].cells.length l[i].c]] [] (by kernel_rfl) (by kernel_rfl) trivial ?_
        refine wpr_nil (nx_then ?_)
        refine wpc_true (by kernel_rfl) ?_
        refine wpc_seq ?_
        refine wpc_region [0, 1] (by kernel_rfl) ?_
        refine wpr_run (l₂ := []) true [0, 1] [] [(5, .int .i64 12), (4, .pointer none), (27, .int .i64 (↑i : Int)), (26, .int .i64 (↑l.length : Int)), (25, .slice (some ⟨g0, o0, none⟩) l.length c), (8, .pointer (some ⟨g, 0, none⟩))] [.blk g 59 [.bool true, .int .i64 (mostI m), .int .i64 (↑(usedN (List.map Ob.n l1)) : Int), .slice a1 l1.length c1], row 43 2 a1 l1.length c1 (List.flatMap objC l1), star (List.map obRow l1), ro l[i].a (List.flatMap valC l[i].cells), ro (some ⟨g0, o0, none⟩) (List.flatMap objC l), gBag l, .blk g1 43 [.string (mkS l[i].tag), .slice l[i].2 l[i].cells.length l[i].c]] [] (by kernel_rfl) (by kernel_rfl) trivial ?_
        refine wpr_nil (nx_then ?_)
        refine wpc_ret ?_
        refine nx_block_ret ?_
        refine nx_then_ret ?_
        refine nx_then_ret ?_
        refine nx_block_ret ?_
        refine nx_then_ret ?_
        refine nx_end (hp' := []) (rest := [.blk g 59 [.bool true, .int .i64 (mostI m), .int .i64 (↑(usedN (List.map Ob.n l1)) : Int), .slice a1 l1.length c1], row 43 2 a1 l1.length c1 (List.flatMap objC l1), star (List.map obRow l1), ro l[i].a (List.flatMap valC l[i].cells), ro (some ⟨g0, o0, none⟩) (List.flatMap objC l), gBag l, .blk g1 43 [.string (mkS l[i].tag), .slice l[i].2 l[i].cells.length l[i].c]]) [] ((Value.tuple #[.pointer none, .int .i64 12])) (by kernel_rfl) (by kernel_rfl) (give [] (by kernel_rfl)) (by first | ((repeat (first | exact trivial | refine ⟨trivial, ?_⟩)); done) | assumption) ?_ (.inr rfl)
        have hno : ¬ (usedN (l.map Ob.n) : Int) ≤ mostI m := fun h => by
          have h3 := usedN_at hlt
          rw [← ob_o_n hm] at h3
          omega
        rw [if_neg (by simp), if_neg hno]
        exact ⟨rfl, rfl⟩
    · obtain rfl : i = l.length := by omega
      rw [List.take_length] at hm
      refine wpc_seq ?_
      refine wpc_region [0] (by kernel_rfl) ?_
      refine wpr_run (l₂ := []) true [0] [] [(28, .bool (decide ((↑l.length : Int) < (↑l.length : Int)))), (27, .int .i64 (↑l.length : Int)), (26, .int .i64 (↑l.length : Int)), (25, .slice a l.length c), (8, .pointer (some ⟨g, 0, none⟩)), (5, .int .i64 0), (4, .pointer none)] [.blk g 59 [.bool true, .int .i64 (mostI m), .int .i64 (↑(usedN (List.map Ob.n l1)) : Int), .slice a1 l1.length c1], row 43 2 a1 l1.length c1 (List.flatMap objC l1), star (List.map obRow l1), ro a (List.flatMap objC l), gBag l] [] (by kernel_rfl) (by kernel_rfl) trivial ?_
      refine wpr_nil (nx_then (wpc_seq ?_))
      refine wpc_ent (ent_set 28 (.bool (decide ((↑l.length : Int) < (↑l.length : Int)))) (.bool false) (by kernel_rfl) (congrArg _ (by simp))) ?_
      refine wpc_false (by kernel_rfl) ?_
      refine wpc_exit ?_
      refine nx_then_exit ?_
      refine nx_then_exit ?_
      refine nx_block_here ?_
      refine nx_then (wpc_seq ?_)
      refine wpc_region [0, 1, 2] (by kernel_rfl) ?_
      refine wpr_run (l₂ := []) true [0, 1, 2] [] [(5, .int .i64 0), (4, .pointer (some ⟨g, 0, none⟩))] [.blk g 59 [.bool true, .int .i64 (mostI m), .int .i64 (↑(usedN (List.map Ob.n l1)) : Int), .slice a1 l1.length c1], row 43 2 a1 l1.length c1 (List.flatMap objC l1), star (List.map obRow l1), ro a (List.flatMap objC l), gBag l] [] (by kernel_rfl) (by kernel_rfl) trivial ?_
      refine wpr_nil (nx_then ?_)
      refine wpc_ret ?_
      refine nx_end (hp' := [.blk g 59 [.bool true, .int .i64 (mostI m), .int .i64 (↑(usedN (List.map Ob.n l1)) : Int), .slice a1 l1.length c1], row 43 2 a1 l1.length c1 (List.flatMap objC l1), star (List.map obRow l1)]) (rest := [ro a (List.flatMap objC l), gBag l]) [] ((Value.tuple #[.pointer (some ⟨g, 0, none⟩), .int .i64 0])) (by kernel_rfl) (by kernel_rfl) (give [0, 0, 0] (by kernel_rfl)) (by first | ((repeat (first | exact trivial | refine ⟨trivial, ?_⟩)); done) | assumption) ?_ (.inr rfl)
      rw [if_neg (by simp), ← ob_o_n hm, if_pos hu]
      exact ⟨g, a1, c1, l1, hm, rfl, rfl⟩
end Go.Proofs.YtpfhleghgkeemaaGreatDoor
