import Derived.Test.YtpfhleghgkeemaaGreatDoorH10
import Derived.Test.YtpfhleghgkeemaaGreatDoorX16
namespace Go.Proofs.YtpfhleghgkeemaaGreatDoor
open Go Go.Sx
set_option linter.unusedSimpArgs false

def V.sm (v : V) : Prop := v.s.length ≤ 1048576
def smL (l : List V) : Prop := ∀ v ∈ l, v.sm
/-- May a value be in a cell? -/
def cellB (m : Int) (v : V) : Bool := !decide (v.k = 0) && rightB v m
def objB (m : Int) (tag : List UInt8) (l : List V) : Bool := (decide (tag = []) || nameB tag) && l.all (cellB m)
theorem fit1_spec (v : V) (m : Int) (g : Nat) (hv : v.sm) : Does Tryz.prog 91 [valV v, .pointer (some ⟨g, 0, none⟩)] [ro (some ⟨g, 0, none⟩) [.int .i64 m]] (fun u hp' => u = .bool (!cellB m v) ∧ hp' = []) := by
  by_cases hk : v.k = 0
  · have hc : cellB m v = false := by simp [cellB, hk]
    rw [hc]
    unfold valV
    rw [hk]
    refine fn_enter Tryz.func91 rfl 13 rfl fun w0 h0 => ?_
    refine wpc_seq ?_
    refine wpc_region [0, 1] (by kernel_rfl) ?_
    refine wpr_new (l₂ := [1]) true [0] [] (fun g1 => [(2, .pointer (some ⟨g1, 0, none⟩)), (1, .pointer (some ⟨g, 0, none⟩))]) (fun g1 => [ro (some ⟨g, 0, none⟩) [.int .i64 m], .blk g1 28 [.int .i64 0, .int .i64 v.n, .string (mkS v.s)]]) (fun g1 => []) (fun g1 => by kernel_rfl) (fun g1 => by kernel_rfl) (fun g1 => trivial) fun g1 => ?_
    refine wpr_run (l₂ := []) true [1] [] [(3, .bool false), (2, .pointer (some ⟨g1, 0, none⟩)), (1, .pointer (some ⟨g, 0, none⟩))] [ro (some ⟨g, 0, none⟩) [.int .i64 m], .blk g1 28 [.int .i64 0, .int .i64 v.n, .string (mkS v.s)]] [] (by kernel_rfl) (by kernel_rfl) trivial ?_
    refine wpr_nil (nx_then (wpc_seq ?_))
    refine wpc_region [0, 1, 2, 3, 4, 5, 6, 7, 8, 9] (by kernel_rfl) ?_
    refine wpr_run (l₂ := []) true [0, 1, 2, 3, 4, 5, 6, 7, 8, 9] [1] [(3, .bool true)] [ro (some ⟨g, 0, none⟩) [.int .i64 m], .blk g1 28 [.int .i64 0, .int .i64 v.n, .string (mkS v.s)]] [] (by kernel_rfl) (by kernel_rfl) trivial ?_
    refine wpr_nil (nx_then ?_)
    refine wpc_ret ?_
    refine nx_end (hp' := []) (rest := [ro (some ⟨g, 0, none⟩) [.int .i64 m], .blk g1 28 [.int .i64 0, .int .i64 v.n, .string (mkS v.s)]]) [] ((.bool true)) (by kernel_rfl) (by kernel_rfl) (give [] (by kernel_rfl)) (by first | ((repeat (first | exact trivial | refine ⟨trivial, ?_⟩)); done) | assumption) ?_ (.inr rfl)
    exact ⟨rfl, rfl⟩
  · have hc : cellB m v = rightB v m := by simp [cellB, hk]
    rw [hc]
    have hv2 := hv
    unfold V.sm at hv2
    have hck := Check_spec v m hv2
    unfold valV at hck ⊢
    refine fn_enter Tryz.func91 rfl 13 rfl fun w0 h0 => ?_
    refine wpc_seq ?_
    refine wpc_region [0, 1] (by kernel_rfl) ?_
    refine wpr_new (l₂ := [1]) true [0] [] (fun g1 => [(2, .pointer (some ⟨g1, 0, none⟩)), (1, .pointer (some ⟨g, 0, none⟩))]) (fun g1 => [ro (some ⟨g, 0, none⟩) [.int .i64 m], .blk g1 28 [.int .i64 v.k, .int .i64 v.n, .string (mkS v.s)]]) (fun g1 => []) (fun g1 => by kernel_rfl) (fun g1 => by kernel_rfl) (fun g1 => trivial) fun g1 => ?_
    refine wpr_run (l₂ := []) true [1] [] [(3, .bool false), (2, .pointer (some ⟨g1, 0, none⟩)), (1, .pointer (some ⟨g, 0, none⟩))] [ro (some ⟨g, 0, none⟩) [.int .i64 m], .blk g1 28 [.int .i64 v.k, .int .i64 v.n, .string (mkS v.s)]] [] (by kernel_rfl) (by kernel_rfl) trivial ?_
    refine wpr_nil (nx_then (wpc_seq ?_))
    refine wpc_region [0, 1, 2, 3, 4, 5, 6, 7, 8, 9] (by kernel_rfl) ?_
    refine wpr_run (l₂ := [4, 5, 6, 7, 8, 9]) true [0, 1, 2, 3] [1] [(7, .bool (v.k == 0)), (3, .bool false), (2, .pointer (some ⟨g1, 0, none⟩)), (1, .pointer (some ⟨g, 0, none⟩))] [ro (some ⟨g, 0, none⟩) [.int .i64 m], .blk g1 28 [.int .i64 v.k, .int .i64 v.n, .string (mkS v.s)]] [] (by kernel_rfl) (by kernel_rfl) trivial ?_
    refine wpr_ent (ent_set 7 (.bool (v.k == 0)) (.bool false) (by kernel_rfl) (congrArg _ (by simp only [bne_eq_false_iff_eq, beq_eq_false_iff_ne, ne_eq]; omega))) ?_
    refine wpr_run (l₂ := [5, 6, 7, 8, 9]) true [4] [1, 1, 1] [(8, .agg #[.int .i64 v.k, .int .i64 v.n, .string (mkS v.s)]), (7, .bool false), (3, .bool false), (1, .pointer (some ⟨g, 0, none⟩))] [ro (some ⟨g, 0, none⟩) [.int .i64 m], .blk g1 28 [.int .i64 v.k, .int .i64 v.n, .string (mkS v.s)]] [] (by kernel_rfl) (by kernel_rfl) trivial ?_
    refine wpr_eq (ld (t := 3) (a := (⟨g, 0, none⟩)) (dst := some 9) (by kernel_rfl) false 1 (by kernel_rfl) (by simp) [.int .i64 m] rfl (fun w h => ld_ro h 0 rfl 0 rfl)) ?_
    refine wpr_call (dst := some 10) (rest := [ro (some ⟨g, 0, none⟩) [.int .i64 m], .blk g1 28 [.int .i64 v.k, .int .i64 v.n, .string (mkS v.s)]]) (by kernel_rfl) (hck) (give [] (by kernel_rfl)) ?_
    rintro v _ ⟨rfl, rfl⟩
    cases hr : rightB v m with
    | true =>
      refine wpr_run (l₂ := []) true [7, 8, 9] [] [(3, .bool false)] [ro (some ⟨g, 0, none⟩) [.int .i64 m], .blk g1 28 [.int .i64 v.k, .int .i64 v.n, .string (mkS v.s)]] [] (by kernel_rfl) (by kernel_rfl) trivial ?_
      refine wpr_nil (nx_then ?_)
      refine wpc_ret ?_
      refine nx_end (hp' := []) (rest := [ro (some ⟨g, 0, none⟩) [.int .i64 m], .blk g1 28 [.int .i64 v.k, .int .i64 v.n, .string (mkS v.s)]]) [] ((.bool false)) (by kernel_rfl) (by kernel_rfl) (give [] (by kernel_rfl)) (by first | ((repeat (first | exact trivial | refine ⟨trivial, ?_⟩)); done) | assumption) ?_ (.inr rfl)
      exact ⟨rfl, rfl⟩
    | false =>
      refine wpr_run (l₂ := []) true [7, 8, 9] [] [(3, .bool true)] [ro (some ⟨g, 0, none⟩) [.int .i64 m], .blk g1 28 [.int .i64 v.k, .int .i64 v.n, .string (mkS v.s)]] [] (by kernel_rfl) (by kernel_rfl) trivial ?_
      refine wpr_nil (nx_then ?_)
      refine wpc_ret ?_
      refine nx_end (hp' := []) (rest := [ro (some ⟨g, 0, none⟩) [.int .i64 m], .blk g1 28 [.int .i64 v.k, .int .i64 v.n, .string (mkS v.s)]]) [] ((.bool true)) (by kernel_rfl) (by kernel_rfl) (give [] (by kernel_rfl)) (by first | ((repeat (first | exact trivial | refine ⟨trivial, ?_⟩)); done) | assumption) ?_ (.inr rfl)
      exact ⟨rfl, rfl⟩
theorem IndexFuncV_spec (l : List V) (a : Option Addr) (c : Nat) (m : Int) (g : Nat) (hl : l.length ≤ 1048576) (hs : smL l) : Does Tryz.prog 128 [.slice a l.length c, .func (.func 91) #[] #[.pointer (some ⟨g, 0, none⟩)]] [ro a (l.flatMap valC), ro (some ⟨g, 0, none⟩) [.int .i64 m]] (fun u hp' => ∃ n : Int, u = .int .i64 n ∧ (0 ≤ n ↔ l.all (cellB m) = false) ∧ hp' = []) := by
  refine fn_enter Tryz.func128 rfl 19 rfl fun w0 h0 => ?_
  refine wpc_seq ?_
  refine wpc_region [0] (by kernel_rfl) ?_
  refine wpr_run (l₂ := []) true [0] [] [(4, .int .i64 0), (0, .slice a l.length c), (1, Value.func (Fn.func 91) #[] #[.pointer (some ⟨g, 0, none⟩)])] [ro a (List.flatMap valC l), ro (some ⟨g, 0, none⟩) [.int .i64 m]] [] (by kernel_rfl) (by kernel_rfl) trivial ?_
  refine wpr_nil (nx_then (wpc_seq (wpc_seq ?_)))
  refine wpc_region [0, 1, 2] (by kernel_rfl) ?_
  refine wpr_run (l₂ := []) true [0, 1, 2] [] [(8, .int .i64 0), (7, .int .i64 (↑l.length : Int)), (4, .int .i64 0), (0, .slice a l.length c), (1, Value.func (Fn.func 91) #[] #[.pointer (some ⟨g, 0, none⟩)])] [ro a (List.flatMap valC l), ro (some ⟨g, 0, none⟩) [.int .i64 m]] [] (by kernel_rfl) (by kernel_rfl) trivial ?_
  refine wpr_nil (nx_then ?_)
  refine wpc_block ?_
  refine wpc_loop (X := {n : Nat // ∃ h : n ≤ l.length, ∀ j, (hj : j < n) → cellB m (l[j]'(by omega)) = true}) (fun x => St.mk [(8, .int .i64 (x.1 : Int)), (7, .int .i64 l.length), (4, .int .i64 0), (0, .slice a l.length c), (1, .func (.func 91) #[] #[.pointer (some ⟨g, 0, none⟩)])] [ro a (l.flatMap valC), ro (some ⟨g, 0, none⟩) [.int .i64 m]]) (fun x => l.length - x.1) ⟨0, Nat.zero_le _, fun j h => absurd h (Nat.not_lt_zero _)⟩ (ent_fr (by kernel_rfl)) ?_
  rintro ⟨n, hn, hall⟩
  dsimp only at hn hall ⊢
  by_cases hlt : n < l.length
  · refine wpc_fact (fun w h => ro_addr h 0 rfl (by rw [vals_len]; omega)) ?_
    rintro ⟨g0, o0, rfl⟩
    have hf := fit1_spec l[n] m g (hs _ (List.getElem_mem hlt))
    unfold valV at hf
    refine wpc_seq ?_
    refine wpc_region [0] (by kernel_rfl) ?_
    refine wpr_run (l₂ := []) true [0] [] [(9, .bool (decide ((↑n : Int) < (↑l.length : Int)))), (8, .int .i64 (↑n : Int)), (7, .int .i64 (↑l.length : Int)), (4, .int .i64 0), (0, .slice (some ⟨g0, o0, none⟩) l.length c), (1, Value.func (Fn.func 91) #[] #[.pointer (some ⟨g, 0, none⟩)])] [ro (some ⟨g0, o0, none⟩) (List.flatMap valC l), ro (some ⟨g, 0, none⟩) [.int .i64 m]] [] (by kernel_rfl) (by kernel_rfl) trivial ?_
    refine wpr_nil (nx_then (wpc_seq ?_))
    refine wpc_ent (ent_set 9 (.bool (decide ((↑n : Int) < (↑l.length : Int)))) (.bool true) (by kernel_rfl) (congrArg _ (decide_eq_true (by omega)))) ?_
    refine wpc_true (by kernel_rfl) ?_
    refine wpc_skip ?_
    refine nx_then (wpc_seq ?_)
    refine wpc_block ?_
    refine wpc_seq ?_
    refine wpc_region [0, 1] (by kernel_rfl) ?_
    refine wpr_run (l₂ := []) true [0, 1] [] [(5, .int .i64 (↑n : Int)), (8, .int .i64 (↑n : Int)), (7, .int .i64 (↑l.length : Int)), (4, .int .i64 0), (0, .slice (some ⟨g0, o0, none⟩) l.length c), (1, Value.func (Fn.func 91) #[] #[.pointer (some ⟨g, 0, none⟩)])] [ro (some ⟨g0, o0, none⟩) (List.flatMap valC l), ro (some ⟨g, 0, none⟩) [.int .i64 m]] [] (by kernel_rfl) (by kernel_rfl) trivial ?_
    refine wpr_nil (nx_then (wpc_seq ?_))
    refine wpc_region [0, 1, 2, 3, 4, 5] (by kernel_rfl) ?_
    refine wpr_run (l₂ := [4, 5]) true [0, 1, 2, 3] [] ([(14, .pointer (some ⟨g0, o0 + n * 3, none⟩)), (11, Value.func (Fn.func 91) #[] #[.pointer (some ⟨g, 0, none⟩)]), (5, .int .i64 (↑n : Int)), (8, .int .i64 (↑n : Int)), (7, .int .i64 (↑l.length : Int)), (4, .int .i64 0), (0, .slice (some ⟨g0, o0, none⟩) l.length c), (1, Value.func (Fn.func 91) #[] #[.pointer (some ⟨g, 0, none⟩)])]) [ro (some ⟨g0, o0, none⟩) (List.flatMap valC l), ro (some ⟨g, 0, none⟩) [.int .i64 m]] [(0 : Int) ≤ (↑n : Int) ∧ (↑n : Int) < (↑l.length : Int)] (by kernel_rfl) (by kernel_rfl) ⟨by first | omega | decide | (simp; done), trivial⟩ ?_
    refine wpr_eq (ld (t := 28) (a := (⟨g0, o0 + n * 3, none⟩)) (dst := some 15) (by kernel_rfl) true 3 (by kernel_rfl) (by simp) (valC l[n]) rfl (fun w h => ld_ro h 0 rfl (n * 3) (vals_at hlt))) ?_
    refine wpr_call (dst := some 16) (rest := [ro (some ⟨g0, o0, none⟩) (List.flatMap valC l), ro (some ⟨g, 0, none⟩) [.int .i64 m]]) (by kernel_rfl) (hf) (Give.view (c := (ro (some ⟨g, 0, none⟩) [.int .i64 m])) (give (pre := []) (rest := [ro (some ⟨g0, o0, none⟩) (List.flatMap valC l), ro (some ⟨g, 0, none⟩) [.int .i64 m]]) [] (by kernel_rfl)) 1 (by kernel_rfl) view_ro) ?_
    rintro v _ ⟨rfl, rfl⟩
    cases hok : cellB m l[n] with
    | true =>
      refine wpr_nil (nx_then ?_)
      refine wpc_false (by kernel_rfl) ?_
      refine wpc_skip ?_
      refine nx_block (nx_then ?_)
      refine wpc_region [0, 1] (by kernel_rfl) ?_
      refine wpr_run (l₂ := []) true [0, 1] [] ([(8, .int .i64 ((↑n : Int) + 1)), (7, .int .i64 (↑l.length : Int)), (4, .int .i64 0), (0, .slice (some ⟨g0, o0, none⟩) l.length c), (1, Value.func (Fn.func 91) #[] #[.pointer (some ⟨g, 0, none⟩)])]) [ro (some ⟨g0, o0, none⟩) (List.flatMap valC l), ro (some ⟨g, 0, none⟩) [.int .i64 m]] ([inI64 ((↑n : Int) + (1 : Int))]) (by kernel_rfl) (by kernel_rfl) ⟨by unfold inI64; omega, trivial⟩ ?_
      refine wpr_nil ?_
      exact fun a' w' hS' => ⟨⟨n + 1, hlt, fun j hj => by
              rcases Nat.lt_or_ge j n with h | h
              · exact hall j h
              · obtain rfl : j = n := by omega
                exact hok⟩, by dsimp only; omega, ent_fr (by kernel_rfl) _ _ (ent_hp [0, 0] rfl _ _ hS')⟩
    | false =>
      refine wpr_nil (nx_then ?_)
      refine wpc_true (by kernel_rfl) ?_
      refine wpc_seq ?_
      refine wpc_region [0, 1] (by kernel_rfl) ?_
      refine wpr_run (l₂ := []) true [0, 1] [] [(4, .int .i64 (↑n : Int)), (8, .int .i64 (↑n : Int)), (7, .int .i64 (↑l.length : Int)), (0, .slice (some ⟨g0, o0, none⟩) l.length c), (1, Value.func (Fn.func 91) #[] #[.pointer (some ⟨g, 0, none⟩)])] [ro (some ⟨g0, o0, none⟩) (List.flatMap valC l), ro (some ⟨g, 0, none⟩) [.int .i64 m]] [] (by kernel_rfl) (by kernel_rfl) trivial ?_
      refine wpr_nil (nx_then ?_)
      refine wpc_ret ?_
      refine nx_block_ret ?_
      refine nx_then_ret ?_
      refine nx_then_ret ?_
      refine nx_block_ret ?_
      refine nx_then_ret ?_
      refine nx_end (hp' := []) (rest := [ro (some ⟨g0, o0, none⟩) (List.flatMap valC l), ro (some ⟨g, 0, none⟩) [.int .i64 m]]) [] ((.int .i64 (↑n : Int))) (by kernel_rfl) (by kernel_rfl) (give [] (by kernel_rfl)) (by first | ((repeat (first | exact trivial | refine ⟨trivial, ?_⟩)); done) | assumption) ?_ (.inr rfl)
      refine ⟨_, rfl, ⟨fun _ => ?_, fun _ => by omega⟩, rfl⟩
      cases h : l.all (cellB m) with
      | false => rfl
      | true =>
        have h2 := List.all_eq_true.1 h l[n] (List.getElem_mem hlt)
        rw [hok] at h2; cases h2
  · refine wpc_seq ?_
    refine wpc_region [0] (by kernel_rfl) ?_
    refine wpr_run (l₂ := []) true [0] [] [(9, .bool (decide ((↑n : Int) < (↑l.length : Int)))), (8, .int .i64 (↑n : Int)), (7, .int .i64 (↑l.length : Int)), (4, .int .i64 0), (0, .slice a l.length c), (1, Value.func (Fn.func 91) #[] #[.pointer (some ⟨g, 0, none⟩)])] [ro a (List.flatMap valC l), ro (some ⟨g, 0, none⟩) [.int .i64 m]] [] (by kernel_rfl) (by kernel_rfl) trivial ?_
    refine wpr_nil (nx_then (wpc_seq ?_))
    refine wpc_ent (ent_set 9 (.bool (decide ((↑n : Int) < (↑l.length : Int)))) (.bool false) (by kernel_rfl) (congrArg _ (decide_eq_false (by omega)))) ?_
    refine wpc_false (by kernel_rfl) ?_
    refine wpc_exit ?_
    refine nx_then_exit ?_
    refine nx_then_exit ?_
    refine nx_block_here ?_
    refine nx_then (wpc_seq ?_)
    refine wpc_region [0] (by kernel_rfl) ?_
    refine wpr_run (l₂ := []) true [0] [] [(4, .int .i64 (-1))] [ro a (List.flatMap valC l), ro (some ⟨g, 0, none⟩) [.int .i64 m]] [] (by kernel_rfl) (by kernel_rfl) trivial ?_
    refine wpr_nil (nx_then ?_)
    refine wpc_ret ?_
    refine nx_end (hp' := []) (rest := [ro a (List.flatMap valC l), ro (some ⟨g, 0, none⟩) [.int .i64 m]]) [] ((.int .i64 (-1))) (by kernel_rfl) (by kernel_rfl) (give [] (by kernel_rfl)) (by first | ((repeat (first | exact trivial | refine ⟨trivial, ?_⟩)); done) | assumption) ?_ (.inr rfl)
    refine ⟨-1, rfl, ⟨fun h => absurd h (by decide), fun h => ?_⟩, rfl⟩
    have : l.all (cellB m) = true := List.all_eq_true.2 fun x hx => by
      obtain ⟨j, hj⟩ := List.getElem?_of_mem hx
      obtain ⟨hj1, rfl⟩ := List.getElem?_eq_some_iff.1 hj
      exact hall j (by omega)
    rw [this] at h; cases h
theorem ContainsFuncV_spec (l : List V) (a : Option Addr) (c : Nat) (m : Int) (g : Nat) (hl : l.length ≤ 1048576) (hs : smL l) : Does Tryz.prog 90 [.slice a l.length c, .func (.func 91) #[] #[.pointer (some ⟨g, 0, none⟩)]] [ro a (l.flatMap valC), ro (some ⟨g, 0, none⟩) [.int .i64 m]] (fun u hp' => u = .bool (!l.all (cellB m)) ∧ hp' = []) := by
  refine fn_enter Tryz.func90 rfl 9 rfl fun w0 h0 => ?_
  refine wpc_seq ?_
  refine wpc_region [0] (by kernel_rfl) ?_
  refine wpr_run (l₂ := []) true [0] [] [(4, .bool false), (0, .slice a l.length c), (1, Value.func (Fn.func 91) #[] #[.pointer (some ⟨g, 0, none⟩)])] [ro a (List.flatMap valC l), ro (some ⟨g, 0, none⟩) [.int .i64 m]] [] (by kernel_rfl) (by kernel_rfl) trivial ?_
  refine wpr_nil (nx_then (wpc_seq ?_))
  refine wpc_region [0, 1, 2, 3, 4] (by kernel_rfl) ?_
  refine wpr_run (l₂ := [2, 3, 4]) true [0, 1] [] [(6, Value.func (Fn.func 91) #[] #[.pointer (some ⟨g, 0, none⟩)]), (5, .slice a l.length c), (4, .bool false)] [ro a (List.flatMap valC l), ro (some ⟨g, 0, none⟩) [.int .i64 m]] [] (by kernel_rfl) (by kernel_rfl) trivial ?_
  refine wpr_call (dst := some 7) (rest := [ro a (List.flatMap valC l), ro (some ⟨g, 0, none⟩) [.int .i64 m]]) (by kernel_rfl) (IndexFuncV_spec l a c m g hl hs) (Give.view (c := (ro a (List.flatMap valC l))) (Give.view (c := (ro (some ⟨g, 0, none⟩) [.int .i64 m])) (give (pre := []) (rest := [ro a (List.flatMap valC l), ro (some ⟨g, 0, none⟩) [.int .i64 m]]) [] (by kernel_rfl)) 1 (by kernel_rfl) view_ro) 0 (by kernel_rfl) view_ro) ?_
  rintro v _ ⟨n, rfl, hn, rfl⟩
  refine wpr_run (l₂ := []) true [3, 4] [] [(4, .bool (decide (n ≥ 0)))] [ro a (List.flatMap valC l), ro (some ⟨g, 0, none⟩) [.int .i64 m]] [] (by kernel_rfl) (by kernel_rfl) trivial ?_
  refine wpr_nil (nx_then ?_)
  refine wpc_ret ?_
  refine nx_end (hp' := []) (rest := [ro a (List.flatMap valC l), ro (some ⟨g, 0, none⟩) [.int .i64 m]]) [] ((.bool (decide (n ≥ 0)))) (by kernel_rfl) (by kernel_rfl) (give [] (by kernel_rfl)) (by first | ((repeat (first | exact trivial | refine ⟨trivial, ?_⟩)); done) | assumption) ?_ (.inr rfl)
  refine ⟨?_, rfl⟩
  cases h : l.all (cellB m) with
  | true =>
    have h0 : ¬ 0 ≤ n := fun h2 => by have := hn.1 h2; rw [h] at this; cases this
    simp [h0]
  | false =>
    have h0 : 0 ≤ n := hn.2 h
    simp [h0]
theorem fit_spec (tag : List UInt8) (l : List V) (a : Option Addr) (c : Nat) (m : Int) (ht : tag.length ≤ 1048576) (hl : l.length ≤ 1048576) (hs : smL l) : Does Tryz.prog 48 [.agg #[.string (mkS tag), .slice a l.length c], .int .i64 m] [ro a (l.flatMap valC), gWords] (fun u hp' => u = .bool (objB m tag l) ∧ hp' = []) := by
  have hgo : ∀ b : Bool, (!!b) = b := fun b => Bool.not_not b
  have hT := TextName_spec tag ht
  unfold tokV at hT
  cases tag with
  | nil =>
    have hob : objB m [] l = l.all (cellB m) := by simp [objB]
    rw [hob]
    refine fn_enter Tryz.func48 rfl 26 rfl fun w0 h0 => ?_
    refine wpc_seq ?_
    refine wpc_region [0, 1, 2] (by kernel_rfl) ?_
    refine wpr_new (l₂ := [1, 2]) true [0] [] (fun g1 => [(2, .pointer (some ⟨g1, 0, none⟩)), (1, .int .i64 m)]) (fun g1 => [ro a (List.flatMap valC l), gWords, .blk g1 43 [.string (mkS []), .slice a l.length c]]) (fun g1 => []) (fun g1 => by kernel_rfl) (fun g1 => by kernel_rfl) (fun g1 => trivial) fun g1 => ?_
    refine wpr_new (l₂ := [2]) true [1] [] (fun g2 => [(3, .pointer (some ⟨g2, 0, none⟩)), (2, .pointer (some ⟨g1, 0, none⟩))]) (fun g2 => [ro a (List.flatMap valC l), gWords, .blk g1 43 [.string (mkS []), .slice a l.length c], .blk g2 3 [.int .i64 m]]) (fun g2 => []) (fun g2 => by kernel_rfl) (fun g2 => by kernel_rfl) (fun g2 => trivial) fun g2 => ?_
    refine wpr_run (l₂ := []) true [2] [] [(4, .bool false), (3, .pointer (some ⟨g2, 0, none⟩)), (2, .pointer (some ⟨g1, 0, none⟩))] [ro a (List.flatMap valC l), gWords, .blk g1 43 [.string (mkS []), .slice a l.length c], .blk g2 3 [.int .i64 m]] [] (by kernel_rfl) (by kernel_rfl) trivial ?_
    refine wpr_nil (nx_then (wpc_seq (wpc_seq ?_)))
    refine wpc_region [0, 1, 2, 3, 4, 5, 6, 7, 8] (by kernel_rfl) ?_
    refine wpr_run (l₂ := [3, 4, 5, 6, 7, 8]) true [0, 1, 2] [2] [(10, .agg #[.int .i64 1, .string (mkS []), .int .i64 0, .int .i64 0, .int .i64 0]), (4, .bool false), (3, .pointer (some ⟨g2, 0, none⟩)), (2, .pointer (some ⟨g1, 0, none⟩))] [ro a (List.flatMap valC l), gWords, .blk g1 43 [.string (mkS []), .slice a l.length c], .blk g2 3 [.int .i64 m]] [] (by kernel_rfl) (by kernel_rfl) trivial ?_
    refine wpr_call (dst := some 11) (rest := [ro a (List.flatMap valC l), .blk g1 43 [.string (mkS []), .slice a l.length c], .blk g2 3 [.int .i64 m]]) (by kernel_rfl) (hT) (give [1] (by kernel_rfl)) ?_
    rintro v _ ⟨rfl, rfl⟩
    refine wpr_run (l₂ := []) true [4, 5, 6, 7, 8] [] [(6, .int .i64 2), (4, .bool false), (3, .pointer (some ⟨g2, 0, none⟩)), (2, .pointer (some ⟨g1, 0, none⟩))] [ro a (List.flatMap valC l), .blk g1 43 [.string (mkS []), .slice a l.length c], .blk g2 3 [.int .i64 m]] [] (by kernel_rfl) (by kernel_rfl) trivial ?_
    refine wpr_nil (nx_then (wpc_seq ?_))
    refine wpc_region [0, 1, 2, 3, 4, 5, 6] (by kernel_rfl) ?_
    refine wpr_run (l₂ := []) true [0, 1, 2, 3, 4, 5, 6] [1] [(20, .bool false), (4, .bool false), (3, .pointer (some ⟨g2, 0, none⟩)), (2, .pointer (some ⟨g1, 0, none⟩))] [ro a (List.flatMap valC l), .blk g1 43 [.string (mkS []), .slice a l.length c], .blk g2 3 [.int .i64 m]] [] (by kernel_rfl) (by kernel_rfl) trivial ?_
    refine wpr_nil (nx_then ?_)
    refine wpc_false (by kernel_rfl) ?_
    refine wpc_skip ?_
    refine nx_then (wpc_seq ?_)
    refine wpc_region [0, 1, 2, 3, 4, 5] (by kernel_rfl) ?_
    refine wpr_run (l₂ := [3, 4, 5]) true [0, 1, 2] [1] [(23, Value.func (Fn.func 91) #[] #[.pointer (some ⟨g2, 0, none⟩)]), (22, .slice a l.length c), (4, .bool false)] [ro a (List.flatMap valC l), .blk g1 43 [.string (mkS []), .slice a l.length c], .blk g2 3 [.int .i64 m]] [] (by kernel_rfl) (by kernel_rfl) trivial ?_
    refine wpr_ent (ent_turn 2 (ro (some ⟨g2, 0, none⟩) [.int .i64 m]) rfl (turn_rblk (l := [.int .i64 m]) (fun u hu => by cases List.mem_singleton.1 hu; rfl)) rfl) ?_
    refine wpr_call (dst := some 24) (rest := [ro a (List.flatMap valC l), .blk g1 43 [.string (mkS []), .slice a l.length c], ro (some ⟨g2, 0, none⟩) [.int .i64 m]]) (by kernel_rfl) (ContainsFuncV_spec l a c m g2 hl hs) (Give.view (c := (ro a (List.flatMap valC l))) (Give.view (c := (ro (some ⟨g2, 0, none⟩) [.int .i64 m])) (give (pre := []) (rest := [ro a (List.flatMap valC l), .blk g1 43 [.string (mkS []), .slice a l.length c], ro (some ⟨g2, 0, none⟩) [.int .i64 m]]) [] (by kernel_rfl)) 2 (by kernel_rfl) view_ro) 0 (by kernel_rfl) view_ro) ?_
    rintro v _ ⟨rfl, rfl⟩
    refine wpr_run (l₂ := []) true [4, 5] [] [(4, .bool !!l.all (cellB m))] [ro a (List.flatMap valC l), .blk g1 43 [.string (mkS []), .slice a l.length c], ro (some ⟨g2, 0, none⟩) [.int .i64 m]] [] (by kernel_rfl) (by kernel_rfl) trivial ?_
    refine wpr_nil (nx_then ?_)
    refine wpc_ret ?_
    refine nx_end (hp' := []) (rest := [ro a (List.flatMap valC l), .blk g1 43 [.string (mkS []), .slice a l.length c], ro (some ⟨g2, 0, none⟩) [.int .i64 m]]) [] ((.bool !!l.all (cellB m))) (by kernel_rfl) (by kernel_rfl) (give [] (by kernel_rfl)) (by first | ((repeat (first | exact trivial | refine ⟨trivial, ?_⟩)); done) | assumption) ?_ (.inr rfl)
    exact ⟨by rw [hgo], rfl⟩
  | cons t0 tr =>
    cases hn : nameB (t0 :: tr) with
    | false =>
      have hob : objB m (t0 :: tr) l = false := by simp [objB, hn]
      rw [hob]
      refine fn_enter Tryz.func48 rfl 26 rfl fun w0 h0 => ?_
      refine wpc_seq ?_
      refine wpc_region [0, 1, 2] (by kernel_rfl) ?_
      refine wpr_new (l₂ := [1, 2]) true [0] [] (fun g1 => [(2, .pointer (some ⟨g1, 0, none⟩)), (1, .int .i64 m)]) (fun g1 => [ro a (List.flatMap valC l), gWords, .blk g1 43 [.string (mkS (t0 :: tr)), .slice a l.length c]]) (fun g1 => []) (fun g1 => by kernel_rfl) (fun g1 => by kernel_rfl) (fun g1 => trivial) fun g1 => ?_
      refine wpr_new (l₂ := [2]) true [1] [] (fun g2 => [(3, .pointer (some ⟨g2, 0, none⟩)), (2, .pointer (some ⟨g1, 0, none⟩))]) (fun g2 => [ro a (List.flatMap valC l), gWords, .blk g1 43 [.string (mkS (t0 :: tr)), .slice a l.length c], .blk g2 3 [.int .i64 m]]) (fun g2 => []) (fun g2 => by kernel_rfl) (fun g2 => by kernel_rfl) (fun g2 => trivial) fun g2 => ?_
      refine wpr_run (l₂ := []) true [2] [] [(4, .bool false), (3, .pointer (some ⟨g2, 0, none⟩)), (2, .pointer (some ⟨g1, 0, none⟩))] [ro a (List.flatMap valC l), gWords, .blk g1 43 [.string (mkS (t0 :: tr)), .slice a l.length c], .blk g2 3 [.int .i64 m]] [] (by kernel_rfl) (by kernel_rfl) trivial ?_
      refine wpr_nil (nx_then (wpc_seq (wpc_seq ?_)))
      refine wpc_region [0, 1, 2, 3, 4, 5, 6, 7, 8] (by kernel_rfl) ?_
      refine wpr_run (l₂ := [3, 4, 5, 6, 7, 8]) true [0, 1, 2] [2] [(10, .agg #[.int .i64 1, .string (mkS (t0 :: tr)), .int .i64 0, .int .i64 0, .int .i64 0]), (4, .bool false), (3, .pointer (some ⟨g2, 0, none⟩)), (2, .pointer (some ⟨g1, 0, none⟩))] [ro a (List.flatMap valC l), gWords, .blk g1 43 [.string (mkS (t0 :: tr)), .slice a l.length c], .blk g2 3 [.int .i64 m]] [] (by kernel_rfl) (by kernel_rfl) trivial ?_
      refine wpr_call (dst := some 11) (rest := [ro a (List.flatMap valC l), .blk g1 43 [.string (mkS (t0 :: tr)), .slice a l.length c], .blk g2 3 [.int .i64 m]]) (by kernel_rfl) (hT) (give [1] (by kernel_rfl)) ?_
      rintro v _ ⟨rfl, rfl⟩
      rw [hn]
      refine wpr_run (l₂ := []) true [4, 5, 6, 7, 8] [] [(6, .int .i64 2), (4, .bool false), (3, .pointer (some ⟨g2, 0, none⟩)), (2, .pointer (some ⟨g1, 0, none⟩))] [ro a (List.flatMap valC l), .blk g1 43 [.string (mkS (t0 :: tr)), .slice a l.length c], .blk g2 3 [.int .i64 m]] [] (by kernel_rfl) (by kernel_rfl) trivial ?_
      refine wpr_nil (nx_then (wpc_seq ?_))
      refine wpc_region [0, 1, 2, 3, 4, 5, 6] (by kernel_rfl) ?_
      refine wpr_run (l₂ := []) true [0, 1, 2, 3, 4, 5, 6] [1] [(20, .bool true), (4, .bool false), (3, .pointer (some ⟨g2, 0, none⟩)), (2, .pointer (some ⟨g1, 0, none⟩))] [ro a (List.flatMap valC l), .blk g1 43 [.string (mkS (t0 :: tr)), .slice a l.length c], .blk g2 3 [.int .i64 m]] [] (by kernel_rfl) (by kernel_rfl) trivial ?_
      refine wpr_nil (nx_then ?_)
      refine wpc_true (by kernel_rfl) ?_
      refine wpc_seq ?_
      refine wpc_region [0] (by kernel_rfl) ?_
      refine wpr_run (l₂ := []) true [0] [] [(4, .bool false), (3, .pointer (some ⟨g2, 0, none⟩)), (2, .pointer (some ⟨g1, 0, none⟩))] [ro a (List.flatMap valC l), .blk g1 43 [.string (mkS (t0 :: tr)), .slice a l.length c], .blk g2 3 [.int .i64 m]] [] (by kernel_rfl) (by kernel_rfl) trivial ?_
      refine wpr_nil (nx_then ?_)
      refine wpc_ret ?_
      refine nx_then_ret ?_
      refine nx_end (hp' := []) (rest := [ro a (List.flatMap valC l), .blk g1 43 [.string (mkS (t0 :: tr)), .slice a l.length c], .blk g2 3 [.int .i64 m]]) [] ((.bool false)) (by kernel_rfl) (by kernel_rfl) (give [] (by kernel_rfl)) (by first | ((repeat (first | exact trivial | refine ⟨trivial, ?_⟩)); done) | assumption) ?_ (.inr rfl)
      exact ⟨rfl, rfl⟩
    | true =>
      have hob : objB m (t0 :: tr) l = l.all (cellB m) := by simp [objB, hn]
      rw [hob]
      refine fn_enter Tryz.func48 rfl 26 rfl fun w0 h0 => ?_
      refine wpc_seq ?_
      refine wpc_region [0, 1, 2] (by kernel_rfl) ?_
      refine wpr_new (l₂ := [1, 2]) true [0] [] (fun g1 => [(2, .pointer (some ⟨g1, 0, none⟩)), (1, .int .i64 m)]) (fun g1 => [ro a (List.flatMap valC l), gWords, .blk g1 43 [.string (mkS (t0 :: tr)), .slice a l.length c]]) (fun g1 => []) (fun g1 => by kernel_rfl) (fun g1 => by kernel_rfl) (fun g1 => trivial) fun g1 => ?_
      refine wpr_new (l₂ := [2]) true [1] [] (fun g2 => [(3, .pointer (some ⟨g2, 0, none⟩)), (2, .pointer (some ⟨g1, 0, none⟩))]) (fun g2 => [ro a (List.flatMap valC l), gWords, .blk g1 43 [.string (mkS (t0 :: tr)), .slice a l.length c], .blk g2 3 [.int .i64 m]]) (fun g2 => []) (fun g2 => by kernel_rfl) (fun g2 => by kernel_rfl) (fun g2 => trivial) fun g2 => ?_
      refine wpr_run (l₂ := []) true [2] [] [(4, .bool false), (3, .pointer (some ⟨g2, 0, none⟩)), (2, .pointer (some ⟨g1, 0, none⟩))] [ro a (List.flatMap valC l), gWords, .blk g1 43 [.string (mkS (t0 :: tr)), .slice a l.length c], .blk g2 3 [.int .i64 m]] [] (by kernel_rfl) (by kernel_rfl) trivial ?_
      refine wpr_nil (nx_then (wpc_seq (wpc_seq ?_)))
      refine wpc_region [0, 1, 2, 3, 4, 5, 6, 7, 8] (by kernel_rfl) ?_
      refine wpr_run (l₂ := [3, 4, 5, 6, 7, 8]) true [0, 1, 2] [2] [(10, .agg #[.int .i64 1, .string (mkS (t0 :: tr)), .int .i64 0, .int .i64 0, .int .i64 0]), (4, .bool false), (3, .pointer (some ⟨g2, 0, none⟩)), (2, .pointer (some ⟨g1, 0, none⟩))] [ro a (List.flatMap valC l), gWords, .blk g1 43 [.string (mkS (t0 :: tr)), .slice a l.length c], .blk g2 3 [.int .i64 m]] [] (by kernel_rfl) (by kernel_rfl) trivial ?_
      refine wpr_call (dst := some 11) (rest := [ro a (List.flatMap valC l), .blk g1 43 [.string (mkS (t0 :: tr)), .slice a l.length c], .blk g2 3 [.int .i64 m]]) (by kernel_rfl) (hT) (give [1] (by kernel_rfl)) ?_
      rintro v _ ⟨rfl, rfl⟩
      rw [hn]
      refine wpr_run (l₂ := []) true [4, 5, 6, 7, 8] [] [(6, .int .i64 0), (4, .bool false), (3, .pointer (some ⟨g2, 0, none⟩)), (2, .pointer (some ⟨g1, 0, none⟩))] [ro a (List.flatMap valC l), .blk g1 43 [.string (mkS (t0 :: tr)), .slice a l.length c], .blk g2 3 [.int .i64 m]] [] (by kernel_rfl) (by kernel_rfl) trivial ?_
      refine wpr_nil (nx_then (wpc_seq ?_))
      refine wpc_region [0, 1, 2, 3, 4, 5, 6] (by kernel_rfl) ?_
      refine wpr_run (l₂ := []) true [0, 1, 2, 3, 4, 5, 6] [1] [(20, .bool false), (4, .bool false), (3, .pointer (some ⟨g2, 0, none⟩)), (2, .pointer (some ⟨g1, 0, none⟩))] [ro a (List.flatMap valC l), .blk g1 43 [.string (mkS (t0 :: tr)), .slice a l.length c], .blk g2 3 [.int .i64 m]] [] (by kernel_rfl) (by kernel_rfl) trivial ?_
      refine wpr_nil (nx_then ?_)
      refine wpc_false (by kernel_rfl) ?_
      refine wpc_skip ?_
      refine nx_then (wpc_seq ?_)
      refine wpc_region [0, 1, 2, 3, 4, 5] (by kernel_rfl) ?_
      refine wpr_run (l₂ := [3, 4, 5]) true [0, 1, 2] [1] [(23, Value.func (Fn.func 91) #[] #[.pointer (some ⟨g2, 0, none⟩)]), (22, .slice a l.length c), (4, .bool false)] [ro a (List.flatMap valC l), .blk g1 43 [.string (mkS (t0 :: tr)), .slice a l.length c], .blk g2 3 [.int .i64 m]] [] (by kernel_rfl) (by kernel_rfl) trivial ?_
      refine wpr_ent (ent_turn 2 (ro (some ⟨g2, 0, none⟩) [.int .i64 m]) rfl (turn_rblk (l := [.int .i64 m]) (fun u hu => by cases List.mem_singleton.1 hu; rfl)) rfl) ?_
      refine wpr_call (dst := some 24) (rest := [ro a (List.flatMap valC l), .blk g1 43 [.string (mkS (t0 :: tr)), .slice a l.length c], ro (some ⟨g2, 0, none⟩) [.int .i64 m]]) (by kernel_rfl) (ContainsFuncV_spec l a c m g2 hl hs) (Give.view (c := (ro a (List.flatMap valC l))) (Give.view (c := (ro (some ⟨g2, 0, none⟩) [.int .i64 m])) (give (pre := []) (rest := [ro a (List.flatMap valC l), .blk g1 43 [.string (mkS (t0 :: tr)), .slice a l.length c], ro (some ⟨g2, 0, none⟩) [.int .i64 m]]) [] (by kernel_rfl)) 2 (by kernel_rfl) view_ro) 0 (by kernel_rfl) view_ro) ?_
      rintro v _ ⟨rfl, rfl⟩
      refine wpr_run (l₂ := []) true [4, 5] [] [(4, .bool !!l.all (cellB m))] [ro a (List.flatMap valC l), .blk g1 43 [.string (mkS (t0 :: tr)), .slice a l.length c], ro (some ⟨g2, 0, none⟩) [.int .i64 m]] [] (by kernel_rfl) (by kernel_rfl) trivial ?_
      refine wpr_nil (nx_then ?_)
      refine wpc_ret ?_
      refine nx_end (hp' := []) (rest := [ro a (List.flatMap valC l), .blk g1 43 [.string (mkS (t0 :: tr)), .slice a l.length c], ro (some ⟨g2, 0, none⟩) [.int .i64 m]]) [] ((.bool !!l.all (cellB m))) (by kernel_rfl) (by kernel_rfl) (give [] (by kernel_rfl)) (by first | ((repeat (first | exact trivial | refine ⟨trivial, ?_⟩)); done) | assumption) ?_ (.inr rfl)
      exact ⟨by rw [hgo], rfl⟩
theorem cells_spec (l : List V) (a : Option Addr) (c : Nat) (m : Int) (hl : l.length ≤ 1048576) (hs : smL l) : Does Tryz.prog 58 [.slice a l.length c, .int .i64 m] [ro a (l.flatMap valC)] (fun u hp' => u = .bool (l.all (cellB m)) ∧ hp' = []) := by
  refine fn_enter Tryz.func58 rfl 27 rfl fun w0 h0 => ?_
  refine wpc_seq ?_
  refine wpc_region [0] (by kernel_rfl) ?_
  refine wpr_run (l₂ := []) true [0] [] [(4, .bool false), (0, .slice a l.length c), (1, .int .i64 m)] [ro a (List.flatMap valC l)] [] (by kernel_rfl) (by kernel_rfl) trivial ?_
  refine wpr_nil (nx_then (wpc_seq (wpc_seq ?_)))
  refine wpc_region [0] (by kernel_rfl) ?_
  refine wpr_run (l₂ := []) true [0] [] [(5, .int .i64 0), (4, .bool false), (0, .slice a l.length c), (1, .int .i64 m)] [ro a (List.flatMap valC l)] [] (by kernel_rfl) (by kernel_rfl) trivial ?_
  refine wpr_nil (nx_then ?_)
  refine wpc_block ?_
  refine wpc_loop (X := {n : Nat // ∃ h : n ≤ l.length, ∀ j, (hj : j < n) → cellB m (l[j]'(by omega)) = true}) (fun x => St.mk [(5, .int .i64 (x.1 : Int)), (4, .bool false), (0, .slice a l.length c), (1, .int .i64 m)] [ro a (l.flatMap valC)]) (fun x => l.length - x.1) ⟨0, Nat.zero_le _, fun j h => absurd h (Nat.not_lt_zero _)⟩ (ent_fr (by kernel_rfl)) ?_
  rintro ⟨n, hn, hall⟩
  dsimp only at hn hall ⊢
  by_cases hlt : n < l.length
  · refine wpc_fact (fun w h => ro_addr h 0 rfl (by rw [vals_len]; omega)) ?_
    rintro ⟨g0, o0, rfl⟩
    have hf := Right_spec l[n] m (hs _ (List.getElem_mem hlt))
    unfold valV at hf
    have hno : cellB m l[n] = false → l.all (cellB m) = false := fun hok => by
      cases h : l.all (cellB m) with
      | false => rfl
      | true =>
        have h2 := List.all_eq_true.1 h l[n] (List.getElem_mem hlt)
        rw [hok] at h2; cases h2
    refine wpc_seq (wpc_seq ?_)
    refine wpc_region [0, 1, 2, 3] (by kernel_rfl) ?_
    refine wpr_run (l₂ := []) true [0, 1, 2, 3] [] [(9, .bool (decide ((↑n : Int) < (↑l.length : Int)))), (5, .int .i64 (↑n : Int)), (4, .bool false), (0, .slice (some ⟨g0, o0, none⟩) l.length c), (1, .int .i64 m)] [ro (some ⟨g0, o0, none⟩) (List.flatMap valC l)] [] (by kernel_rfl) (by kernel_rfl) trivial ?_
    refine wpr_nil (nx_then ?_)
    refine wpc_ent (ent_set 9 (.bool (decide ((↑n : Int) < (↑l.length : Int)))) (.bool true) (by kernel_rfl) (congrArg _ (decide_eq_true (by omega)))) ?_
    refine wpc_true (by kernel_rfl) ?_
    refine wpc_skip ?_
    refine nx_then (wpc_seq ?_)
    refine wpc_block ?_
    refine wpc_seq ?_
    refine wpc_region [0, 1, 2, 3, 4, 5, 6, 7, 8, 9, 10, 11, 12, 13, 14] (by kernel_rfl) ?_
    refine wpr_run (l₂ := [3, 4, 5, 6, 7, 8, 9, 10, 11, 12, 13, 14]) true [0, 1, 2] [] ([(14, .pointer (some ⟨g0, o0 + n * 3, none⟩)), (5, .int .i64 (↑n : Int)), (4, .bool false), (0, .slice (some ⟨g0, o0, none⟩) l.length c), (1, .int .i64 m)]) [ro (some ⟨g0, o0, none⟩) (List.flatMap valC l)] [(0 : Int) ≤ (↑n : Int) ∧ (↑n : Int) < (↑l.length : Int)] (by kernel_rfl) (by kernel_rfl) ⟨by first | omega | decide | (simp; done), trivial⟩ ?_
    refine wpr_eq (ld (t := 28) (a := (⟨g0, o0 + n * 3, none⟩)) (dst := some 15) (by kernel_rfl) true 3 (by kernel_rfl) (by simp) (valC l[n]) rfl (fun w h => ld_ro h 0 rfl (n * 3) (vals_at hlt))) ?_
    refine wpr_run (l₂ := [5, 6, 7, 8, 9, 10, 11, 12, 13, 14]) true [4] [] [(16, .int .i64 m), (15, .agg #[.int .i64 l[n].k, .int .i64 l[n].n, .string (mkS l[n].s)]), (5, .int .i64 (↑n : Int)), (4, .bool false), (0, .slice (some ⟨g0, o0, none⟩) l.length c), (1, .int .i64 m)] [ro (some ⟨g0, o0, none⟩) (List.flatMap valC l)] [] (by kernel_rfl) (by kernel_rfl) trivial ?_
    refine wpr_call (dst := some 17) (rest := [ro (some ⟨g0, o0, none⟩) (List.flatMap valC l)]) (by kernel_rfl) (hf) (give [] (by kernel_rfl)) ?_
    rintro v _ ⟨rfl, rfl⟩
    cases hr : rightB l[n] m with
    | false =>
      refine wpr_run (l₂ := []) true [6, 7, 8, 9, 10, 11, 12, 13, 14] [] [(26, .bool true), (5, .int .i64 (↑n : Int)), (4, .bool false), (0, .slice (some ⟨g0, o0, none⟩) l.length c), (1, .int .i64 m)] [ro (some ⟨g0, o0, none⟩) (List.flatMap valC l)] [] (by kernel_rfl) (by kernel_rfl) trivial ?_
      refine wpr_nil (nx_then ?_)
      refine wpc_true (by kernel_rfl) ?_
      refine wpc_seq ?_
      refine wpc_region [0] (by kernel_rfl) ?_
      refine wpr_run (l₂ := []) true [0] [] [(4, .bool false), (5, .int .i64 (↑n : Int)), (0, .slice (some ⟨g0, o0, none⟩) l.length c), (1, .int .i64 m)] [ro (some ⟨g0, o0, none⟩) (List.flatMap valC l)] [] (by kernel_rfl) (by kernel_rfl) trivial ?_
      refine wpr_nil (nx_then ?_)
      refine wpc_ret ?_
      refine nx_block_ret ?_
      refine nx_then_ret ?_
      refine nx_then_ret ?_
      refine nx_block_ret ?_
      refine nx_then_ret ?_
      refine nx_end (hp' := []) (rest := [ro (some ⟨g0, o0, none⟩) (List.flatMap valC l)]) [] ((.bool false)) (by kernel_rfl) (by kernel_rfl) (give [] (by kernel_rfl)) (by first | ((repeat (first | exact trivial | refine ⟨trivial, ?_⟩)); done) | assumption) ?_ (.inr rfl)
      exact ⟨by rw [hno (by simp [cellB, hr])], rfl⟩
    | true =>
      refine wpr_run (l₂ := [12, 13, 14]) true [6, 7, 8, 9, 10, 11] [] ([(23, .pointer (some ⟨g0, o0 + n * 3, none⟩)), (19, .bool false), (5, .int .i64 (↑n : Int)), (4, .bool false), (0, .slice (some ⟨g0, o0, none⟩) l.length c), (1, .int .i64 m)]) [ro (some ⟨g0, o0, none⟩) (List.flatMap valC l)] [(0 : Int) ≤ (↑n : Int) ∧ (↑n : Int) < (↑l.length : Int)] (by kernel_rfl) (by kernel_rfl) ⟨by first | omega | decide | (simp; done), trivial⟩ ?_
      refine wpr_eq (ld (t := 26) (a := (⟨g0, o0 + n * 3, none⟩)) (dst := some 24) (by kernel_rfl) false 1 (by kernel_rfl) (by simp) [.int .i64 l[n].k] rfl (fun w h => ld_ro h 0 rfl (n * 3) (by have := congrArg (List.take 1) (vals_at hlt); rw [List.take_take] at this; exact this))) ?_
      refine wpr_run (l₂ := []) true [13, 14] [] [(26, .bool (l[n].k == 0)), (5, .int .i64 (↑n : Int)), (4, .bool false), (0, .slice (some ⟨g0, o0, none⟩) l.length c), (1, .int .i64 m)] [ro (some ⟨g0, o0, none⟩) (List.flatMap valC l)] [] (by kernel_rfl) (by kernel_rfl) trivial ?_
      refine wpr_nil (nx_then ?_)
      by_cases hk : l[n].k = 0
      · refine wpc_ent (ent_set 26 (.bool (l[n].k == 0)) (.bool true) (by kernel_rfl) (congrArg _ (by simp only [bne_iff_ne, beq_iff_eq, ne_eq]; omega))) ?_
        refine wpc_true (by kernel_rfl) ?_
        refine wpc_seq ?_
        refine wpc_region [0] (by kernel_rfl) ?_
        refine wpr_run (l₂ := []) true [0] [] [(4, .bool false), (5, .int .i64 (↑n : Int)), (0, .slice (some ⟨g0, o0, none⟩) l.length c), (1, .int .i64 m)] [ro (some ⟨g0, o0, none⟩) (List.flatMap valC l)] [] (by kernel_rfl) (by kernel_rfl) trivial ?_
        refine wpr_nil (nx_then ?_)
        refine wpc_ret ?_
        refine nx_block_ret ?_
        refine nx_then_ret ?_
        refine nx_then_ret ?_
        refine nx_block_ret ?_
        refine nx_then_ret ?_
        refine nx_end (hp' := []) (rest := [ro (some ⟨g0, o0, none⟩) (List.flatMap valC l)]) [] ((.bool false)) (by kernel_rfl) (by kernel_rfl) (give [] (by kernel_rfl)) (by first | ((repeat (first | exact trivial | refine ⟨trivial, ?_⟩)); done) | assumption) ?_ (.inr rfl)
        exact ⟨by rw [hno (by simp [cellB, hk])], rfl⟩
      · refine wpc_ent (ent_set 26 (.bool (l[n].k == 0)) (.bool false) (by kernel_rfl) (congrArg _ (by simp only [bne_eq_false_iff_eq, beq_eq_false_iff_ne, ne_eq]; omega))) ?_
        refine wpc_false (by kernel_rfl) ?_
        refine wpc_skip ?_
        refine nx_block (nx_then ?_)
        refine wpc_region [0, 1, 2] (by kernel_rfl) ?_
        refine wpr_run (l₂ := []) true [0, 1, 2] [] ([(5, .int .i64 ((↑n : Int) + 1)), (4, .bool false), (0, .slice (some ⟨g0, o0, none⟩) l.length c), (1, .int .i64 m)]) [ro (some ⟨g0, o0, none⟩) (List.flatMap valC l)] ([inI64 ((↑n : Int) + (1 : Int))]) (by kernel_rfl) (by kernel_rfl) ⟨by unfold inI64; omega, trivial⟩ ?_
        refine wpr_nil ?_
        exact fun a' w' hS' => ⟨⟨n + 1, hlt, fun j hj => by
                  rcases Nat.lt_or_ge j n with h | h
                  · exact hall j h
                  · obtain rfl : j = n := by omega
                    simp [cellB, hr, hk]⟩, by dsimp only; omega, ent_fr (by kernel_rfl) _ _ (ent_hp [0] rfl _ _ hS')⟩
  · refine wpc_seq ?_
    refine wpc_seq ?_
    refine wpc_region [0, 1, 2, 3] (by kernel_rfl) ?_
    refine wpr_run (l₂ := []) true [0, 1, 2, 3] [] [(9, .bool (decide ((↑n : Int) < (↑l.length : Int)))), (5, .int .i64 (↑n : Int)), (4, .bool false), (0, .slice a l.length c), (1, .int .i64 m)] [ro a (List.flatMap valC l)] [] (by kernel_rfl) (by kernel_rfl) trivial ?_
    refine wpr_nil (nx_then ?_)
    refine wpc_ent (ent_set 9 (.bool (decide ((↑n : Int) < (↑l.length : Int)))) (.bool false) (by kernel_rfl) (congrArg _ (decide_eq_false (by omega)))) ?_
    refine wpc_false (by kernel_rfl) ?_
    refine wpc_exit ?_
    refine nx_then_exit ?_
    refine nx_then_exit ?_
    refine nx_block_here ?_
    refine nx_then (wpc_seq ?_)
    refine wpc_region [0] (by kernel_rfl) ?_
    refine wpr_run (l₂ := []) true [0] [] [(4, .bool true)] [ro a (List.flatMap valC l)] [] (by kernel_rfl) (by kernel_rfl) trivial ?_
    refine wpr_nil (nx_then ?_)
    refine wpc_ret ?_
    refine nx_end (hp' := []) (rest := [ro a (List.flatMap valC l)]) [] ((.bool true)) (by kernel_rfl) (by kernel_rfl) (give [] (by kernel_rfl)) (by first | ((repeat (first | exact trivial | refine ⟨trivial, ?_⟩)); done) | assumption) ?_ (.inr rfl)
    have : l.all (cellB m) = true := List.all_eq_true.2 fun x hx => by
      obtain ⟨j, hj⟩ := List.getElem?_of_mem hx
      obtain ⟨hj1, rfl⟩ := List.getElem?_eq_some_iff.1 hj
      exact hall j (by omega)
    exact ⟨by rw [this], rfl⟩
end Go.Proofs.YtpfhleghgkeemaaGreatDoor
