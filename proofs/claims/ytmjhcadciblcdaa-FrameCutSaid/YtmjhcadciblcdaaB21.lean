import Derived.Test.YtmjhcadciblcdaaB20
import Derived.Test.YtmjhcadciblcdaaX16
namespace Go.Proofs.Ytmjhcadciblcdaa
open Go Go.Sx
set_option linter.unusedVariables false
set_option linter.unusedSimpArgs false

/-- Bytes that are read alone. -/
def roOf (x : Part) : Ch := ro x.1 (u8s x.2.2)
theorem short_spec (a : Option Addr) (c : Nat) (ps : List Part) (ha : a = none → ps = []) (hl : ps.length ≤ 9223372036854775807) (hx : ∀ x ∈ ps, x.2.2.length ≤ 9223372036854775807) :
    Does Try.prog 22 [.slice a ps.length c] [ro a (ps.map valOf')] (fun v hp' => ∃ b, v = .bool b ∧ (b = true → ps.length ≤ 60 ∧ ∀ x ∈ ps, x.2.2.length ≤ 2000) ∧ hp' = []) := by
  refine fn_enter Try.func22 rfl 30 rfl fun w0 h0 => ?_
  refine wpc_seq ?_
  refine wpc_region [0] (by kernel_rfl) ?_
  refine wpr_run (l₂ := []) true [0] [] [(2, Value.bool false), (0, Value.slice a ps.length c)] [ro a (List.map valOf' ps)] [] (by kernel_rfl) (by kernel_rfl) trivial ?_
  refine wpr_nil ?_
  refine nx_then ?_
  refine wpc_seq ?_
  refine wpc_region [0] (by kernel_rfl) ?_
  refine wpr_run (l₂ := []) true [0] [] [(3, Value.int IntKind.i64 0), (2, Value.bool false), (0, Value.slice a ps.length c)] [ro a (List.map valOf' ps)] [] (by kernel_rfl) (by kernel_rfl) trivial ?_
  refine wpr_nil ?_
  refine nx_then ?_
  refine wpc_seq ?_
  refine wpc_seq ?_
  refine wpc_region [0] (by kernel_rfl) ?_
  refine wpr_run (l₂ := []) true [0] [] [(4, Value.int IntKind.i64 0), (3, Value.int IntKind.i64 0), (2, Value.bool false), (0, Value.slice a ps.length c)] [ro a (List.map valOf' ps)] [] (by kernel_rfl) (by kernel_rfl) trivial ?_
  refine wpr_nil ?_
  refine nx_then ?_
  refine wpc_block ?_
  refine wpc_loop (X := {x : Nat × Nat // x.1 ≤ ps.length ∧ x.1 ≤ 60 ∧ x.2 ≤ 2000 * x.1 ∧ ∀ (j : Nat) y, j < x.1 → ps[j]? = some y → y.2.2.length ≤ 2000}) (fun x => St.mk [(4, .int .i64 (x.1.1 : Int)), (3, .int .i64 (x.1.2 : Int)), (2, .bool false), (0, .slice a ps.length c)] [ro a (ps.map valOf')]) (fun x => ps.length - x.1.1) ⟨(0, 0), Nat.zero_le _, Nat.zero_le _, Nat.zero_le _, fun j y h => absurd h (Nat.not_lt_zero _)⟩ (ent_fr (by kernel_rfl)) ?_
  rintro ⟨⟨i, sum⟩, hi, hi60, hs, hall⟩
  dsimp only at hi hi60 hs hall ⊢
  refine wpc_seq ?_
  refine wpc_seq ?_
  refine wpc_region [0, 1, 2, 3] (by kernel_rfl) ?_
  refine wpr_run (l₂ := []) true [0, 1, 2, 3] [] [(8, Value.bool (decide ((↑i : Int) < (↑ps.length : Int)))), (4, Value.int IntKind.i64 (↑i : Int)), (3, Value.int IntKind.i64 (↑sum : Int)), (2, Value.bool false), (0, Value.slice a ps.length c)] [ro a (List.map valOf' ps)] [] (by kernel_rfl) (by kernel_rfl) trivial ?_
  refine wpr_nil ?_
  refine nx_then ?_
  refine wpc_if (((↑i : Int) < (↑ps.length : Int))) (by kernel_rfl) (fun hlt => ?_) (fun hlt => ?_)
  · have hil : i < ps.length := by omega
    have hxi := hx ps[i] (List.getElem_mem hil)
    refine wpc_fact (fun w h => ro_addr h 0 rfl (by rw [List.length_map]; omega)) ?_
    rintro ⟨g0, o0, rfl⟩
    by_cases h60 : 60 ≤ i
    · refine wpc_skip ?_
      refine nx_then ?_
      refine wpc_seq ?_
      refine wpc_block ?_
      refine wpc_seq ?_
      refine wpc_seq ?_
      refine wpc_region [0, 1, 2, 3, 4, 5, 6, 7, 8, 9] (by kernel_rfl) ?_
      refine wpr_run (l₂ := [3, 4, 5, 6, 7, 8, 9]) true [0, 1, 2] [] [(13, Value.bool (decide ((↑i : Int) ≥ 60))), (4, Value.int IntKind.i64 (↑i : Int)), (3, Value.int IntKind.i64 (↑sum : Int)), (2, Value.bool false), (0, Value.slice (some { block := g0, off := o0 }) ps.length c)] [ro (some { block := g0, off := o0 }) (List.map valOf' ps)] [] (by kernel_rfl) (by kernel_rfl) trivial ?_
      refine wpr_ent (ent_set 13 (Value.bool (decide ((↑i : Int) ≥ 60))) (Value.bool true) (by kernel_rfl) (congrArg _ (decide_eq_true (by omega)))) ?_
      refine wpr_run (l₂ := []) true [3, 4, 5, 6, 7, 8, 9] [] [(20, Value.bool true), (4, Value.int IntKind.i64 (↑i : Int)), (3, Value.int IntKind.i64 (↑sum : Int)), (2, Value.bool false), (0, Value.slice (some { block := g0, off := o0 }) ps.length c)] [ro (some { block := g0, off := o0 }) (List.map valOf' ps)] [] (by kernel_rfl) (by kernel_rfl) trivial ?_
      refine wpr_nil ?_
      refine nx_then ?_
      refine wpc_true (by kernel_rfl) ?_
      refine wpc_seq ?_
      refine wpc_region [0] (by kernel_rfl) ?_
      refine wpr_run (l₂ := []) true [0] [] [(2, Value.bool false), (4, Value.int IntKind.i64 (↑i : Int)), (3, Value.int IntKind.i64 (↑sum : Int)), (0, Value.slice (some { block := g0, off := o0 }) ps.length c)] [ro (some { block := g0, off := o0 }) (List.map valOf' ps)] [] (by kernel_rfl) (by kernel_rfl) trivial ?_
      refine wpr_nil ?_
      refine nx_then ?_
      refine wpc_ret ?_
      refine nx_then_ret ?_
      refine nx_block_ret ?_
      refine nx_then_ret ?_
      refine nx_then_ret ?_
      refine nx_block_ret ?_
      refine nx_then_ret ?_
      refine nx_end (hp' := []) (rest := [ro (some { block := g0, off := o0 }) (List.map valOf' ps)]) [] ((Value.bool false)) (by kernel_rfl) (by kernel_rfl) (give [] (by kernel_rfl)) (by first | ((repeat (first | exact trivial | refine ⟨trivial, ?_⟩)); done) | assumption) ?_ (.inr rfl)
      exact ⟨false, rfl, fun h => (by cases h), rfl⟩
    refine wpc_skip ?_
    refine nx_then ?_
    refine wpc_seq ?_
    refine wpc_block ?_
    refine wpc_seq ?_
    refine wpc_seq ?_
    refine wpc_region [0, 1, 2, 3, 4, 5, 6, 7, 8, 9] (by kernel_rfl) ?_
    refine wpr_run (l₂ := [3, 4, 5, 6, 7, 8, 9]) true [0, 1, 2] [] [(13, Value.bool (decide ((↑i : Int) ≥ 60))), (4, Value.int IntKind.i64 (↑i : Int)), (3, Value.int IntKind.i64 (↑sum : Int)), (2, Value.bool false), (0, Value.slice (some { block := g0, off := o0 }) ps.length c)] [ro (some { block := g0, off := o0 }) (List.map valOf' ps)] [] (by kernel_rfl) (by kernel_rfl) trivial ?_
    refine wpr_ent (ent_set 13 (Value.bool (decide ((↑i : Int) ≥ 60))) (Value.bool false) (by kernel_rfl) (congrArg _ (decide_eq_false (by omega)))) ?_
    refine wpr_run (l₂ := [6, 7, 8, 9]) true [3, 4, 5] [] ([(16, Value.pointer (some { block := g0, off := o0 + i * 1 })), (13, Value.bool false), (4, Value.int IntKind.i64 (↑i : Int)), (3, Value.int IntKind.i64 (↑sum : Int)), (2, Value.bool false), (0, Value.slice (some { block := g0, off := o0 }) ps.length c)]) [ro (some { block := g0, off := o0 }) (List.map valOf' ps)] [(0 : Int) ≤ (↑i : Int) ∧ (↑i : Int) < (↑ps.length : Int)] (by kernel_rfl) (by kernel_rfl) ⟨by omega, trivial⟩ ?_
    refine wpr_eq (ld (t := 22) (a := ({ block := g0, off := o0 + i * 1 })) (dst := some 17) (by kernel_rfl) false 1 (by kernel_rfl) (by simp) [Value.slice (ps[i]).1 (ps[i]).2.2.length (ps[i]).2.1] rfl (fun w h => ld_ro h 0 rfl (i * 1) (map_at valOf' hil))) ?_
    by_cases hbig : 2000 < (ps[i]).2.2.length
    · refine wpr_run (l₂ := []) true [7, 8, 9] [] [(20, Value.bool (decide ((↑ps[i].snd.snd.length : Int) > 2000))), (4, Value.int IntKind.i64 (↑i : Int)), (3, Value.int IntKind.i64 (↑sum : Int)), (2, Value.bool false), (0, Value.slice (some { block := g0, off := o0 }) ps.length c)] [ro (some { block := g0, off := o0 }) (List.map valOf' ps)] [] (by kernel_rfl) (by kernel_rfl) trivial ?_
      refine wpr_nil ?_
      refine nx_then ?_
      refine wpc_ent (ent_set 20 (Value.bool (decide ((↑ps[i].snd.snd.length : Int) > 2000))) (Value.bool true) (by kernel_rfl) (congrArg _ (decide_eq_true (by omega)))) ?_
      refine wpc_true (by kernel_rfl) ?_
      refine wpc_seq ?_
      refine wpc_region [0] (by kernel_rfl) ?_
      refine wpr_run (l₂ := []) true [0] [] [(2, Value.bool false), (4, Value.int IntKind.i64 (↑i : Int)), (3, Value.int IntKind.i64 (↑sum : Int)), (0, Value.slice (some { block := g0, off := o0 }) ps.length c)] [ro (some { block := g0, off := o0 }) (List.map valOf' ps)] [] (by kernel_rfl) (by kernel_rfl) trivial ?_
      refine wpr_nil ?_
      refine nx_then ?_
      refine wpc_ret ?_
      refine nx_then_ret ?_
      refine nx_block_ret ?_
      refine nx_then_ret ?_
      refine nx_then_ret ?_
      refine nx_block_ret ?_
      refine nx_then_ret ?_
      refine nx_end (hp' := []) (rest := [ro (some { block := g0, off := o0 }) (List.map valOf' ps)]) [] ((Value.bool false)) (by kernel_rfl) (by kernel_rfl) (give [] (by kernel_rfl)) (by first | ((repeat (first | exact trivial | refine ⟨trivial, ?_⟩)); done) | assumption) ?_ (.inr rfl)
      exact ⟨false, rfl, fun h => (by cases h), rfl⟩
    refine wpr_run (l₂ := []) true [7, 8, 9] [] [(20, Value.bool (decide ((↑ps[i].snd.snd.length : Int) > 2000))), (4, Value.int IntKind.i64 (↑i : Int)), (3, Value.int IntKind.i64 (↑sum : Int)), (2, Value.bool false), (0, Value.slice (some { block := g0, off := o0 }) ps.length c)] [ro (some { block := g0, off := o0 }) (List.map valOf' ps)] [] (by kernel_rfl) (by kernel_rfl) trivial ?_
    refine wpr_nil ?_
    refine nx_then ?_
    refine wpc_ent (ent_set 20 (Value.bool (decide ((↑ps[i].snd.snd.length : Int) > 2000))) (Value.bool false) (by kernel_rfl) (congrArg _ (decide_eq_false (by omega)))) ?_
    refine wpc_false (by kernel_rfl) ?_
    refine wpc_skip ?_
    refine nx_then ?_
    refine wpc_region [0, 1, 2, 3, 4, 5, 6, 7] (by kernel_rfl) ?_
    refine wpr_run (l₂ := [4, 5, 6, 7]) true [0, 1, 2, 3] [] ([(24, Value.pointer (some { block := g0, off := o0 + i * 1 })), (21, Value.int IntKind.i64 (↑sum : Int)), (4, Value.int IntKind.i64 (↑i : Int)), (3, Value.int IntKind.i64 (↑sum : Int)), (2, Value.bool false), (0, Value.slice (some { block := g0, off := o0 }) ps.length c)]) [ro (some { block := g0, off := o0 }) (List.map valOf' ps)] [(0 : Int) ≤ (↑i : Int) ∧ (↑i : Int) < (↑ps.length : Int)] (by kernel_rfl) (by kernel_rfl) ⟨by omega, trivial⟩ ?_
    refine wpr_eq (ld (t := 22) (a := ({ block := g0, off := o0 + i * 1 })) (dst := some 25) (by kernel_rfl) false 1 (by kernel_rfl) (by simp) [Value.slice (ps[i]).1 (ps[i]).2.2.length (ps[i]).2.1] rfl (fun w h => ld_ro h 0 rfl (i * 1) (map_at valOf' hil))) ?_
    refine wpr_run (l₂ := []) true [5, 6, 7] [] ([(3, Value.int IntKind.i64 ((↑sum : Int) + (↑ps[i].snd.snd.length : Int))), (4, Value.int IntKind.i64 (↑i : Int)), (2, Value.bool false), (0, Value.slice (some { block := g0, off := o0 }) ps.length c)]) [ro (some { block := g0, off := o0 }) (List.map valOf' ps)] ([inI64 ((↑sum : Int) + (↑ps[i].snd.snd.length : Int))]) (by kernel_rfl) (by kernel_rfl) ⟨by unfold inI64; omega, trivial⟩ ?_
    refine wpr_nil ?_
    refine nx_block ?_
    refine nx_then ?_
    refine wpc_region [0, 1, 2] (by kernel_rfl) ?_
    refine wpr_run (l₂ := []) true [0, 1, 2] [] ([(4, Value.int IntKind.i64 ((↑i : Int) + 1)), (3, Value.int IntKind.i64 ((↑sum : Int) + (↑ps[i].snd.snd.length : Int))), (2, Value.bool false), (0, Value.slice (some { block := g0, off := o0 }) ps.length c)]) [ro (some { block := g0, off := o0 }) (List.map valOf' ps)] ([inI64 ((↑i : Int) + (1 : Int))]) (by kernel_rfl) (by kernel_rfl) ⟨by unfold inI64; omega, trivial⟩ ?_
    refine wpr_nil ?_
    exact fun a' w' hS' => ⟨⟨(i + 1, sum + (ps[i]).2.2.length), by omega, by omega, by dsimp only; omega, fun j y hj hy => by
          rcases Nat.lt_or_ge j i with h | h
          · exact hall j y h hy
          · obtain rfl : j = i := by omega
            rw [List.getElem?_eq_getElem hil] at hy
            cases hy; omega⟩, by dsimp only; omega, ent_fr (by kernel_rfl) _ _ (ent_hp [0] rfl _ _ hS')⟩
  · refine wpc_exit ?_
    refine nx_then_exit ?_
    refine nx_then_exit ?_
    refine nx_block_here ?_
    refine nx_then ?_
    refine wpc_seq ?_
    refine wpc_region [0, 1, 2] (by kernel_rfl) ?_
    refine wpr_run (l₂ := []) true [0, 1, 2] [] [(2, Value.bool (decide ((↑sum : Int) ≤ 20000)))] [ro a (List.map valOf' ps)] [] (by kernel_rfl) (by kernel_rfl) trivial ?_
    refine wpr_nil ?_
    refine nx_then ?_
    refine wpc_ret ?_
    refine nx_end (hp' := []) (rest := [ro a (List.map valOf' ps)]) [] ((Value.bool (decide ((↑sum : Int) ≤ 20000)))) (by kernel_rfl) (by kernel_rfl) (give [] (by kernel_rfl)) (by first | ((repeat (first | exact trivial | refine ⟨trivial, ?_⟩)); done) | assumption) ?_ (.inr rfl)
    exact ⟨_, rfl, fun _ => ⟨by omega, fun y hy => by
      obtain ⟨j, hj⟩ := List.getElem?_of_mem hy
      obtain ⟨hj1, _⟩ := List.getElem?_eq_some_iff.1 hj
      exact hall j y (by omega) hj⟩, rfl⟩
theorem cat_len : ∀ (ys : List (List UInt8)), (∀ y ∈ ys, y.length ≤ 2000) → (cat ys).length ≤ 2014 * ys.length
  | [], _ => Nat.zero_le _
  | y :: ys, h => by
    have h1 := cat_len ys (fun z hz => h z (List.mem_cons_of_mem _ hz))
    have h2 := h y (List.mem_cons_self ..)
    have h3 := frameL_length y
    have h4 := encI_len (n := (y.length : Int)) (by omega) (by omega)
    simp only [cat, List.length_append, List.length_cons]
    omega
theorem cat_take {xs : List (List UInt8)} {i : Nat} (h : i < xs.length) : cat (xs.take (i + 1)) = cat (xs.take i) ++ frameL xs[i] := by
  rw [← List.take_append_getElem h, cat_snoc]
def endsL (xs : List (List UInt8)) (i : Nat) : List Int := (List.range i).map fun j => ((cat (xs.take (j + 1))).length : Int)
theorem endsL_len (xs : List (List UInt8)) (i : Nat) : (endsL xs i).length = i := by simp [endsL]
theorem endsL_succ (xs : List (List UInt8)) (i : Nat) : endsL xs (i + 1) = endsL xs i ++ [((cat (xs.take (i + 1))).length : Int)] := by simp [endsL, List.range_succ]
theorem FrameCut_spec (a : Option Addr) (c : Nat) (ps : List Part) (z : Int) (ha : a = none → ps = []) (hl : ps.length ≤ 9223372036854775807) (hx : ∀ x ∈ ps, x.2.2.length ≤ 9223372036854775807 ∧ (x.1 = none → x.2.2 = [])) (h1 : -9223372036854775808 ≤ z) (h2 : z ≤ 9223372036854775807) :
    Does Try.prog 7 [.slice a ps.length c, .int .i64 z] [ro a (ps.map valOf'), bag (ps.map roOf)] (fun v hp' => v = .bool true ∧ hp' = []) := by
  refine fn_enter Try.func7 rfl 113 rfl fun w0 h0 => ?_
  refine wpc_seq ?_
  refine wpc_region [0] (by kernel_rfl) ?_
  refine wpr_run (l₂ := []) true [0] [] [(4, Value.bool false), (0, Value.slice a ps.length c), (1, Value.int IntKind.i64 z)] [ro a (List.map valOf' ps), bag (List.map roOf ps)] [] (by kernel_rfl) (by kernel_rfl) trivial ?_
  refine wpr_nil ?_
  refine nx_then ?_
  refine wpc_seq ?_
  refine wpc_seq ?_
  refine wpc_region [0, 1, 2] (by kernel_rfl) ?_
  refine wpr_run (l₂ := [1, 2]) true [0] [] [(15, Value.slice a ps.length c), (4, Value.bool false), (0, Value.slice a ps.length c), (1, Value.int IntKind.i64 z)] [ro a (List.map valOf' ps), bag (List.map roOf ps)] [] (by kernel_rfl) (by kernel_rfl) trivial ?_
  refine wpr_call (dst := some 16) (rest := [ro a (List.map valOf' ps), bag (List.map roOf ps)]) (by kernel_rfl) (short_spec a c ps ha hl (fun x h => (hx x h).1)) (Give.view (c := (ro a (List.map valOf' ps))) (give (pre := []) (rest := [ro a (List.map valOf' ps), bag (List.map roOf ps)]) [] (by kernel_rfl)) 0 (by kernel_rfl) view_ro) ?_
  rintro v _ ⟨b, rfl, hb, rfl⟩
  cases b with
  | false =>
    refine wpr_run (l₂ := []) true [2] [] [(17, Value.bool true), (4, Value.bool false), (0, Value.slice a ps.length c), (1, Value.int IntKind.i64 z)] [ro a (List.map valOf' ps), bag (List.map roOf ps)] [] (by kernel_rfl) (by kernel_rfl) trivial ?_
    refine wpr_nil ?_
    refine nx_then ?_
    refine wpc_true (by kernel_rfl) ?_
    refine wpc_seq ?_
    refine wpc_region [0, 1] (by kernel_rfl) ?_
    refine wpr_call (dst := some 18) (rest := [ro a (List.map valOf' ps), bag (List.map roOf ps)]) (by kernel_rfl) (lives_spec) (give [] (by kernel_rfl)) ?_
    rintro v _ ⟨rfl, rfl⟩
    refine wpr_run (l₂ := []) true [1] [] [(4, Value.bool true), (0, Value.slice a ps.length c), (1, Value.int IntKind.i64 z)] [ro a (List.map valOf' ps), bag (List.map roOf ps)] [] (by kernel_rfl) (by kernel_rfl) trivial ?_
    refine wpr_nil ?_
    refine nx_then ?_
    refine wpc_ret ?_
    refine nx_then_ret ?_
    refine nx_end (hp' := []) (rest := [ro a (List.map valOf' ps), bag (List.map roOf ps)]) [] ((Value.bool true)) (by kernel_rfl) (by kernel_rfl) (give [] (by kernel_rfl)) (by first | ((repeat (first | exact trivial | refine ⟨trivial, ?_⟩)); done) | assumption) ?_ (.inr rfl)
    exact ⟨rfl, rfl⟩
  | true =>
    obtain ⟨h60, h2000⟩ := hb rfl
    have hx : ∀ x ∈ ps, x.2.2.length ≤ 1048576 ∧ (x.1 = none → x.2.2 = []) := fun x h => ⟨Nat.le_trans (h2000 x h) (by decide), (hx x h).2⟩
    obtain ⟨xs, hxs⟩ : ∃ xs, xs = ps.map (·.2.2) := ⟨_, rfl⟩
    have hxl : xs.length = ps.length := by rw [hxs, List.length_map]
    have hx2 : ∀ y ∈ xs, y.length ≤ 2000 := fun y hy => by
      rw [hxs] at hy
      obtain ⟨x, hx, rfl⟩ := List.mem_map.1 hy
      exact h2000 x hx
    have hcl : ∀ i, (cat (xs.take i)).length ≤ 2014 * i := fun i => by
      have h3 := cat_len (xs.take i) (fun y hy => hx2 y (List.mem_of_mem_take hy))
      have h4 : (xs.take i).length ≤ i := by rw [List.length_take]; omega
      omega
    refine wpr_run (l₂ := []) true [2] [] [(17, Value.bool false), (4, Value.bool false), (0, Value.slice a ps.length c), (1, Value.int IntKind.i64 z)] [ro a (List.map valOf' ps), bag (List.map roOf ps)] [] (by kernel_rfl) (by kernel_rfl) trivial ?_
    refine wpr_nil ?_
    refine nx_then ?_
    refine wpc_false (by kernel_rfl) ?_
    refine wpc_skip ?_
    refine nx_then ?_
    refine wpc_seq ?_
    refine wpc_region [0] (by kernel_rfl) ?_
    refine wpr_run (l₂ := []) true [0] [] [(5, Value.slice none 0 0), (4, Value.bool false), (0, Value.slice a ps.length c), (1, Value.int IntKind.i64 z)] [ro a (List.map valOf' ps), bag (List.map roOf ps)] [] (by kernel_rfl) (by kernel_rfl) trivial ?_
    refine wpr_nil ?_
    refine nx_then ?_
    refine wpc_seq ?_
    refine wpc_region [0] (by kernel_rfl) ?_
    refine wpr_run (l₂ := []) true [0] [] [(6, Value.slice none 0 0), (5, Value.slice none 0 0), (4, Value.bool false), (0, Value.slice a ps.length c), (1, Value.int IntKind.i64 z)] [ro a (List.map valOf' ps), bag (List.map roOf ps)] [] (by kernel_rfl) (by kernel_rfl) trivial ?_
    refine wpr_nil ?_
    refine nx_then ?_
    refine wpc_seq ?_
    refine wpc_seq ?_
    refine wpc_region [0] (by kernel_rfl) ?_
    refine wpr_run (l₂ := []) true [0] [] [(7, Value.int IntKind.i64 0), (6, Value.slice none 0 0), (5, Value.slice none 0 0), (4, Value.bool false), (0, Value.slice a ps.length c), (1, Value.int IntKind.i64 z)] [ro a (List.map valOf' ps), bag (List.map roOf ps)] [] (by kernel_rfl) (by kernel_rfl) trivial ?_
    refine wpr_nil ?_
    refine nx_then ?_
    refine wpc_block ?_
    refine wpc_ent (ent_nil 3 1) ?_
    refine wpc_ent (ent_nil 5 1) ?_
    refine wpc_loop (X := {x : Nat × (Option Addr × Nat) × (Option Addr × Nat) // x.1 ≤ ps.length}) (fun x => St.mk [(7, .int .i64 (x.1.1 : Int)), (6, .slice x.1.2.1.1 (endsL xs x.1.1).length x.1.2.1.2), (5, .slice x.1.2.2.1 (cat (xs.take x.1.1)).length x.1.2.2.2), (4, Value.bool false), (0, Value.slice a ps.length c), (1, Value.int IntKind.i64 z)]
      [row 5 1 x.1.2.2.1 (cat (xs.take x.1.1)).length x.1.2.2.2 (u8s (cat (xs.take x.1.1))), row 3 1 x.1.2.1.1 (endsL xs x.1.1).length x.1.2.1.2 (ints (endsL xs x.1.1)), ro a (ps.map valOf'), bag (ps.map roOf)]) (fun x => ps.length - x.1.1) ⟨(0, (none, 0), (none, 0)), Nat.zero_le _⟩ (ent_fr (by kernel_rfl)) ?_
    rintro ⟨⟨i, ⟨ea, ec⟩, ⟨ba, bc⟩⟩, hi⟩
    dsimp only at hi ⊢
    have hci := hcl i
    refine wpc_seq ?_
    refine wpc_seq ?_
    refine wpc_region [0, 1, 2, 3] (by kernel_rfl) ?_
    refine wpr_run (l₂ := []) true [0, 1, 2, 3] [] [(22, Value.bool (decide ((↑i : Int) < (↑ps.length : Int)))), (7, Value.int IntKind.i64 (↑i : Int)), (6, Value.slice ea (endsL xs i).length ec), (5, Value.slice ba (cat (List.take i xs)).length bc), (4, Value.bool false), (0, Value.slice a ps.length c), (1, Value.int IntKind.i64 z)] [row 5 1 ba (cat (List.take i xs)).length bc (u8s (cat (List.take i xs))), row 3 1 ea (endsL xs i).length ec (ints (endsL xs i)), ro a (List.map valOf' ps), bag (List.map roOf ps)] [] (by kernel_rfl) (by kernel_rfl) trivial ?_
    refine wpr_nil ?_
    refine nx_then ?_
    refine wpc_if (((↑i : Int) < (↑ps.length : Int))) (by kernel_rfl) (fun hlt => ?_) (fun hlt => ?_)
    · have hil : i < ps.length := by omega
      refine wpc_fact (fun w h => ro_addr h 2 rfl (by rw [List.length_map]; omega)) ?_
      rintro ⟨g0, o0, rfl⟩
      refine wpc_fact (fun w h => row_none h 0 rfl) fun hno => ?_
      refine wpc_ent (ent_turn 0 (ro ba (u8s (cat (xs.take i)))) rfl (turn_view view_row) rfl) ?_
      refine wpc_ent (ent_copy 3 (ro (ps[i]).1 (u8s (ps[i]).2.2)) rfl (fun h => h) (view_in (List.mem_map.2 ⟨ps[i], List.getElem_mem hil, rfl⟩) view_ro)) ?_
      refine wpc_skip ?_
      refine nx_then ?_
      refine wpc_seq ?_
      refine wpc_block ?_
      refine wpc_seq ?_
      refine wpc_region [0, 1, 2, 3, 4, 5, 6, 7, 8, 9, 10] (by kernel_rfl) ?_
      refine wpr_run (l₂ := [4, 5, 6, 7, 8, 9, 10]) true [0, 1, 2, 3] [] ([(29, Value.pointer (some { block := g0, off := o0 + i * 1 })), (26, Value.slice ba (cat (List.take i xs)).length bc), (7, Value.int IntKind.i64 (↑i : Int)), (6, Value.slice ea (endsL xs i).length ec), (5, Value.slice ba (cat (List.take i xs)).length bc), (4, Value.bool false), (0, Value.slice (some { block := g0, off := o0 }) ps.length c), (1, Value.int IntKind.i64 z)]) [ro ps[i].fst (u8s ps[i].snd.snd), ro ba (u8s (cat (List.take i xs))), row 3 1 ea (endsL xs i).length ec (ints (endsL xs i)), ro (some { block := g0, off := o0 }) (List.map valOf' ps), bag (List.map roOf ps)] [(0 : Int) ≤ (↑i : Int) ∧ (↑i : Int) < (↑ps.length : Int)] (by kernel_rfl) (by kernel_rfl) ⟨by omega, trivial⟩ ?_
      refine wpr_eq (ld (t := 22) (a := ({ block := g0, off := o0 + i * 1 })) (dst := some 30) (by kernel_rfl) false 1 (by kernel_rfl) (by simp) [Value.slice (ps[i]).1 (ps[i]).2.2.length (ps[i]).2.1] rfl (fun w h => ld_ro h 3 rfl (i * 1) (map_at valOf' hil))) ?_
      have hpi := hx ps[i] (List.getElem_mem hil)
      have hxi : xs[i]'(by omega) = (ps[i]).2.2 := by subst hxs; simp
      refine wpr_call (dst := some 31) (rest := [ro ps[i].fst (u8s ps[i].snd.snd), ro ba (u8s (cat (List.take i xs))), row 3 1 ea (endsL xs i).length ec (ints (endsL xs i)), ro (some { block := g0, off := o0 }) (List.map valOf' ps), bag (List.map roOf ps)]) (by kernel_rfl) (Put_spec ba (ps[i]).1 bc (ps[i]).2.1 (cat (xs.take i)) (ps[i]).2.2 (fun e => by simpa [u8s] using hno e) hpi.2 (by omega) (by omega)) (Give.view (c := (ro ba (u8s (cat (List.take i xs))))) (Give.view (c := (ro ps[i].fst (u8s ps[i].snd.snd))) (give (pre := []) (rest := [ro ps[i].fst (u8s ps[i].snd.snd), ro ba (u8s (cat (List.take i xs))), row 3 1 ea (endsL xs i).length ec (ints (endsL xs i)), ro (some { block := g0, off := o0 }) (List.map valOf' ps), bag (List.map roOf ps)]) [] (by kernel_rfl)) 0 (by kernel_rfl) view_ro) 1 (by kernel_rfl) view_ro) ?_
      rintro v _ hv
      rw [if_neg (by omega), ← hxi, ← cat_take (by omega)] at hv
      obtain ⟨b2, c2, rfl, rfl⟩ := hv
      have hci2 := hcl (i + 1)
      refine wpr_run (l₂ := []) true [6, 7, 8, 9, 10] [] ([(9, Value.int IntKind.i64 0), (8, Value.slice b2 (cat (List.take (i + 1) xs)).length c2), (7, Value.int IntKind.i64 (↑i : Int)), (6, Value.slice ea (endsL xs i).length ec), (5, Value.slice ba (cat (List.take i xs)).length bc), (4, Value.bool false), (0, Value.slice (some { block := g0, off := o0 }) ps.length c), (1, Value.int IntKind.i64 z)]) ([row 5 1 b2 (cat (List.take (i + 1) xs)).length c2 (u8s (cat (List.take (i + 1) xs))), ro ps[i].fst (u8s ps[i].snd.snd), ro ba (u8s (cat (List.take i xs))), row 3 1 ea (endsL xs i).length ec (ints (endsL xs i)), ro (some { block := g0, off := o0 }) (List.map valOf' ps), bag (List.map roOf ps)]) [] (by kernel_rfl) (by kernel_rfl) trivial ?_
      refine wpr_nil ?_
      refine nx_then ?_
      refine wpc_seq ?_
      refine wpc_seq ?_
      refine wpc_region [0, 1] (by kernel_rfl) ?_
      refine wpr_run (l₂ := []) true [0, 1] [] ([(35, Value.bool false), (8, Value.slice b2 (cat (List.take (i + 1) xs)).length c2), (7, Value.int IntKind.i64 (↑i : Int)), (6, Value.slice ea (endsL xs i).length ec), (5, Value.slice ba (cat (List.take i xs)).length bc), (4, Value.bool false), (0, Value.slice (some { block := g0, off := o0 }) ps.length c), (1, Value.int IntKind.i64 z)]) ([row 5 1 b2 (cat (List.take (i + 1) xs)).length c2 (u8s (cat (List.take (i + 1) xs))), ro ps[i].fst (u8s ps[i].snd.snd), ro ba (u8s (cat (List.take i xs))), row 3 1 ea (endsL xs i).length ec (ints (endsL xs i)), ro (some { block := g0, off := o0 }) (List.map valOf' ps), bag (List.map roOf ps)]) [] (by kernel_rfl) (by kernel_rfl) trivial ?_
      refine wpr_nil ?_
      refine nx_then ?_
      refine wpc_false (by kernel_rfl) ?_
      refine wpc_skip ?_
      refine nx_then ?_
      refine wpc_seq ?_
      refine wpc_region [0, 1] (by kernel_rfl) ?_
      refine wpr_run (l₂ := []) true [0, 1] [] ([(5, Value.slice b2 (cat (List.take (i + 1) xs)).length c2), (7, Value.int IntKind.i64 (↑i : Int)), (6, Value.slice ea (endsL xs i).length ec), (4, Value.bool false), (0, Value.slice (some { block := g0, off := o0 }) ps.length c), (1, Value.int IntKind.i64 z)]) ([row 5 1 b2 (cat (List.take (i + 1) xs)).length c2 (u8s (cat (List.take (i + 1) xs))), ro ps[i].fst (u8s ps[i].snd.snd), ro ba (u8s (cat (List.take i xs))), row 3 1 ea (endsL xs i).length ec (ints (endsL xs i)), ro (some { block := g0, off := o0 }) (List.map valOf' ps), bag (List.map roOf ps)]) [] (by kernel_rfl) (by kernel_rfl) trivial ?_
      refine wpr_nil ?_
      refine nx_then ?_
      refine wpc_region [0, 1, 2, 3, 4, 5] (by kernel_rfl) ?_
      refine wpr_new (l₂ := [4, 5]) true [0, 1, 2, 3] [] (fun g1 => ([(40, Value.slice (some { block := g1, off := 0 }) 1 1), (37, Value.slice ea (endsL xs i).length ec), (5, Value.slice b2 (cat (List.take (i + 1) xs)).length c2), (7, Value.int IntKind.i64 (↑i : Int)), (6, Value.slice ea (endsL xs i).length ec), (4, Value.bool false), (0, Value.slice (some { block := g0, off := o0 }) ps.length c), (1, Value.int IntKind.i64 z)])) (fun g1 => ([row 5 1 b2 (cat (List.take (i + 1) xs)).length c2 (u8s (cat (List.take (i + 1) xs))), ro ps[i].fst (u8s ps[i].snd.snd), ro ba (u8s (cat (List.take i xs))), row 3 1 ea (endsL xs i).length ec (ints (endsL xs i)), ro (some { block := g0, off := o0 }) (List.map valOf' ps), bag (List.map roOf ps), Ch.blk g1 3 [Value.int IntKind.i64 (↑(cat (List.take (i + 1) xs)).length : Int)]])) (fun g1 => []) (fun g1 => by kernel_rfl) (fun g1 => by kernel_rfl) (fun g1 => trivial) fun g1 => ?_
      refine wpr_ent (ent_turn 6 (ro (some ⟨g1, 0, none⟩) (ints [((cat (xs.take (i + 1))).length : Int)])) rfl (turn_rints [((cat (xs.take (i + 1))).length : Int)] rfl) rfl) ?_
      have hel := endsL_len xs i
      refine wpr_app (a := ea) (n := ((endsL xs i).length)) (cap := ec) (x := (Value.slice (some { block := g1, off := 0 }) 1 1)) (t := 50) (xt := 50) (dst := some 41) (by kernel_rfl) (e := 3) (sz := 1) (bytes := 8) (by kernel_rfl) 3 (xs := (ints (endsL xs i))) (by kernel_rfl) (m := 1) (news := (ints [((cat (xs.take (i + 1))).length : Int)])) (fun w h => src_ro h 6 rfl rfl (fun e => by cases e)) (by unfold maxLen; omega) (by omega) ?_
      intro b3 c3 hb3
      rw [ints_append, ← endsL_succ, show (endsL xs i).length + 1 = (endsL xs (i + 1)).length by rw [endsL_len, endsL_len]]
      refine wpr_run (l₂ := []) true [5] [] ([(6, Value.slice b3 (endsL xs (i + 1)).length c3), (5, Value.slice b2 (cat (List.take (i + 1) xs)).length c2), (7, Value.int IntKind.i64 (↑i : Int)), (4, Value.bool false), (0, Value.slice (some { block := g0, off := o0 }) ps.length c), (1, Value.int IntKind.i64 z)]) ([row 5 1 b2 (cat (List.take (i + 1) xs)).length c2 (u8s (cat (List.take (i + 1) xs))), ro ps[i].fst (u8s ps[i].snd.snd), ro ba (u8s (cat (List.take i xs))), row 3 1 b3 (endsL xs (i + 1)).length c3 (ints (endsL xs (i + 1))), ro (some { block := g0, off := o0 }) (List.map valOf' ps), bag (List.map roOf ps), ro (some { block := g1, off := 0 }) (ints [(↑(cat (List.take (i + 1) xs)).length : Int)])]) [] (by kernel_rfl) (by kernel_rfl) trivial ?_
      refine wpr_nil ?_
      refine nx_block ?_
      refine nx_then ?_
      refine wpc_region [0, 1, 2] (by kernel_rfl) ?_
      refine wpr_run (l₂ := []) true [0, 1, 2] [] ([(7, Value.int IntKind.i64 ((↑i : Int) + 1)), (6, Value.slice b3 (endsL xs (i + 1)).length c3), (5, Value.slice b2 (cat (List.take (i + 1) xs)).length c2), (4, Value.bool false), (0, Value.slice (some { block := g0, off := o0 }) ps.length c), (1, Value.int IntKind.i64 z)]) ([row 5 1 b2 (cat (List.take (i + 1) xs)).length c2 (u8s (cat (List.take (i + 1) xs))), ro ps[i].fst (u8s ps[i].snd.snd), ro ba (u8s (cat (List.take i xs))), row 3 1 b3 (endsL xs (i + 1)).length c3 (ints (endsL xs (i + 1))), ro (some { block := g0, off := o0 }) (List.map valOf' ps), bag (List.map roOf ps), ro (some { block := g1, off := 0 }) (ints [(↑(cat (List.take (i + 1) xs)).length : Int)])]) ([inI64 ((↑i : Int) + (1 : Int))]) (by kernel_rfl) (by kernel_rfl) ⟨by unfold inI64; omega, trivial⟩ ?_
      refine wpr_nil ?_
      exact fun a' w' hS' => ⟨⟨(i + 1, (b3, c3), (b2, c2)), by dsimp only; omega⟩, by dsimp only; omega, ent_fr (by kernel_rfl) _ _ (ent_hp [0, 2, 2, 2] rfl _ _ hS')⟩
    · obtain rfl : i = ps.length := by omega
      rw [show xs.take ps.length = xs by rw [← hxl, List.take_length]] at hci ⊢
      have hw : IntKind.u64.wrap (((cat xs).length : Int) + 1) = (((cat xs).length + 1 : Nat) : Int) := by rw [u64_wrap]; omega
      obtain ⟨m, hm, hml⟩ : ∃ m : Nat, IntKind.i64.wrap ((IntKind.u64.wrap z).tmod (IntKind.u64.wrap (((cat xs).length : Int) + 1))) = m ∧ m ≤ (cat xs).length := by
        rw [hw]
        have hz0 : 0 ≤ IntKind.u64.wrap z := by rw [u64_wrap]; omega
        rw [Int.tmod_eq_emod_of_nonneg hz0]
        have a1 : 0 ≤ IntKind.u64.wrap z % (((cat xs).length + 1 : Nat) : Int) := Int.emod_nonneg _ (by omega)
        have a2 : IntKind.u64.wrap z % (((cat xs).length + 1 : Nat) : Int) < (((cat xs).length + 1 : Nat) : Int) := Int.emod_lt_of_pos _ (by omega)
        refine ⟨(IntKind.u64.wrap z % (((cat xs).length + 1 : Nat) : Int)).toNat, ?_, by omega⟩
        rw [i64_wrap]
        split <;> omega
      refine wpc_fact (fun w h => row_none h 0 rfl) fun hno => ?_
      refine wpc_fact (fun w h => row_cap h 0 rfl) fun hcap => ?_
      refine wpc_exit ?_
      refine nx_then_exit ?_
      refine nx_then_exit ?_
      refine nx_block_here ?_
      refine nx_then ?_
      refine wpc_seq ?_
      refine wpc_region [0, 1, 2, 3, 4, 5, 6, 7, 8] (by kernel_rfl) ?_
      refine wpr_run (l₂ := []) true [0, 1, 2, 3, 4, 5, 6, 7, 8] [] ([(10, Value.int IntKind.i64 (IntKind.i64.wrap ((IntKind.u64.wrap z).tmod (IntKind.u64.wrap ((↑(cat xs).length : Int) + 1))))), (6, Value.slice ea (endsL xs ps.length).length ec), (5, Value.slice ba (cat xs).length bc), (4, Value.bool false), (0, Value.slice a ps.length c)]) [row 5 1 ba (cat xs).length bc (u8s (cat xs)), row 3 1 ea (endsL xs ps.length).length ec (ints (endsL xs ps.length)), ro a (List.map valOf' ps), bag (List.map roOf ps)] ([inI64 ((↑(cat xs).length : Int) + (1 : Int)), IntKind.u64.wrap ((↑(cat xs).length : Int) + (1 : Int)) ≠ (0 : Int)]) (by kernel_rfl) (by kernel_rfl) ⟨by unfold inI64; omega, by omega, trivial⟩ ?_
      refine wpr_nil ?_
      refine nx_then ?_
      refine wpc_seq ?_
      refine wpc_region [0, 1, 2, 3, 4, 5, 6, 7, 8] (by kernel_rfl) ?_
      refine wpr_run (l₂ := [3, 4, 5, 6, 7, 8]) true [0, 1, 2] [] ([(53, Value.slice ba (IntKind.i64.wrap ((IntKind.u64.wrap z).tmod (IntKind.u64.wrap ((↑(cat xs).length : Int) + 1)))).toNat bc), (10, Value.int IntKind.i64 (IntKind.i64.wrap ((IntKind.u64.wrap z).tmod (IntKind.u64.wrap ((↑(cat xs).length : Int) + 1))))), (6, Value.slice ea (endsL xs ps.length).length ec), (4, Value.bool false), (0, Value.slice a ps.length c)]) [row 5 1 ba (cat xs).length bc (u8s (cat xs)), row 3 1 ea (endsL xs ps.length).length ec (ints (endsL xs ps.length)), ro a (List.map valOf' ps), bag (List.map roOf ps)] ([(0 : Int) ≤ IntKind.i64.wrap ((IntKind.u64.wrap z).tmod (IntKind.u64.wrap ((↑(cat xs).length : Int) + (1 : Int)))) ∧ IntKind.i64.wrap ((IntKind.u64.wrap z).tmod (IntKind.u64.wrap ((↑(cat xs).length : Int) + (1 : Int)))) ≤ (↑bc : Int)]) (by kernel_rfl) (by kernel_rfl) ⟨by omega, trivial⟩ ?_
      rw [hm, Int.toNat_natCast]
      have htl : ((cat xs).take m).length = m := by rw [List.length_take]; omega
      change WpR _ _ _ (St.mk [(53, Value.slice ba m bc), (10, Value.int IntKind.i64 (↑m : Int)), (6, Value.slice ea (endsL xs ps.length).length ec), (4, Value.bool false), (0, Value.slice a ps.length c)] [row 5 1 ba (cat xs).length bc (u8s (cat xs)), row 3 1 ea (endsL xs ps.length).length ec (ints (endsL xs ps.length)), ro a (List.map valOf' ps), bag (List.map roOf ps)]) _
      refine wpr_ent (ent_turn 0 (ro ba (u8s (cat xs))) rfl (turn_view view_row) rfl) ?_
      refine wpr_ent (ent_turn 0 (ro ba (u8s ((cat xs).take m))) rfl (turn_view (by
        have h := view_front (a := ba) (xs := u8s (cat xs)) m
        rw [show (u8s (cat xs)).take m = u8s ((cat xs).take m) by simp [u8s, List.map_take]] at h
        exact h)) rfl) ?_
      refine wpr_ent (ent_set 53 (Value.slice ba m bc) (Value.slice ba ((cat xs).take m).length bc) (by kernel_rfl) (by rw [htl])) ?_
      refine wpr_call (dst := some 54) (rest := [ro ba (u8s (List.take m (cat xs))), row 3 1 ea (endsL xs ps.length).length ec (ints (endsL xs ps.length)), ro a (List.map valOf' ps), bag (List.map roOf ps)]) (by kernel_rfl) (All_spec ba bc ((cat xs).take m) (fun e => by have h := hno e; simp [u8s] at h; simp [h]) (by omega) (by omega)) (Give.view (c := (ro ba (u8s (List.take m (cat xs))))) (give (pre := []) (rest := [ro ba (u8s (List.take m (cat xs))), row 3 1 ea (endsL xs ps.length).length ec (ints (endsL xs ps.length)), ro a (List.map valOf' ps), bag (List.map roOf ps)]) [] (by kernel_rfl)) 0 (by kernel_rfl) view_ro) ?_
      rintro v _ ⟨⟨sa, sc⟩, ps2, hps2, rfl, rfl⟩
      obtain ⟨F, hF⟩ : ∃ F, F = fit xs m := ⟨_, rfl⟩
      have hFl := fit_le xs m
      have hFi := fit_in xs m
      have hFo := fit_out xs m
      rw [allL_cut xs m (fun y hy => by have := hx2 y hy; omega) hml, ← hF] at hps2 ⊢
      rw [← hF] at hFl hFi hFo
      have hp2l : ps2.length = F := by
        have h := congrArg List.length hps2
        rw [List.length_map, List.length_take] at h
        omega
      refine wpr_ent (ent_turn 0 (ro sa (ps2.map valOf')) rfl (turn_view view_row) rfl) ?_
      refine wpr_ent (ent_turn 1 (bag (ps2.map rowOf)) rfl (turn_view view_bag) rfl) ?_
      refine wpr_run (l₂ := []) true [4, 5, 6, 7, 8] [] [(12, Value.int IntKind.i64 (↑(cat (List.take F xs)).length : Int)), (11, Value.slice sa ps2.length sc), (10, Value.int IntKind.i64 (↑m : Int)), (6, Value.slice ea (endsL xs ps.length).length ec), (4, Value.bool false), (0, Value.slice a ps.length c)] [ro sa (List.map valOf' ps2), bag (List.map rowOf ps2), ro ba (u8s (List.take m (cat xs))), row 3 1 ea (endsL xs ps.length).length ec (ints (endsL xs ps.length)), ro a (List.map valOf' ps), bag (List.map roOf ps)] [] (by kernel_rfl) (by kernel_rfl) trivial ?_
      refine wpr_nil ?_
      refine nx_then ?_
      refine wpc_seq ?_
      refine wpc_region [0] (by kernel_rfl) ?_
      refine wpr_run (l₂ := []) true [0] [] [(13, Value.int IntKind.i64 0), (12, Value.int IntKind.i64 (↑(cat (List.take F xs)).length : Int)), (11, Value.slice sa ps2.length sc), (10, Value.int IntKind.i64 (↑m : Int)), (6, Value.slice ea (endsL xs ps.length).length ec), (4, Value.bool false), (0, Value.slice a ps.length c)] [ro sa (List.map valOf' ps2), bag (List.map rowOf ps2), ro ba (u8s (List.take m (cat xs))), row 3 1 ea (endsL xs ps.length).length ec (ints (endsL xs ps.length)), ro a (List.map valOf' ps), bag (List.map roOf ps)] [] (by kernel_rfl) (by kernel_rfl) trivial ?_
      refine wpr_nil ?_
      refine nx_then ?_
      refine wpc_seq ?_
      refine wpc_block ?_
      refine wpc_loop (X := {k : Nat // k ≤ F}) (fun x => St.mk [(13, .int .i64 (x.1 : Int)), (12, .int .i64 ((cat (xs.take F)).length : Int)), (11, .slice sa ps2.length sc), (10, .int .i64 (m : Int)), (6, .slice ea (endsL xs ps.length).length ec), (4, .bool false), (0, .slice a ps.length c)]
        [ro sa (ps2.map valOf'), bag (ps2.map rowOf), row 3 1 ea (endsL xs ps.length).length ec (ints (endsL xs ps.length)), ro a (ps.map valOf'), bag (ps.map roOf)]) (fun x => F - x.1) ⟨0, Nat.zero_le _⟩ (Ent.trans (ent_hp [0, 0, 1, 1, 1] rfl) (ent_fr (by kernel_rfl))) ?_
      rintro ⟨k, hk⟩
      dsimp only at hk ⊢
      have hel := endsL_len xs ps.length
      have hat : ∀ q, (hq : q < (endsL xs ps.length).length) → (endsL xs ps.length)[q] = ((cat (xs.take (q + 1))).length : Int) := fun q hq => by simp [endsL]
      by_cases hkF : k < F
      · have hkl : k < (endsL xs ps.length).length := by omega
        have hfi := hFi k hkF
        refine wpc_fact (fun w h => row_addr h 2 rfl (by omega)) ?_
        rintro ⟨g2, o2, rfl⟩
        refine wpc_seq ?_
        refine wpc_seq ?_
        refine wpc_region [0, 1, 2, 3, 4, 5, 6, 7, 8, 9, 10, 11] (by kernel_rfl) ?_
        refine wpr_run (l₂ := [5, 6, 7, 8, 9, 10, 11]) true [0, 1, 2, 3, 4] [] [(61, Value.bool (decide ((↑k : Int) < (↑(endsL xs ps.length).length : Int)))), (13, Value.int IntKind.i64 (↑k : Int)), (12, Value.int IntKind.i64 (↑(cat (List.take F xs)).length : Int)), (11, Value.slice sa ps2.length sc), (10, Value.int IntKind.i64 (↑m : Int)), (6, Value.slice (some { block := g2, off := o2 }) (endsL xs ps.length).length ec), (4, Value.bool false), (0, Value.slice a ps.length c)] [ro sa (List.map valOf' ps2), bag (List.map rowOf ps2), row 3 1 (some { block := g2, off := o2 }) (endsL xs ps.length).length ec (ints (endsL xs ps.length)), ro a (List.map valOf' ps), bag (List.map roOf ps)] [] (by kernel_rfl) (by kernel_rfl) trivial ?_
        refine wpr_ent (ent_set 61 (Value.bool (decide ((↑k : Int) < (↑(endsL xs ps.length).length : Int)))) (Value.bool true) (by kernel_rfl) (congrArg _ (decide_eq_true (by omega)))) ?_
        refine wpr_run (l₂ := [8, 9, 10, 11]) true [5, 6, 7] [] ([(64, Value.pointer (some { block := g2, off := o2 + k * 1 })), (61, Value.bool true), (13, Value.int IntKind.i64 (↑k : Int)), (12, Value.int IntKind.i64 (↑(cat (List.take F xs)).length : Int)), (11, Value.slice sa ps2.length sc), (10, Value.int IntKind.i64 (↑m : Int)), (6, Value.slice (some { block := g2, off := o2 }) (endsL xs ps.length).length ec), (4, Value.bool false), (0, Value.slice a ps.length c)]) [ro sa (List.map valOf' ps2), bag (List.map rowOf ps2), row 3 1 (some { block := g2, off := o2 }) (endsL xs ps.length).length ec (ints (endsL xs ps.length)), ro a (List.map valOf' ps), bag (List.map roOf ps)] [(0 : Int) ≤ (↑k : Int) ∧ (↑k : Int) < (↑(endsL xs ps.length).length : Int)] (by kernel_rfl) (by kernel_rfl) ⟨by omega, trivial⟩ ?_
        refine wpr_eq (ld (t := 3) (a := ({ block := g2, off := o2 + k * 1 })) (dst := some 65) (by kernel_rfl) false 1 (by kernel_rfl) (by simp) [.int .i64 ((cat (xs.take (k + 1))).length : Int)] rfl (fun w h => ld_row h 2 rfl (k * 1) ((ints_at hkl).trans (by rw [hat])))) ?_
        refine wpr_run (l₂ := []) true [9, 10, 11] [] ([(68, Value.bool (decide ((↑(cat (List.take (k + 1) xs)).length : Int) ≤ (↑m : Int)))), (13, Value.int IntKind.i64 (↑k : Int)), (12, Value.int IntKind.i64 (↑(cat (List.take F xs)).length : Int)), (11, Value.slice sa ps2.length sc), (10, Value.int IntKind.i64 (↑m : Int)), (6, Value.slice (some { block := g2, off := o2 }) (endsL xs ps.length).length ec), (4, Value.bool false), (0, Value.slice a ps.length c)]) [ro sa (List.map valOf' ps2), bag (List.map rowOf ps2), row 3 1 (some { block := g2, off := o2 }) (endsL xs ps.length).length ec (ints (endsL xs ps.length)), ro a (List.map valOf' ps), bag (List.map roOf ps)] [] (by kernel_rfl) (by kernel_rfl) trivial ?_
        refine wpr_nil ?_
        refine nx_then ?_
        refine wpc_ent (ent_set 68 (Value.bool (decide ((↑(cat (List.take (k + 1) xs)).length : Int) ≤ (↑m : Int)))) (Value.bool true) (by kernel_rfl) (congrArg _ (decide_eq_true (by omega)))) ?_
        refine wpc_true (by kernel_rfl) ?_
        refine wpc_skip ?_
        refine nx_then ?_
        refine wpc_block ?_
        refine wpc_region [0, 1, 2] (by kernel_rfl) ?_
        refine wpr_run (l₂ := []) true [0, 1, 2] [] ([(13, Value.int IntKind.i64 ((↑k : Int) + 1)), (12, Value.int IntKind.i64 (↑(cat (List.take F xs)).length : Int)), (11, Value.slice sa ps2.length sc), (10, Value.int IntKind.i64 (↑m : Int)), (6, Value.slice (some { block := g2, off := o2 }) (endsL xs ps.length).length ec), (4, Value.bool false), (0, Value.slice a ps.length c)]) [ro sa (List.map valOf' ps2), bag (List.map rowOf ps2), row 3 1 (some { block := g2, off := o2 }) (endsL xs ps.length).length ec (ints (endsL xs ps.length)), ro a (List.map valOf' ps), bag (List.map roOf ps)] ([inI64 ((↑k : Int) + (1 : Int))]) (by kernel_rfl) (by kernel_rfl) ⟨by unfold inI64; omega, trivial⟩ ?_
        refine wpr_nil ?_
        refine nx_block ?_
        exact fun a' w' hS' => ⟨⟨k + 1, by omega⟩, by dsimp only; omega, ent_fr (by kernel_rfl) _ _ (ent_hp [0, 0, 0, 0, 0] rfl _ _ hS')⟩
      · obtain rfl : k = F := by omega
        refine wpc_seq ?_
        refine wpc_seq ?_
        refine wpc_region [0, 1, 2, 3, 4, 5, 6, 7, 8, 9, 10, 11] (by kernel_rfl) ?_
        refine wpr_run (l₂ := [5, 6, 7, 8, 9, 10, 11]) true [0, 1, 2, 3, 4] [] [(61, Value.bool (decide ((↑k : Int) < (↑(endsL xs ps.length).length : Int)))), (13, Value.int IntKind.i64 (↑k : Int)), (12, Value.int IntKind.i64 (↑(cat (List.take k xs)).length : Int)), (11, Value.slice sa ps2.length sc), (10, Value.int IntKind.i64 (↑m : Int)), (6, Value.slice ea (endsL xs ps.length).length ec), (4, Value.bool false), (0, Value.slice a ps.length c)] [ro sa (List.map valOf' ps2), bag (List.map rowOf ps2), row 3 1 ea (endsL xs ps.length).length ec (ints (endsL xs ps.length)), ro a (List.map valOf' ps), bag (List.map roOf ps)] [] (by kernel_rfl) (by kernel_rfl) trivial ?_
        refine wpr_join ⟨[(68, Value.bool false), (13, (Value.int IntKind.i64 (↑k : Int))), (12, (Value.int IntKind.i64 (↑(cat (List.take k xs)).length : Int))), (11, (Value.slice sa ps2.length sc)), (10, (Value.int IntKind.i64 (↑m : Int))), (6, (Value.slice ea (endsL xs ps.length).length ec)), (4, (Value.bool false)), (0, (Value.slice a ps.length c))], [ro sa (List.map valOf' ps2), bag (List.map rowOf ps2), row 3 1 ea (endsL xs ps.length).length ec (ints (endsL xs ps.length)), ro a (List.map valOf' ps), bag (List.map roOf ps)]⟩ (fun Q1 hQ1 hk2 => ?_) ?_
        · refine wpr_casep 61 (((↑k : Int) < (↑(endsL xs ps.length).length : Int))) (by kernel_rfl) (fun h => ?_) (fun h => ?_)
          · have hkl : k < (endsL xs ps.length).length := by omega
            have hfo := hFo (by omega)
            refine wpr_fact (fun w h => row_addr h 2 rfl (by omega)) ?_
            rintro ⟨g2, o2, rfl⟩
            refine wpr_run (l₂ := [8, 9, 10, 11]) true [5, 6, 7] [] ([(64, Value.pointer (some { block := g2, off := o2 + k * 1 })), (61, Value.bool true), (13, Value.int IntKind.i64 (↑k : Int)), (12, Value.int IntKind.i64 (↑(cat (List.take k xs)).length : Int)), (11, Value.slice sa ps2.length sc), (10, Value.int IntKind.i64 (↑m : Int)), (6, Value.slice (some { block := g2, off := o2 }) (endsL xs ps.length).length ec), (4, Value.bool false), (0, Value.slice a ps.length c)]) [ro sa (List.map valOf' ps2), bag (List.map rowOf ps2), row 3 1 (some { block := g2, off := o2 }) (endsL xs ps.length).length ec (ints (endsL xs ps.length)), ro a (List.map valOf' ps), bag (List.map roOf ps)] [(0 : Int) ≤ (↑k : Int) ∧ (↑k : Int) < (↑(endsL xs ps.length).length : Int)] (by kernel_rfl) (by kernel_rfl) ⟨by omega, trivial⟩ ?_
            refine wpr_eq (ld (t := 3) (a := ({ block := g2, off := o2 + k * 1 })) (dst := some 65) (by kernel_rfl) false 1 (by kernel_rfl) (by simp) [.int .i64 ((cat (xs.take (k + 1))).length : Int)] rfl (fun w h => ld_row h 2 rfl (k * 1) ((ints_at hkl).trans (by rw [hat])))) ?_
            refine wpr_run (l₂ := []) true [9, 10, 11] [] ([(68, Value.bool (decide ((↑(cat (List.take (k + 1) xs)).length : Int) ≤ (↑m : Int)))), (13, Value.int IntKind.i64 (↑k : Int)), (12, Value.int IntKind.i64 (↑(cat (List.take k xs)).length : Int)), (11, Value.slice sa ps2.length sc), (10, Value.int IntKind.i64 (↑m : Int)), (6, Value.slice (some { block := g2, off := o2 }) (endsL xs ps.length).length ec), (4, Value.bool false), (0, Value.slice a ps.length c)]) [ro sa (List.map valOf' ps2), bag (List.map rowOf ps2), row 3 1 (some { block := g2, off := o2 }) (endsL xs ps.length).length ec (ints (endsL xs ps.length)), ro a (List.map valOf' ps), bag (List.map roOf ps)] [] (by kernel_rfl) (by kernel_rfl) trivial ?_
            refine wpr_nil ?_
            refine nx_ent (ent_set 68 (Value.bool (decide ((↑(cat (List.take (k + 1) xs)).length : Int) ≤ (↑m : Int)))) (Value.bool false) (by kernel_rfl) (congrArg _ (decide_eq_false (by omega)))) ?_
            exact nx_ent (ent_fr (by kernel_rfl)) hk2
          · refine wpr_run (l₂ := []) true [5, 6, 7, 8, 9, 10, 11] [] [(68, Value.bool false), (13, Value.int IntKind.i64 (↑k : Int)), (12, Value.int IntKind.i64 (↑(cat (List.take k xs)).length : Int)), (11, Value.slice sa ps2.length sc), (10, Value.int IntKind.i64 (↑m : Int)), (6, Value.slice ea (endsL xs ps.length).length ec), (4, Value.bool false), (0, Value.slice a ps.length c)] [ro sa (List.map valOf' ps2), bag (List.map rowOf ps2), row 3 1 ea (endsL xs ps.length).length ec (ints (endsL xs ps.length)), ro a (List.map valOf' ps), bag (List.map roOf ps)] [] (by kernel_rfl) (by kernel_rfl) trivial ?_
            refine wpr_nil ?_
            exact nx_ent (ent_fr (by kernel_rfl)) hk2
        refine nx_then ?_
        refine wpc_false (by kernel_rfl) ?_
        refine wpc_exit ?_
        refine nx_then_exit ?_
        refine nx_then_exit ?_
        refine nx_block_here ?_
        refine nx_then ?_
        refine wpc_seq ?_
        refine wpc_seq ?_
        refine wpc_region [0, 1, 2, 3, 4, 5, 6, 7, 8, 9, 10, 11, 12, 13, 14, 15, 16, 17, 18, 19, 20, 21, 22, 23, 24] (by kernel_rfl) ?_
        refine wpr_run (l₂ := [5, 6, 7, 8, 9, 10, 11, 12, 13, 14, 15, 16, 17, 18, 19, 20, 21, 22, 23, 24]) true [0, 1, 2, 3, 4] [] [(75, Value.bool ((↑ps2.length : Int) != (↑k : Int))), (13, Value.int IntKind.i64 (↑k : Int)), (12, Value.int IntKind.i64 (↑(cat (List.take k xs)).length : Int)), (11, Value.slice sa ps2.length sc), (6, Value.slice ea (endsL xs ps.length).length ec), (4, Value.bool false), (0, Value.slice a ps.length c)] [ro sa (List.map valOf' ps2), bag (List.map rowOf ps2), row 3 1 ea (endsL xs ps.length).length ec (ints (endsL xs ps.length)), ro a (List.map valOf' ps), bag (List.map roOf ps)] [] (by kernel_rfl) (by kernel_rfl) trivial ?_
        refine wpr_ent (ent_set 75 (Value.bool ((↑ps2.length : Int) != (↑k : Int))) (Value.bool false) (by kernel_rfl) (congrArg _ (by simp only [bne_eq_false_iff_eq, beq_eq_false_iff_ne, ne_eq]; omega))) ?_
        refine wpr_run (l₂ := [8, 9, 10, 11, 12, 13, 14, 15, 16, 17, 18, 19, 20, 21, 22, 23, 24]) true [5, 6, 7] [] [(78, Value.bool (decide ((↑k : Int) > 0))), (75, Value.bool false), (13, Value.int IntKind.i64 (↑k : Int)), (12, Value.int IntKind.i64 (↑(cat (List.take k xs)).length : Int)), (11, Value.slice sa ps2.length sc), (6, Value.slice ea (endsL xs ps.length).length ec), (4, Value.bool false), (0, Value.slice a ps.length c)] [ro sa (List.map valOf' ps2), bag (List.map rowOf ps2), row 3 1 ea (endsL xs ps.length).length ec (ints (endsL xs ps.length)), ro a (List.map valOf' ps), bag (List.map roOf ps)] [] (by kernel_rfl) (by kernel_rfl) trivial ?_
        refine wpr_join ⟨[(95, Value.bool false), (13, (Value.int IntKind.i64 (↑k : Int))), (11, (Value.slice sa ps2.length sc)), (4, (Value.bool false)), (0, (Value.slice a ps.length c))], [ro sa (List.map valOf' ps2), bag (List.map rowOf ps2), row 3 1 ea (endsL xs ps.length).length ec (ints (endsL xs ps.length)), ro a (List.map valOf' ps), bag (List.map roOf ps)]⟩ (fun Q1 hQ1 hk3 => ?_) ?_
        · by_cases hk0 : k = 0
          · subst hk0
            have hc0 : (cat (xs.take 0)).length = 0 := rfl
            refine wpr_run (l₂ := []) true [8, 9, 10, 11, 12, 13, 14, 15, 16, 17, 18, 19, 20, 21, 22, 23, 24] [] [(95, Value.bool false), (13, Value.int IntKind.i64 0), (11, Value.slice sa ps2.length sc), (4, Value.bool false), (0, Value.slice a ps.length c)] [ro sa (List.map valOf' ps2), bag (List.map rowOf ps2), row 3 1 ea (endsL xs ps.length).length ec (ints (endsL xs ps.length)), ro a (List.map valOf' ps), bag (List.map roOf ps)] [] (by kernel_rfl) (by kernel_rfl) trivial ?_
            refine wpr_nil ?_
            exact nx_ent (ent_fr (by kernel_rfl)) hk3
          · have hkl : k - 1 < (endsL xs ps.length).length := by omega
            refine wpr_fact (fun w h => row_addr h 2 rfl (by omega)) ?_
            rintro ⟨g2, o2, rfl⟩
            refine wpr_ent (ent_set 78 (Value.bool (decide ((↑k : Int) > 0))) (Value.bool true) (by kernel_rfl) (congrArg _ (decide_eq_true (by omega)))) ?_
            refine wpr_run (l₂ := [13, 14, 15, 16, 17, 18, 19, 20, 21, 22, 23, 24]) true [8, 9, 10, 11, 12] [] ([(83, Value.pointer (some { block := g2, off := o2 + ((↑k : Int) - 1).toNat * 1 })), (79, Value.int IntKind.i64 (↑(cat (List.take k xs)).length : Int)), (78, Value.bool true), (75, Value.bool false), (13, Value.int IntKind.i64 (↑k : Int)), (12, Value.int IntKind.i64 (↑(cat (List.take k xs)).length : Int)), (11, Value.slice sa ps2.length sc), (4, Value.bool false), (0, Value.slice a ps.length c)]) [ro sa (List.map valOf' ps2), bag (List.map rowOf ps2), row 3 1 (some { block := g2, off := o2 }) (endsL xs ps.length).length ec (ints (endsL xs ps.length)), ro a (List.map valOf' ps), bag (List.map roOf ps)] [inI64 ((↑k : Int) - (1 : Int)), (0 : Int) ≤ (↑k : Int) - (1 : Int) ∧ (↑k : Int) - (1 : Int) < (↑(endsL xs ps.length).length : Int)] (by kernel_rfl) (by kernel_rfl) ⟨by unfold inI64; omega, by omega, trivial⟩ ?_
            rw [show ((k : Int) - 1).toNat = k - 1 by omega]
            refine wpr_eq (ld (t := 3) (a := ({ block := g2, off := o2 + (k - 1) * 1 })) (dst := some 84) (by kernel_rfl) false 1 (by kernel_rfl) (by simp) [.int .i64 ((cat (xs.take (k - 1 + 1))).length : Int)] rfl (fun w h => ld_row h 2 rfl ((k - 1) * 1) ((ints_at hkl).trans (by rw [hat])))) ?_
            rw [show k - 1 + 1 = k by omega]
            refine wpr_run (l₂ := [18, 19, 20, 21, 22, 23, 24]) true [14, 15, 16, 17] [] [(88, Value.bool ((↑(cat (List.take k xs)).length : Int) != (↑(cat (List.take k xs)).length : Int))), (13, Value.int IntKind.i64 (↑k : Int)), (12, Value.int IntKind.i64 (↑(cat (List.take k xs)).length : Int)), (11, Value.slice sa ps2.length sc), (4, Value.bool false), (0, Value.slice a ps.length c)] [ro sa (List.map valOf' ps2), bag (List.map rowOf ps2), row 3 1 (some { block := g2, off := o2 }) (endsL xs ps.length).length ec (ints (endsL xs ps.length)), ro a (List.map valOf' ps), bag (List.map roOf ps)] [] (by kernel_rfl) (by kernel_rfl) trivial ?_
            refine wpr_ent (ent_set 88 (Value.bool ((↑(cat (List.take k xs)).length : Int) != (↑(cat (List.take k xs)).length : Int))) (Value.bool false) (by kernel_rfl) (congrArg _ (by simp))) ?_
            refine wpr_run (l₂ := [21, 22, 23, 24]) true [18, 19, 20] [] [(91, Value.bool ((↑k : Int) == 0)), (88, Value.bool false), (13, Value.int IntKind.i64 (↑k : Int)), (12, Value.int IntKind.i64 (↑(cat (List.take k xs)).length : Int)), (11, Value.slice sa ps2.length sc), (4, Value.bool false), (0, Value.slice a ps.length c)] [ro sa (List.map valOf' ps2), bag (List.map rowOf ps2), row 3 1 (some { block := g2, off := o2 }) (endsL xs ps.length).length ec (ints (endsL xs ps.length)), ro a (List.map valOf' ps), bag (List.map roOf ps)] [] (by kernel_rfl) (by kernel_rfl) trivial ?_
            refine wpr_ent (ent_set 91 (Value.bool ((↑k : Int) == 0)) (Value.bool false) (by kernel_rfl) (congrArg _ (by simp only [bne_eq_false_iff_eq, beq_eq_false_iff_ne, ne_eq]; omega))) ?_
            refine wpr_run (l₂ := []) true [21, 22, 23, 24] [] [(95, Value.bool false), (13, Value.int IntKind.i64 (↑k : Int)), (11, Value.slice sa ps2.length sc), (4, Value.bool false), (0, Value.slice a ps.length c)] [ro sa (List.map valOf' ps2), bag (List.map rowOf ps2), row 3 1 (some { block := g2, off := o2 }) (endsL xs ps.length).length ec (ints (endsL xs ps.length)), ro a (List.map valOf' ps), bag (List.map roOf ps)] [] (by kernel_rfl) (by kernel_rfl) trivial ?_
            refine wpr_nil ?_
            exact nx_ent (ent_fr (by kernel_rfl)) hk3
        refine nx_then ?_
        refine wpc_false (by kernel_rfl) ?_
        refine wpc_skip ?_
        refine nx_then ?_
        refine wpc_seq ?_
        refine wpc_seq ?_
        refine wpc_region [0] (by kernel_rfl) ?_
        refine wpr_run (l₂ := []) true [0] [] [(14, Value.int IntKind.i64 0), (13, Value.int IntKind.i64 (↑k : Int)), (11, Value.slice sa ps2.length sc), (4, Value.bool false), (0, Value.slice a ps.length c)] [ro sa (List.map valOf' ps2), bag (List.map rowOf ps2), row 3 1 ea (endsL xs ps.length).length ec (ints (endsL xs ps.length)), ro a (List.map valOf' ps), bag (List.map roOf ps)] [] (by kernel_rfl) (by kernel_rfl) trivial ?_
        refine wpr_nil ?_
        refine nx_then ?_
        refine wpc_block ?_
        refine wpc_loop (X := {i : Nat // i ≤ k}) (fun x => St.mk [(14, .int .i64 (x.1 : Int)), (13, .int .i64 (k : Int)), (11, .slice sa ps2.length sc), (4, .bool false), (0, .slice a ps.length c)]
          [ro sa (ps2.map valOf'), bag (ps2.map rowOf), ro a (ps.map valOf'), bag (ps.map roOf)]) (fun x => k - x.1) ⟨0, Nat.zero_le _⟩ (Ent.trans (ent_hp [0, 0, 1, 1] rfl) (ent_fr (by kernel_rfl))) ?_
        rintro ⟨i, hi2⟩
        dsimp only at hi2 ⊢
        refine wpc_seq ?_
        refine wpc_seq ?_
        refine wpc_region [0, 1, 2] (by kernel_rfl) ?_
        refine wpr_run (l₂ := []) true [0, 1, 2] [] [(98, Value.bool (decide ((↑i : Int) < (↑k : Int)))), (14, Value.int IntKind.i64 (↑i : Int)), (13, Value.int IntKind.i64 (↑k : Int)), (11, Value.slice sa ps2.length sc), (4, Value.bool false), (0, Value.slice a ps.length c)] [ro sa (List.map valOf' ps2), bag (List.map rowOf ps2), ro a (List.map valOf' ps), bag (List.map roOf ps)] [] (by kernel_rfl) (by kernel_rfl) trivial ?_
        refine wpr_nil ?_
        refine nx_then ?_
        refine wpc_if (((↑i : Int) < (↑k : Int))) (by kernel_rfl) (fun hlt2 => ?_) (fun hlt2 => ?_)
        · have hi3 : i < ps2.length := by omega
          have hi4 : i < ps.length := by omega
          refine wpc_fact (fun w h => ro_addr h 0 rfl (by rw [List.length_map]; omega)) ?_
          rintro ⟨g3, o3, rfl⟩
          refine wpc_fact (fun w h => ro_addr h 2 rfl (by rw [List.length_map]; omega)) ?_
          rintro ⟨g4, o4, rfl⟩
          refine wpc_ent (ent_copy 1 (ro (ps2[i]).1 (u8s (ps2[i]).2.2)) rfl (fun h => h) (view_in (List.mem_map.2 ⟨ps2[i], List.getElem_mem hi3, rfl⟩) view_row)) ?_
          refine wpc_ent (ent_copy 4 (ro (ps[i]).1 (u8s (ps[i]).2.2)) rfl (fun h => h) (view_in (List.mem_map.2 ⟨ps[i], List.getElem_mem hi4, rfl⟩) view_ro)) ?_
          have heq : (ps2[i]).2.2 = (ps[i]).2.2 := by
            have h := congrArg (fun l => l[i]?) hps2
            simp [hxs, hi3, hi4, show i < k by omega] at h
            exact h
          refine wpc_skip ?_
          refine nx_then ?_
          refine wpc_seq ?_
          refine wpc_block ?_
          refine wpc_seq ?_
          refine wpc_draw (by kernel_rfl) [ro ps[i].fst (u8s ps[i].snd.snd), ro ps2[i].fst (u8s ps2[i].snd.snd), ro (some { block := g3, off := o3 }) (List.map valOf' ps2), ro (some { block := g4, off := o4 }) (List.map valOf' ps)] (sub_of [0, 1, 2, 4] (by kernel_rfl)) 11 (by kernel_rfl) ?_
          refine wpa_take true [(0, []), (1, []), (2, []), (5, []), (6, []), (7, [])] ([(108, Value.pointer (some { block := g4, off := o4 + i * 1 })), (103, Value.pointer (some { block := g3, off := o3 + i * 1 })), (14, Value.int IntKind.i64 (↑i : Int)), (13, Value.int IntKind.i64 (↑k : Int)), (11, Value.slice (some { block := g3, off := o3 }) ps2.length sc), (4, Value.bool false), (0, Value.slice (some { block := g4, off := o4 }) ps.length c)]) (#[true, true, true, false, false, true, true, true, false, false, false]) [(0 : Int) ≤ (↑i : Int) ∧ (↑i : Int) < (↑ps2.length : Int), (0 : Int) ≤ (↑i : Int) ∧ (↑i : Int) < (↑ps.length : Int)] (n := 5) (by kernel_rfl) (by kernel_rfl) (by kernel_rfl) ⟨by omega, by omega, trivial⟩ ?_
          refine wpa_qld (i := 3) (n := 4) (by kernel_rfl) (by kernel_rfl) (by kernel_rfl) (t := 22) (a := ({ block := g3, off := o3 + i * 1 })) (dst := some 104) (by kernel_rfl) false 1 (by kernel_rfl) (by simp) [Value.slice (ps2[i]).1 (ps2[i]).2.2.length (ps2[i]).2.1] rfl (fun w h => ld_roL h 2 rfl (i * 1) (map_at valOf' hi3)) ?_
          refine wpa_qb2s (i := 4) (n := 3) (by kernel_rfl) (by kernel_rfl) (by kernel_rfl) (a := 22) (b := 9) (ad := (ps2[i].1)) (m := (ps2[i].snd.snd.length)) (c := (ps2[i].snd.fst)) (dst := some 105) (by kernel_rfl) (by kernel_rfl) ((ps2[i]).2.2) (by first | rfl | simp) (fun w h => b2s_roL h 1 rfl) ?_
          refine wpa_qld (i := 8) (n := 2) (by kernel_rfl) (by kernel_rfl) (by kernel_rfl) (t := 22) (a := ({ block := g4, off := o4 + i * 1 })) (dst := some 109) (by kernel_rfl) false 1 (by kernel_rfl) (by simp) [Value.slice (ps[i]).1 (ps[i]).2.2.length (ps[i]).2.1] rfl (fun w h => ld_roL h 3 rfl (i * 1) (map_at valOf' hi4)) ?_
          refine wpa_qb2s (i := 9) (n := 1) (by kernel_rfl) (by kernel_rfl) (by kernel_rfl) (a := 22) (b := 9) (ad := (ps[i].1)) (m := (ps[i].snd.snd.length)) (c := (ps[i].snd.fst)) (dst := some 110) (by kernel_rfl) (by kernel_rfl) ((ps[i]).2.2) (by first | rfl | simp) (fun w h => b2s_roL h 0 rfl) ?_
          rw [heq]
          refine wpa_take true [(10, [])] [(111, Value.bool !decide (ps[i].snd.snd = ps[i].snd.snd)), (14, Value.int IntKind.i64 (↑i : Int)), (13, Value.int IntKind.i64 (↑k : Int)), (11, Value.slice (some { block := g3, off := o3 }) ps2.length sc), (4, Value.bool false), (0, Value.slice (some { block := g4, off := o4 }) ps.length c)] (#[true, true, true, true, true, true, true, true, true, true, true]) [] (n := 0) (by kernel_rfl) (by kernel_rfl) (by kernel_rfl) trivial ?_
          refine wpa_done 0 (by kernel_rfl) ?_
          refine nx_then ?_
          refine wpc_ent (ent_set 111 (Value.bool (!decide (ps[i].snd.snd = ps[i].snd.snd))) (Value.bool false) (by kernel_rfl) (congrArg _ (by simp))) ?_
          refine wpc_false (by kernel_rfl) ?_
          refine wpc_skip ?_
          refine nx_block ?_
          refine nx_then ?_
          refine wpc_region [0, 1, 2] (by kernel_rfl) ?_
          refine wpr_run (l₂ := []) true [0, 1, 2] [] ([(14, Value.int IntKind.i64 ((↑i : Int) + 1)), (13, Value.int IntKind.i64 (↑k : Int)), (11, Value.slice (some { block := g3, off := o3 }) ps2.length sc), (4, Value.bool false), (0, Value.slice (some { block := g4, off := o4 }) ps.length c)]) [ro ps[i].fst (u8s ps[i].snd.snd), ro ps2[i].fst (u8s ps[i].snd.snd), ro (some { block := g3, off := o3 }) (List.map valOf' ps2), bag (List.map rowOf ps2), ro (some { block := g4, off := o4 }) (List.map valOf' ps), bag (List.map roOf ps)] ([inI64 ((↑i : Int) + (1 : Int))]) (by kernel_rfl) (by kernel_rfl) ⟨by unfold inI64; omega, trivial⟩ ?_
          refine wpr_nil ?_
          exact fun a' w' hS' => ⟨⟨i + 1, by omega⟩, by dsimp only; omega, ent_fr (by kernel_rfl) _ _ (ent_hp [2, 2, 2, 2] rfl _ _ hS')⟩
        · refine wpc_exit ?_
          refine nx_then_exit ?_
          refine nx_then_exit ?_
          refine nx_block_here ?_
          refine nx_then ?_
          refine wpc_seq ?_
          refine wpc_region [0, 1] (by kernel_rfl) ?_
          refine wpr_call (dst := some 112) (rest := [ro sa (List.map valOf' ps2), bag (List.map rowOf ps2), ro a (List.map valOf' ps), bag (List.map roOf ps)]) (by kernel_rfl) (lives_spec) (give [] (by kernel_rfl)) ?_
          rintro v _ ⟨rfl, rfl⟩
          refine wpr_run (l₂ := []) true [1] [] [(4, Value.bool true)] [ro sa (List.map valOf' ps2), bag (List.map rowOf ps2), ro a (List.map valOf' ps), bag (List.map roOf ps)] [] (by kernel_rfl) (by kernel_rfl) trivial ?_
          refine wpr_nil ?_
          refine nx_then ?_
          refine wpc_ret ?_
          refine nx_end (hp' := []) (rest := [ro sa (List.map valOf' ps2), bag (List.map rowOf ps2), ro a (List.map valOf' ps), bag (List.map roOf ps)]) [] ((Value.bool true)) (by kernel_rfl) (by kernel_rfl) (give [] (by kernel_rfl)) (by first | ((repeat (first | exact trivial | refine ⟨trivial, ?_⟩)); done) | assumption) ?_ (.inr rfl)
          exact ⟨rfl, rfl⟩
end Go.Proofs.Ytmjhcadciblcdaa
