import Derived.Test.YtgkcodkeikaeeaaD18
import Derived.Test.YtgkcodkeikaeeaaX13
namespace Go.Proofs.Ytgkcodkeikaeeaa
open Go Go.Sx
set_option linter.unusedVariables false
set_option linter.unusedSimpArgs false

/-- The ends of the first i numbers. -/
def endsTo (l : List Int) (i : Nat) : List Int := (List.range i).map (fun j => ((endAt l (j + 1) : Nat) : Int))
theorem endsTo_succ (l : List Int) (i : Nat) : endsTo l (i + 1) = endsTo l i ++ [((endAt l (i + 1) : Nat) : Int)] := by simp [endsTo, List.range_succ]
theorem endsTo_len (l : List Int) (i : Nat) : (endsTo l i).length = i := by simp [endsTo]
theorem endsTo_at (l : List Int) {i j : Nat} (h : j < i) : (endsTo l i)[j]'(by rw [endsTo_len]; exact h) = ((endAt l (j + 1) : Nat) : Int) := by simp [endsTo]

theorem view_u8 {a : Option Addr} (l : List UInt8) (k : Nat) : View (ro a (u8s l)) (ro a (u8s (l.take k))) := by
  have h := view_front (a := a) (xs := u8s l) k
  have e : (u8s l).take k = u8s (l.take k) := by simp [u8s, List.map_take]
  rwa [e] at h
theorem ro_none {hp : Hp} {w : World} (h : HS hp w) (i : Nat) {a : Option Addr} {l : List UInt8} (hi : hp[i]? = some (ro a (u8s l))) : a = none → l = [] := (b2s_ro h i hi).1

structure RW1 (n : Nat) where
  i : Nat
  a : Option Addr
  c : Nat
  a2 : Option Addr
  c2 : Nat
  hi : i ≤ n

set_option maxHeartbeats 4000000 in
theorem WireRow_spec (al : Option Addr) (cl : Nat) (l : List Int) (n : Int) (ha : al = none → l = []) (hl : l.length ≤ 140737488351232) (hw : ∀ z ∈ l, -9223372036854775808 ≤ z ∧ z ≤ 9223372036854775807) :
    Does Try.prog 5 [.slice al l.length cl, .int .i64 n] [ro al (ints l)] (fun v hp' => v = .bool true ∧ hp' = []) := by
  refine fn_enter Try.func5 rfl 102 rfl fun w0 h0 => ?_
  refine wpc_seq ?_
  refine wpc_region [0] (by kernel_rfl) ?_
  refine wpr_run (l₂ := []) true [0] [] [(4, Value.bool false), (0, Value.slice al l.length cl), (1, Value.int IntKind.i64 n)] [ro al (ints l)] [] (by kernel_rfl) (by kernel_rfl) trivial ?_
  refine wpr_nil ?_
  refine nx_then ?_
  refine wpc_seq ?_
  refine wpc_seq ?_
  refine wpc_region [0, 1, 2] (by kernel_rfl) ?_
  refine wpr_run (l₂ := []) true [0, 1, 2] [] [(14, Value.bool (decide ((↑l.length : Int) > 500))), (4, Value.bool false), (0, Value.slice al l.length cl), (1, Value.int IntKind.i64 n)] [ro al (ints l)] [] (by kernel_rfl) (by kernel_rfl) trivial ?_
  refine wpr_nil ?_
  refine nx_then ?_
  refine wpc_if (((↑l.length : Int) > 500)) (by kernel_rfl) (fun hbig => ?_) (fun hbig => ?_)
  · refine wpc_seq ?_
    refine wpc_region [0, 1] (by kernel_rfl) ?_
    refine wpr_call (dst := some 15) (rest := [ro al (ints l)]) (by kernel_rfl) (lives_spec) (give [] (by kernel_rfl)) ?_
    rintro v hp' ⟨rfl, rfl⟩
    refine wpr_run (l₂ := []) true [1] [] [(4, Value.bool true), (0, Value.slice al l.length cl), (1, Value.int IntKind.i64 n)] [ro al (ints l)] [] (by kernel_rfl) (by kernel_rfl) trivial ?_
    refine wpr_nil ?_
    refine nx_then ?_
    refine wpc_ret ?_
    refine nx_then_ret ?_
    refine nx_end (hp' := []) (rest := [ro al (ints l)]) [] ((Value.bool true)) (by kernel_rfl) (by kernel_rfl) (give [] (by kernel_rfl)) (by first | ((repeat (first | exact trivial | refine ⟨trivial, ?_⟩)); done) | assumption) ?_ (.inr rfl)
    exact ⟨rfl, rfl⟩
  have hle := encAll_le hw
  have hend : ∀ i, endAt l i ≤ 5000 := fun i => by have := endAt_le l i; omega
  refine wpc_skip ?_
  refine nx_then ?_
  refine wpc_seq ?_
  refine wpc_region [0] (by kernel_rfl) ?_
  refine wpr_run (l₂ := []) true [0] [] [(5, Value.slice none 0 0), (4, Value.bool false), (0, Value.slice al l.length cl), (1, Value.int IntKind.i64 n)] [ro al (ints l)] [] (by kernel_rfl) (by kernel_rfl) trivial ?_
  refine wpr_nil ?_
  refine nx_then ?_
  refine wpc_seq ?_
  refine wpc_region [0] (by kernel_rfl) ?_
  refine wpr_run (l₂ := []) true [0] [] [(6, Value.slice none 0 0), (5, Value.slice none 0 0), (4, Value.bool false), (0, Value.slice al l.length cl), (1, Value.int IntKind.i64 n)] [ro al (ints l)] [] (by kernel_rfl) (by kernel_rfl) trivial ?_
  refine wpr_nil ?_
  refine nx_then ?_
  refine wpc_seq ?_
  refine wpc_seq ?_
  refine wpc_region [0] (by kernel_rfl) ?_
  refine wpr_run (l₂ := []) true [0] [] [(7, Value.int IntKind.i64 0), (6, Value.slice none 0 0), (5, Value.slice none 0 0), (4, Value.bool false), (0, Value.slice al l.length cl), (1, Value.int IntKind.i64 n)] [ro al (ints l)] [] (by kernel_rfl) (by kernel_rfl) trivial ?_
  refine wpr_nil ?_
  refine nx_then ?_
  refine wpc_block ?_
  refine wpc_ent (ent_nil 5 1) ?_
  refine wpc_ent (ent_nil 3 1) ?_
  refine wpc_loop (X := RW1 l.length) (fun x => St.mk [(7, .int .i64 (x.i : Int)), (6, .slice x.a2 x.i x.c2), (5, .slice x.a (encAll (l.take x.i)).length x.c), (4, .bool false), (0, .slice al l.length cl), (1, .int .i64 n)]
    [ro al (ints l), row 5 1 x.a (encAll (l.take x.i)).length x.c (u8s (encAll (l.take x.i))), row 3 1 x.a2 x.i x.c2 (ints (endsTo l x.i))]) (fun x => l.length - x.i) ⟨0, none, 0, none, 0, Nat.zero_le _⟩ ?_ ?_
  · exact fun a w hS => ent_fr (by kernel_rfl) _ _ (ent_hp [2, 1, 0] rfl _ _ hS)
  rintro ⟨i, a1, c1, a2, c2, hi⟩
  dsimp only at hi ⊢
  have hei := hend i
  unfold endAt at hei
  refine wpc_seq ?_
  refine wpc_seq ?_
  refine wpc_region [0, 1, 2, 3] (by kernel_rfl) ?_
  refine wpr_run (l₂ := []) true [0, 1, 2, 3] [] [(19, Value.bool (decide ((↑i : Int) < (↑l.length : Int)))), (7, Value.int IntKind.i64 (↑i : Int)), (6, Value.slice a2 i c2), (5, Value.slice a1 (encAll (List.take i l)).length c1), (4, Value.bool false), (0, Value.slice al l.length cl), (1, Value.int IntKind.i64 n)] [ro al (ints l), row 5 1 a1 (encAll (List.take i l)).length c1 (u8s (encAll (List.take i l))), row 3 1 a2 i c2 (ints (endsTo l i))] [] (by kernel_rfl) (by kernel_rfl) trivial ?_
  refine wpr_nil ?_
  refine nx_then ?_
  refine wpc_if (((↑i : Int) < (↑l.length : Int))) (by kernel_rfl) (fun hlt => ?_) (fun hlt => ?_)
  · have hil : i < l.length := by omega
    have hwi := hw l[i] (List.getElem_mem hil)
    refine wpc_fact (fun w h => ro_addr h 0 rfl (by rw [ints_len]; omega)) ?_
    rintro ⟨w1, o1, rfl⟩
    refine wpc_skip ?_
    refine nx_then ?_
    refine wpc_seq ?_
    refine wpc_block ?_
    refine wpc_seq ?_
    refine wpc_region [0, 1, 2, 3, 4, 5, 6] (by kernel_rfl) ?_
    refine wpr_run (l₂ := [4, 5, 6]) true [0, 1, 2, 3] [] ([(25, Value.pointer (some { block := w1, off := o1 + i * 1 })), (22, Value.slice a1 (encAll (List.take i l)).length c1), (7, Value.int IntKind.i64 (↑i : Int)), (6, Value.slice a2 i c2), (5, Value.slice a1 (encAll (List.take i l)).length c1), (4, Value.bool false), (0, Value.slice (some { block := w1, off := o1 }) l.length cl), (1, Value.int IntKind.i64 n)]) [ro (some { block := w1, off := o1 }) (ints l), row 5 1 a1 (encAll (List.take i l)).length c1 (u8s (encAll (List.take i l))), row 3 1 a2 i c2 (ints (endsTo l i))] [(0 : Int) ≤ (↑i : Int) ∧ (↑i : Int) < (↑l.length : Int)] (by kernel_rfl) (by kernel_rfl) ⟨by omega, trivial⟩ ?_
    refine wpr_eq (ld (t := 3) (a := ({ block := w1, off := o1 + i * 1 })) (dst := some 26) (by kernel_rfl) false 1 (by kernel_rfl) (by simp) [.int .i64 l[i]] rfl (fun w h => ld_ro h 0 rfl (i * 1) (ints_at hil))) ?_
    refine wpr_call (dst := some 27) (rest := [ro (some { block := w1, off := o1 }) (ints l), row 3 1 a2 i c2 (ints (endsTo l i))]) (by kernel_rfl) (PutInt_spec a1 c1 (encAll (l.take i)) l[i] hwi.1 hwi.2 (by omega)) (give [1] (by kernel_rfl)) ?_
    rintro v hp' ⟨a3, c3, rfl, rfl⟩
    rw [← encAll_snoc hil]
    refine wpr_run (l₂ := []) true [6] [] ([(5, Value.slice a3 (encAll (List.take (i + 1) l)).length c3), (7, Value.int IntKind.i64 (↑i : Int)), (6, Value.slice a2 i c2), (4, Value.bool false), (0, Value.slice (some { block := w1, off := o1 }) l.length cl), (1, Value.int IntKind.i64 n)]) ([row 5 1 a3 (encAll (List.take (i + 1) l)).length c3 (u8s (encAll (List.take (i + 1) l))), ro (some { block := w1, off := o1 }) (ints l), row 3 1 a2 i c2 (ints (endsTo l i))]) [] (by kernel_rfl) (by kernel_rfl) trivial ?_
    refine wpr_nil ?_
    refine nx_then ?_
    refine wpc_region [0, 1, 2, 3, 4, 5] (by kernel_rfl) ?_
    refine wpr_new (l₂ := [4, 5]) true [0, 1, 2, 3] [] (fun g1 => ([(31, Value.slice (some { block := g1, off := 0 }) 1 1), (28, Value.slice a2 i c2), (5, Value.slice a3 (encAll (List.take (i + 1) l)).length c3), (7, Value.int IntKind.i64 (↑i : Int)), (6, Value.slice a2 i c2), (4, Value.bool false), (0, Value.slice (some { block := w1, off := o1 }) l.length cl), (1, Value.int IntKind.i64 n)])) (fun g1 => ([row 5 1 a3 (encAll (List.take (i + 1) l)).length c3 (u8s (encAll (List.take (i + 1) l))), ro (some { block := w1, off := o1 }) (ints l), row 3 1 a2 i c2 (ints (endsTo l i)), Ch.blk g1 3 [Value.int IntKind.i64 (↑(encAll (List.take (i + 1) l)).length : Int)]])) (fun g1 => []) (fun g1 => by kernel_rfl) (fun g1 => by kernel_rfl) (fun g1 => trivial) fun g1 => ?_
    refine wpr_ent (ent_turn 3 (ro (some ⟨g1, 0, none⟩) (ints [((endAt l (i + 1) : Nat) : Int)])) rfl (turn_rints [((endAt l (i + 1) : Nat) : Int)] rfl) rfl) ?_
    refine wpr_app (a := a2) (n := i) (cap := c2) (x := (Value.slice (some { block := g1, off := 0 }) 1 1)) (t := 37) (xt := 37) (dst := some 32) (by kernel_rfl) (e := 3) (sz := 1) (bytes := 8) (by kernel_rfl) 2 (xs := (ints (endsTo l i))) (by kernel_rfl) (m := 1) (news := (ints [((endAt l (i + 1) : Nat) : Int)])) (fun w h => src_ro h 3 rfl rfl (fun e => by cases e)) (by unfold maxLen; omega) (by omega) ?_
    intro a4 c4 hn
    rw [ints_append, ← endsTo_succ]
    refine wpr_run (l₂ := []) true [5] [] ([(6, Value.slice a4 (i + 1) c4), (5, Value.slice a3 (encAll (List.take (i + 1) l)).length c3), (7, Value.int IntKind.i64 (↑i : Int)), (4, Value.bool false), (0, Value.slice (some { block := w1, off := o1 }) l.length cl), (1, Value.int IntKind.i64 n)]) ([row 5 1 a3 (encAll (List.take (i + 1) l)).length c3 (u8s (encAll (List.take (i + 1) l))), ro (some { block := w1, off := o1 }) (ints l), row 3 1 a4 (i + 1) c4 (ints (endsTo l (i + 1))), ro (some { block := g1, off := 0 }) (ints [(↑(endAt l (i + 1)) : Int)])]) [] (by kernel_rfl) (by kernel_rfl) trivial ?_
    refine wpr_nil ?_
    refine nx_block ?_
    refine nx_then ?_
    refine wpc_region [0, 1, 2] (by kernel_rfl) ?_
    refine wpr_run (l₂ := []) true [0, 1, 2] [] ([(7, Value.int IntKind.i64 ((↑i : Int) + 1)), (6, Value.slice a4 (i + 1) c4), (5, Value.slice a3 (encAll (List.take (i + 1) l)).length c3), (4, Value.bool false), (0, Value.slice (some { block := w1, off := o1 }) l.length cl), (1, Value.int IntKind.i64 n)]) ([row 5 1 a3 (encAll (List.take (i + 1) l)).length c3 (u8s (encAll (List.take (i + 1) l))), ro (some { block := w1, off := o1 }) (ints l), row 3 1 a4 (i + 1) c4 (ints (endsTo l (i + 1))), ro (some { block := g1, off := 0 }) (ints [(↑(endAt l (i + 1)) : Int)])]) ([inI64 ((↑i : Int) + (1 : Int))]) (by kernel_rfl) (by kernel_rfl) ⟨by unfold inI64; omega, trivial⟩ ?_
    refine wpr_nil ?_
    exact fun a' w' hS' => ⟨⟨i + 1, a3, c3, a4, c4, by omega⟩, by dsimp only; omega, ent_fr (by kernel_rfl) _ _ (ent_hp [1, 0, 0] rfl _ _ hS')⟩
  have hil : i = l.length := by omega
  subst hil
  rw [List.take_length]
  refine wpc_fact (fun w h => row_cap h 1 rfl) fun hcap => ?_
  have hcap2 := hcap.2.1
  have hU : IntKind.u64.wrap (((encAll l).length : Int) + 1) = ((encAll l).length : Int) + 1 := by rw [u64_wrap]; omega
  obtain ⟨cut, hcl, hcut⟩ : ∃ cut : Nat, cut ≤ (encAll l).length ∧ IntKind.i64.wrap ((IntKind.u64.wrap n).tmod (IntKind.u64.wrap (((encAll l).length : Int) + 1))) = (cut : Int) := by
    rw [hU]
    have h0 : 0 ≤ IntKind.u64.wrap n := by rw [u64_wrap]; omega
    rw [Int.tmod_eq_emod_of_nonneg h0]
    have h1 := Int.emod_nonneg (IntKind.u64.wrap n) (show ((encAll l).length : Int) + 1 ≠ 0 by omega)
    have h2 := Int.emod_lt_of_pos (IntKind.u64.wrap n) (show 0 < ((encAll l).length : Int) + 1 by omega)
    refine ⟨(IntKind.u64.wrap n % (((encAll l).length : Int) + 1)).toNat, by omega, ?_⟩
    rw [i64_wrap]
    split <;> omega
  refine wpc_exit ?_
  refine nx_then_exit ?_
  refine nx_then_exit ?_
  refine nx_block_here ?_
  refine nx_then ?_
  refine wpc_seq ?_
  refine wpc_region [0, 1, 2, 3, 4, 5, 6, 7, 8] (by kernel_rfl) ?_
  refine wpr_run (l₂ := []) true [0, 1, 2, 3, 4, 5, 6, 7, 8] [] ([(8, Value.int IntKind.i64 (IntKind.i64.wrap ((IntKind.u64.wrap n).tmod (IntKind.u64.wrap ((↑(encAll l).length : Int) + 1))))), (6, Value.slice a2 l.length c2), (5, Value.slice a1 (encAll l).length c1), (4, Value.bool false), (0, Value.slice al l.length cl)]) [ro al (ints l), row 5 1 a1 (encAll l).length c1 (u8s (encAll l)), row 3 1 a2 l.length c2 (ints (endsTo l l.length))] ([inI64 ((↑(encAll l).length : Int) + (1 : Int)), IntKind.u64.wrap ((↑(encAll l).length : Int) + (1 : Int)) ≠ (0 : Int)]) (by kernel_rfl) (by kernel_rfl) ⟨by unfold inI64; omega, by omega, trivial⟩ ?_
  refine wpr_nil ?_
  refine nx_then ?_
  refine wpc_seq ?_
  refine wpc_region [0, 1, 2, 3, 4] (by kernel_rfl) ?_
  refine wpr_run (l₂ := [3, 4]) true [0, 1, 2] [] ([(43, Value.slice a1 (IntKind.i64.wrap ((IntKind.u64.wrap n).tmod (IntKind.u64.wrap ((↑(encAll l).length : Int) + 1)))).toNat c1), (8, Value.int IntKind.i64 (IntKind.i64.wrap ((IntKind.u64.wrap n).tmod (IntKind.u64.wrap ((↑(encAll l).length : Int) + 1))))), (6, Value.slice a2 l.length c2), (4, Value.bool false), (0, Value.slice al l.length cl)]) [ro al (ints l), row 5 1 a1 (encAll l).length c1 (u8s (encAll l)), row 3 1 a2 l.length c2 (ints (endsTo l l.length))] ([(0 : Int) ≤ IntKind.i64.wrap ((IntKind.u64.wrap n).tmod (IntKind.u64.wrap ((↑(encAll l).length : Int) + (1 : Int)))) ∧ IntKind.i64.wrap ((IntKind.u64.wrap n).tmod (IntKind.u64.wrap ((↑(encAll l).length : Int) + (1 : Int)))) ≤ (↑c1 : Int)]) (by kernel_rfl) (by kernel_rfl) ⟨by omega, trivial⟩ ?_
  have hcT : ((encAll l).take cut).length = cut := by rw [List.length_take]; omega
  refine wpr_ent (ent_set 43 (Value.slice a1 (IntKind.i64.wrap ((IntKind.u64.wrap n).tmod (IntKind.u64.wrap ((↑(encAll l).length : Int) + 1)))).toNat c1) (Value.slice a1 ((encAll l).take cut).length c1) (by kernel_rfl) (by rw [hcut, hcT]; rfl)) ?_
  refine wpr_ent (ent_set 8 (Value.int IntKind.i64 (IntKind.i64.wrap ((IntKind.u64.wrap n).tmod (IntKind.u64.wrap ((↑(encAll l).length : Int) + 1))))) (Value.int .i64 (cut : Int)) (by kernel_rfl) (by rw [hcut])) ?_
  refine wpr_ent (ent_turn 1 (ro a1 (u8s ((encAll l).take cut))) rfl (turn_view (view_row.trans (view_u8 (encAll l) cut))) rfl) ?_
  refine wpr_fact (fun w h => ro_none h 1 rfl) fun hro => ?_
  refine wpr_call (dst := some 44) (rest := [ro al (ints l), ro a1 (u8s (List.take cut (encAll l))), row 3 1 a2 l.length c2 (ints (endsTo l l.length))]) (by kernel_rfl) (NewReader_spec a1 c1 ((encAll l).take cut) hro) (Give.view (c := (ro a1 (u8s (List.take cut (encAll l))))) (give (pre := []) (rest := [ro al (ints l), ro a1 (u8s (List.take cut (encAll l))), row 3 1 a2 l.length c2 (ints (endsTo l l.length))]) [] (by kernel_rfl)) 1 (by kernel_rfl) view_ro) ?_
  rintro v hp' ⟨r, rfl, rfl⟩
  refine wpr_run (l₂ := []) true [4] [] [(9, Value.pointer (some { block := r, off := 0 })), (8, Value.int IntKind.i64 (↑cut : Int)), (6, Value.slice a2 l.length c2), (4, Value.bool false), (0, Value.slice al l.length cl)] [Ch.blk r 52 [Value.bool true, Value.string (mkS (List.take cut (encAll l))), Value.int IntKind.i64 0, Value.int IntKind.i64 0], ro al (ints l), ro a1 (u8s (List.take cut (encAll l))), row 3 1 a2 l.length c2 (ints (endsTo l l.length))] [] (by kernel_rfl) (by kernel_rfl) trivial ?_
  refine wpr_nil ?_
  refine nx_then ?_
  refine wpc_seq ?_
  refine wpc_seq ?_
  refine wpc_region [0, 1] (by kernel_rfl) ?_
  refine wpr_run (l₂ := []) true [0, 1] [] [(46, Value.bool false), (9, Value.pointer (some { block := r, off := 0 })), (8, Value.int IntKind.i64 (↑cut : Int)), (6, Value.slice a2 l.length c2), (4, Value.bool false), (0, Value.slice al l.length cl)] [Ch.blk r 52 [Value.bool true, Value.string (mkS (List.take cut (encAll l))), Value.int IntKind.i64 0, Value.int IntKind.i64 0], ro al (ints l), ro a1 (u8s (List.take cut (encAll l))), row 3 1 a2 l.length c2 (ints (endsTo l l.length))] [] (by kernel_rfl) (by kernel_rfl) trivial ?_
  refine wpr_nil ?_
  refine nx_then ?_
  refine wpc_false (by kernel_rfl) ?_
  refine wpc_skip ?_
  refine nx_then ?_
  refine wpc_seq ?_
  refine wpc_seq ?_
  refine wpc_region [0] (by kernel_rfl) ?_
  refine wpr_run (l₂ := []) true [0] [] [(10, Value.int IntKind.i64 0), (9, Value.pointer (some { block := r, off := 0 })), (8, Value.int IntKind.i64 (↑cut : Int)), (6, Value.slice a2 l.length c2), (4, Value.bool false), (0, Value.slice al l.length cl)] [Ch.blk r 52 [Value.bool true, Value.string (mkS (List.take cut (encAll l))), Value.int IntKind.i64 0, Value.int IntKind.i64 0], ro al (ints l), ro a1 (u8s (List.take cut (encAll l))), row 3 1 a2 l.length c2 (ints (endsTo l l.length))] [] (by kernel_rfl) (by kernel_rfl) trivial ?_
  refine wpr_nil ?_
  refine nx_then ?_
  refine wpc_block ?_
  have hSl : ((encAll l).take cut).length = cut := hcT
  refine wpc_ent (ent_turn 3 (ro a2 (ints (endsTo l l.length))) rfl (turn_view view_row) rfl) ?_
  refine wpc_loop (X := {i : Nat // i ≤ l.length ∧ endAt l i ≤ cut}) (fun x => St.mk [(10, .int .i64 (x.1 : Int)), (9, .pointer (some ⟨r, 0, none⟩)), (8, .int .i64 (cut : Int)), (6, .slice a2 l.length c2), (4, .bool false), (0, .slice al l.length cl)]
    [rdr r ((encAll l).take cut) (endAt l x.1) 0, ro al (ints l), ro a2 (ints (endsTo l l.length))]) (fun x => l.length - x.1) ⟨0, Nat.zero_le _, by simp [endAt, encAll]⟩ ?_ ?_
  · exact fun a w hS => ent_fr (by kernel_rfl) _ _ (ent_hp [0, 0, 1] rfl _ _ hS)
  rintro ⟨i, hi, hci⟩
  dsimp only at hi hci ⊢
  refine wpc_seq ?_
  refine wpc_seq ?_
  refine wpc_region [0, 1, 2, 3] (by kernel_rfl) ?_
  refine wpr_run (l₂ := []) true [0, 1, 2, 3] [] [(50, Value.bool (decide ((↑i : Int) < (↑l.length : Int)))), (10, Value.int IntKind.i64 (↑i : Int)), (9, Value.pointer (some { block := r, off := 0 })), (8, Value.int IntKind.i64 (↑cut : Int)), (6, Value.slice a2 l.length c2), (4, Value.bool false), (0, Value.slice al l.length cl)] [Ch.blk r 52 [Value.bool true, Value.string (mkS (List.take cut (encAll l))), Value.int IntKind.i64 (↑(endAt l i) : Int), Value.int IntKind.i64 0], ro al (ints l), ro a2 (ints (endsTo l l.length))] [] (by kernel_rfl) (by kernel_rfl) trivial ?_
  refine wpr_nil ?_
  refine nx_then ?_
  refine wpc_if (((↑i : Int) < (↑l.length : Int))) (by kernel_rfl) (fun hlt => ?_) (fun hlt => ?_)
  · have hil : i < l.length := by omega
    have hrow := row_num hw hil hci
    have hE : ((ints (endsTo l l.length)).drop (i * 1)).take 1 = [.int .i64 ((endAt l (i + 1) : Nat) : Int)] := by
      rw [ints_at (by rw [endsTo_len]; exact hil), endsTo_at l hil]
    refine wpc_fact (fun w h => ro_addr h 1 rfl (by rw [ints_len]; omega)) ?_
    rintro ⟨w1, o1, rfl⟩
    refine wpc_fact (fun w h => ro_addr h 2 rfl (by rw [ints_len, endsTo_len]; omega)) ?_
    rintro ⟨w2, o2, rfl⟩
    refine wpc_skip ?_
    refine nx_then ?_
    refine wpc_seq ?_
    refine wpc_block ?_
    refine wpc_seq ?_
    refine wpc_region [0, 1, 2] (by kernel_rfl) ?_
    refine wpr_run (l₂ := [1, 2]) true [0] [] [(53, Value.pointer (some { block := r, off := 0 })), (10, Value.int IntKind.i64 (↑i : Int)), (9, Value.pointer (some { block := r, off := 0 })), (8, Value.int IntKind.i64 (↑cut : Int)), (6, Value.slice (some { block := w2, off := o2 }) l.length c2), (4, Value.bool false), (0, Value.slice (some { block := w1, off := o1 }) l.length cl)] [Ch.blk r 52 [Value.bool true, Value.string (mkS (List.take cut (encAll l))), Value.int IntKind.i64 (↑(endAt l i) : Int), Value.int IntKind.i64 0], ro (some { block := w1, off := o1 }) (ints l), ro (some { block := w2, off := o2 }) (ints (endsTo l l.length))] [] (by kernel_rfl) (by kernel_rfl) trivial ?_
    refine wpr_call (dst := some 54) (rest := [ro (some { block := w1, off := o1 }) (ints l), ro (some { block := w2, off := o2 }) (ints (endsTo l l.length))]) (by kernel_rfl) (Int_spec r (endAt l i) ((encAll l).take cut) 0 (by omega) (by omega)) (give [0] (by kernel_rfl)) ?_
    rintro v hp' ⟨rfl, rfl⟩
    rw [hrow]
    by_cases hfit : endAt l (i + 1) ≤ cut
    · rw [if_pos hfit]
      have hsu := endAt_succ hil
      rw [show rd (0 : Int) (endAt l i) 0 (l[i], ((encI l[i]).length : Int), (0 : Int)) = (l[i], endAt l (i + 1), 0) from by unfold rd; dsimp only; rw [if_neg (show ¬ (0 : Int) ≠ 0 by decide), if_neg (show ¬ (0 : Int) ≠ 0 by decide), Int.toNat_natCast, hsu]]
      refine wpr_run (l₂ := []) true [2] [] [(11, Value.int IntKind.i64 l[i]), (10, Value.int IntKind.i64 (↑i : Int)), (9, Value.pointer (some { block := r, off := 0 })), (8, Value.int IntKind.i64 (↑cut : Int)), (6, Value.slice (some { block := w2, off := o2 }) l.length c2), (4, Value.bool false), (0, Value.slice (some { block := w1, off := o1 }) l.length cl)] ([Ch.blk r 52 [Value.bool true, Value.string (mkS (List.take cut (encAll l))), Value.int IntKind.i64 (↑(endAt l (i + 1)) : Int), Value.int IntKind.i64 0], ro (some { block := w1, off := o1 }) (ints l), ro (some { block := w2, off := o2 }) (ints (endsTo l l.length))]) [] (by kernel_rfl) (by kernel_rfl) trivial ?_
      refine wpr_nil ?_
      refine nx_then ?_
      refine wpc_seq ?_
      refine wpc_seq ?_
      refine wpc_region [0, 1, 2, 3, 4, 5] (by kernel_rfl) ?_
      refine wpr_run (l₂ := [3, 4, 5]) true [0, 1, 2] [] ([(57, Value.pointer (some { block := w2, off := o2 + i * 1 })), (11, Value.int IntKind.i64 l[i]), (10, Value.int IntKind.i64 (↑i : Int)), (9, Value.pointer (some { block := r, off := 0 })), (8, Value.int IntKind.i64 (↑cut : Int)), (6, Value.slice (some { block := w2, off := o2 }) l.length c2), (4, Value.bool false), (0, Value.slice (some { block := w1, off := o1 }) l.length cl)]) ([Ch.blk r 52 [Value.bool true, Value.string (mkS (List.take cut (encAll l))), Value.int IntKind.i64 (↑(endAt l (i + 1)) : Int), Value.int IntKind.i64 0], ro (some { block := w1, off := o1 }) (ints l), ro (some { block := w2, off := o2 }) (ints (endsTo l l.length))]) [(0 : Int) ≤ (↑i : Int) ∧ (↑i : Int) < (↑l.length : Int)] (by kernel_rfl) (by kernel_rfl) ⟨by omega, trivial⟩ ?_
      refine wpr_eq (ld (t := 3) (a := ({ block := w2, off := o2 + i * 1 })) (dst := some 58) (by kernel_rfl) false 1 (by kernel_rfl) (by simp) [.int .i64 ((endAt l (i + 1) : Nat) : Int)] rfl (fun w h => ld_ro h 2 rfl (i * 1) hE)) ?_
      refine wpr_run (l₂ := []) true [4, 5] [] ([(60, Value.bool (decide ((↑(endAt l (i + 1)) : Int) ≤ (↑cut : Int)))), (11, Value.int IntKind.i64 l[i]), (10, Value.int IntKind.i64 (↑i : Int)), (9, Value.pointer (some { block := r, off := 0 })), (8, Value.int IntKind.i64 (↑cut : Int)), (6, Value.slice (some { block := w2, off := o2 }) l.length c2), (4, Value.bool false), (0, Value.slice (some { block := w1, off := o1 }) l.length cl)]) ([Ch.blk r 52 [Value.bool true, Value.string (mkS (List.take cut (encAll l))), Value.int IntKind.i64 (↑(endAt l (i + 1)) : Int), Value.int IntKind.i64 0], ro (some { block := w1, off := o1 }) (ints l), ro (some { block := w2, off := o2 }) (ints (endsTo l l.length))]) [] (by kernel_rfl) (by kernel_rfl) trivial ?_
      refine wpr_nil ?_
      refine nx_then ?_
      refine wpc_ent (ent_set 60 (Value.bool (decide ((↑(endAt l (i + 1)) : Int) ≤ (↑cut : Int)))) (Value.bool true) (by kernel_rfl) (congrArg _ (decide_eq_true (by omega)))) ?_
      refine wpc_true (by kernel_rfl) ?_
      refine wpc_seq ?_
      refine wpc_seq ?_
      refine wpc_draw (by kernel_rfl) [ro (some { block := w1, off := o1 }) (ints l), ro (some { block := w2, off := o2 }) (ints (endsTo l l.length))] (sub_of [1, 2] (by kernel_rfl)) 20 (by kernel_rfl) ?_
      refine wpa_take true [(0, []), (1, []), (2, []), (3, [])] ([(64, Value.pointer (some { block := w1, off := o1 + i * 1 })), (61, Value.int IntKind.i64 l[i]), (11, Value.int IntKind.i64 l[i]), (10, Value.int IntKind.i64 (↑i : Int)), (9, Value.pointer (some { block := r, off := 0 })), (8, Value.int IntKind.i64 (↑cut : Int)), (6, Value.slice (some { block := w2, off := o2 }) l.length c2), (4, Value.bool false), (0, Value.slice (some { block := w1, off := o1 }) l.length cl)]) (#[true, true, true, true, false, false, false, false, false, false, false, false, false, false, false, false, false, false, false, false]) [(0 : Int) ≤ (↑i : Int) ∧ (↑i : Int) < (↑l.length : Int)] (n := 16) (by kernel_rfl) (by kernel_rfl) (by kernel_rfl) ⟨by omega, trivial⟩ ?_
      refine wpa_qld (i := 4) (n := 15) (by kernel_rfl) (by kernel_rfl) (by kernel_rfl) (t := 3) (a := ({ block := w1, off := o1 + i * 1 })) (dst := some 65) (by kernel_rfl) false 1 (by kernel_rfl) (by simp) [.int .i64 l[i]] rfl (fun w h => ld_roL h 0 rfl (i * 1) (ints_at hil)) ?_
      refine wpa_take true [(5, []), (6, [])] [(67, Value.bool (l[i] != l[i])), (11, Value.int IntKind.i64 l[i]), (10, Value.int IntKind.i64 (↑i : Int)), (9, Value.pointer (some { block := r, off := 0 })), (8, Value.int IntKind.i64 (↑cut : Int)), (6, Value.slice (some { block := w2, off := o2 }) l.length c2), (4, Value.bool false), (0, Value.slice (some { block := w1, off := o1 }) l.length cl)] (#[true, true, true, true, true, true, true, false, false, false, false, false, false, false, false, false, false, false, false, false]) [] (n := 13) (by kernel_rfl) (by kernel_rfl) (by kernel_rfl) trivial ?_
      refine wpa_ent (ent_set 67 (Value.bool (l[i] != l[i])) (Value.bool false) (by kernel_rfl) (congrArg _ (by simp))) ?_
      refine wpa_take true [(7, [])] [(68, Value.pointer (some { block := r, off := 0 })), (67, Value.bool false), (11, Value.int IntKind.i64 l[i]), (10, Value.int IntKind.i64 (↑i : Int)), (9, Value.pointer (some { block := r, off := 0 })), (8, Value.int IntKind.i64 (↑cut : Int)), (6, Value.slice (some { block := w2, off := o2 }) l.length c2), (4, Value.bool false), (0, Value.slice (some { block := w1, off := o1 }) l.length cl)] (#[true, true, true, true, true, true, true, true, false, false, false, false, false, false, false, false, false, false, false, false]) [] (n := 12) (by kernel_rfl) (by kernel_rfl) (by kernel_rfl) trivial ?_
      refine wpa_call (i := 8) (n := 11) (dst := some 69) (rest := [ro (some { block := w1, off := o1 }) (ints l), ro (some { block := w2, off := o2 }) (ints (endsTo l l.length))]) (by kernel_rfl) (by kernel_rfl) (Err_spec r ((encAll l).take cut) (endAt l (i + 1)) 0) (give [0] (by kernel_rfl)) (sub_of [0, 1] (by kernel_rfl)) ?_
      rintro v hp' ⟨rfl, rfl⟩
      refine wpa_take true [(9, []), (10, []), (11, []), (12, []), (14, []), (15, []), (16, [])] ([(77, Value.pointer (some { block := w2, off := o2 + i * 1 })), (73, Value.pointer (some { block := r, off := 0 })), (72, Value.bool false), (11, Value.int IntKind.i64 l[i]), (10, Value.int IntKind.i64 (↑i : Int)), (9, Value.pointer (some { block := r, off := 0 })), (8, Value.int IntKind.i64 (↑cut : Int)), (6, Value.slice (some { block := w2, off := o2 }) l.length c2), (4, Value.bool false), (0, Value.slice (some { block := w1, off := o1 }) l.length cl)]) (#[true, true, true, true, true, true, true, true, true, true, true, true, true, false, true, true, true, false, false, false]) [(0 : Int) ≤ (↑i : Int) ∧ (↑i : Int) < (↑l.length : Int)] (n := 4) (by kernel_rfl) (by kernel_rfl) (by kernel_rfl) ⟨by omega, trivial⟩ ?_
      refine wpa_qld (i := 17) (n := 3) (by kernel_rfl) (by kernel_rfl) (by kernel_rfl) (t := 3) (a := ({ block := w2, off := o2 + i * 1 })) (dst := some 78) (by kernel_rfl) false 1 (by kernel_rfl) (by simp) [.int .i64 ((endAt l (i + 1) : Nat) : Int)] rfl (fun w h => ld_roL h 1 rfl (i * 1) hE) ?_
      refine wpa_call (i := 13) (n := 2) (dst := some 74) (rest := [ro (some { block := w1, off := o1 }) (ints l), ro (some { block := w2, off := o2 }) (ints (endsTo l l.length))]) (by kernel_rfl) (by kernel_rfl) (At_spec r ((encAll l).take cut) (endAt l (i + 1)) 0) (give [0] (by kernel_rfl)) (sub_of [0, 1] (by kernel_rfl)) ?_
      rintro v hp' ⟨rfl, rfl⟩
      refine wpa_take true [(18, []), (19, [])] ([(80, Value.bool ((↑(endAt l (i + 1)) : Int) != (↑(endAt l (i + 1)) : Int))), (11, Value.int IntKind.i64 l[i]), (10, Value.int IntKind.i64 (↑i : Int)), (9, Value.pointer (some { block := r, off := 0 })), (8, Value.int IntKind.i64 (↑cut : Int)), (6, Value.slice (some { block := w2, off := o2 }) l.length c2), (4, Value.bool false), (0, Value.slice (some { block := w1, off := o1 }) l.length cl)]) (#[true, true, true, true, true, true, true, true, true, true, true, true, true, true, true, true, true, true, true, true]) [] (n := 0) (by kernel_rfl) (by kernel_rfl) (by kernel_rfl) trivial ?_
      refine wpa_done 0 (by kernel_rfl) ?_
      refine nx_then ?_
      refine wpc_ent (ent_set 80 (Value.bool ((↑(endAt l (i + 1)) : Int) != (↑(endAt l (i + 1)) : Int))) (Value.bool false) (by kernel_rfl) (congrArg _ (by simp))) ?_
      refine wpc_false (by kernel_rfl) ?_
      refine wpc_skip ?_
      refine nx_then ?_
      refine wpc_exit ?_
      refine nx_then_exit ?_
      refine nx_block_here ?_
      refine nx_then ?_
      refine wpc_region [0, 1, 2] (by kernel_rfl) ?_
      refine wpr_run (l₂ := []) true [0, 1, 2] [] ([(10, Value.int IntKind.i64 ((↑i : Int) + 1)), (9, Value.pointer (some { block := r, off := 0 })), (8, Value.int IntKind.i64 (↑cut : Int)), (6, Value.slice (some { block := w2, off := o2 }) l.length c2), (4, Value.bool false), (0, Value.slice (some { block := w1, off := o1 }) l.length cl)]) ([Ch.blk r 52 [Value.bool true, Value.string (mkS (List.take cut (encAll l))), Value.int IntKind.i64 (↑(endAt l (i + 1)) : Int), Value.int IntKind.i64 0], ro (some { block := w1, off := o1 }) (ints l), ro (some { block := w2, off := o2 }) (ints (endsTo l l.length))]) ([inI64 ((↑i : Int) + (1 : Int))]) (by kernel_rfl) (by kernel_rfl) ⟨by unfold inI64; omega, trivial⟩ ?_
      refine wpr_nil ?_
      exact fun a' w' hS' => ⟨⟨i + 1, by omega, hfit⟩, by dsimp only; omega, ent_fr (by kernel_rfl) _ _ (ent_hp [0, 0, 0] rfl _ _ hS')⟩
    · rw [if_neg hfit]
      rw [show rd (0 : Int) (endAt l i) 0 ((0 : Int), (0 : Int), (3 : Int)) = (0, endAt l i, 3) from rfl]
      refine wpr_run (l₂ := []) true [2] [] [(11, Value.int IntKind.i64 0), (10, Value.int IntKind.i64 (↑i : Int)), (9, Value.pointer (some { block := r, off := 0 })), (8, Value.int IntKind.i64 (↑cut : Int)), (6, Value.slice (some { block := w2, off := o2 }) l.length c2), (4, Value.bool false), (0, Value.slice (some { block := w1, off := o1 }) l.length cl)] [Ch.blk r 52 [Value.bool true, Value.string (mkS (List.take cut (encAll l))), Value.int IntKind.i64 (↑(endAt l i) : Int), Value.int IntKind.i64 3], ro (some { block := w1, off := o1 }) (ints l), ro (some { block := w2, off := o2 }) (ints (endsTo l l.length))] [] (by kernel_rfl) (by kernel_rfl) trivial ?_
      refine wpr_nil ?_
      refine nx_then ?_
      refine wpc_seq ?_
      refine wpc_seq ?_
      refine wpc_region [0, 1, 2, 3, 4, 5] (by kernel_rfl) ?_
      refine wpr_run (l₂ := [3, 4, 5]) true [0, 1, 2] [] ([(57, Value.pointer (some { block := w2, off := o2 + i * 1 })), (11, Value.int IntKind.i64 0), (10, Value.int IntKind.i64 (↑i : Int)), (9, Value.pointer (some { block := r, off := 0 })), (8, Value.int IntKind.i64 (↑cut : Int)), (6, Value.slice (some { block := w2, off := o2 }) l.length c2), (4, Value.bool false), (0, Value.slice (some { block := w1, off := o1 }) l.length cl)]) [Ch.blk r 52 [Value.bool true, Value.string (mkS (List.take cut (encAll l))), Value.int IntKind.i64 (↑(endAt l i) : Int), Value.int IntKind.i64 3], ro (some { block := w1, off := o1 }) (ints l), ro (some { block := w2, off := o2 }) (ints (endsTo l l.length))] [(0 : Int) ≤ (↑i : Int) ∧ (↑i : Int) < (↑l.length : Int)] (by kernel_rfl) (by kernel_rfl) ⟨by omega, trivial⟩ ?_
      refine wpr_eq (ld (t := 3) (a := ({ block := w2, off := o2 + i * 1 })) (dst := some 58) (by kernel_rfl) false 1 (by kernel_rfl) (by simp) [.int .i64 ((endAt l (i + 1) : Nat) : Int)] rfl (fun w h => ld_ro h 2 rfl (i * 1) hE)) ?_
      refine wpr_run (l₂ := []) true [4, 5] [] ([(60, Value.bool (decide ((↑(endAt l (i + 1)) : Int) ≤ (↑cut : Int)))), (11, Value.int IntKind.i64 0), (10, Value.int IntKind.i64 (↑i : Int)), (9, Value.pointer (some { block := r, off := 0 })), (8, Value.int IntKind.i64 (↑cut : Int)), (6, Value.slice (some { block := w2, off := o2 }) l.length c2), (4, Value.bool false), (0, Value.slice (some { block := w1, off := o1 }) l.length cl)]) [Ch.blk r 52 [Value.bool true, Value.string (mkS (List.take cut (encAll l))), Value.int IntKind.i64 (↑(endAt l i) : Int), Value.int IntKind.i64 3], ro (some { block := w1, off := o1 }) (ints l), ro (some { block := w2, off := o2 }) (ints (endsTo l l.length))] [] (by kernel_rfl) (by kernel_rfl) trivial ?_
      refine wpr_nil ?_
      refine nx_then ?_
      refine wpc_ent (ent_set 60 (Value.bool (decide ((↑(endAt l (i + 1)) : Int) ≤ (↑cut : Int)))) (Value.bool false) (by kernel_rfl) (congrArg _ (decide_eq_false (by omega)))) ?_
      refine wpc_false (by kernel_rfl) ?_
      refine wpc_skip ?_
      refine nx_then ?_
      refine wpc_seq ?_
      refine wpc_region [0, 1, 2, 3, 4, 5, 6, 7, 8, 9, 10, 11, 12, 13, 14, 15] (by kernel_rfl) ?_
      refine wpr_run (l₂ := [4, 5, 6, 7, 8, 9, 10, 11, 12, 13, 14, 15]) true [0, 1, 2, 3] [] [(84, Value.pointer (some { block := r, off := 0 })), (83, Value.bool true), (10, Value.int IntKind.i64 (↑i : Int)), (9, Value.pointer (some { block := r, off := 0 })), (8, Value.int IntKind.i64 (↑cut : Int)), (6, Value.slice (some { block := w2, off := o2 }) l.length c2), (4, Value.bool false), (0, Value.slice (some { block := w1, off := o1 }) l.length cl)] [Ch.blk r 52 [Value.bool true, Value.string (mkS (List.take cut (encAll l))), Value.int IntKind.i64 (↑(endAt l i) : Int), Value.int IntKind.i64 3], ro (some { block := w1, off := o1 }) (ints l), ro (some { block := w2, off := o2 }) (ints (endsTo l l.length))] [] (by kernel_rfl) (by kernel_rfl) trivial ?_
      refine wpr_call (dst := some 85) (rest := [ro (some { block := w1, off := o1 }) (ints l), ro (some { block := w2, off := o2 }) (ints (endsTo l l.length))]) (by kernel_rfl) (Err_spec r ((encAll l).take cut) (endAt l i) 3) (give [0] (by kernel_rfl)) ?_
      rintro v hp' ⟨rfl, rfl⟩
      refine wpr_run (l₂ := [9, 10, 11, 12, 13, 14, 15]) true [5, 6, 7, 8] [] [(89, Value.pointer (some { block := r, off := 0 })), (88, Value.bool true), (10, Value.int IntKind.i64 (↑i : Int)), (9, Value.pointer (some { block := r, off := 0 })), (8, Value.int IntKind.i64 (↑cut : Int)), (6, Value.slice (some { block := w2, off := o2 }) l.length c2), (4, Value.bool false), (0, Value.slice (some { block := w1, off := o1 }) l.length cl)] [Ch.blk r 52 [Value.bool true, Value.string (mkS (List.take cut (encAll l))), Value.int IntKind.i64 (↑(endAt l i) : Int), Value.int IntKind.i64 3], ro (some { block := w1, off := o1 }) (ints l), ro (some { block := w2, off := o2 }) (ints (endsTo l l.length))] [] (by kernel_rfl) (by kernel_rfl) trivial ?_
      refine wpr_call (dst := some 90) (rest := [ro (some { block := w1, off := o1 }) (ints l), ro (some { block := w2, off := o2 }) (ints (endsTo l l.length))]) (by kernel_rfl) (Int_spec r (endAt l i) ((encAll l).take cut) 3 (by omega) (by omega)) (give [0] (by kernel_rfl)) ?_
      rintro v hp' ⟨rfl, rfl⟩
      rw [show rd (0 : Int) (endAt l i) 3 (num (((encAll l).take cut).drop (endAt l i))) = (0, endAt l i, 3) from by unfold rd; rw [if_pos (show (3 : Int) ≠ 0 by decide)]]
      refine wpr_run (l₂ := [13, 14, 15]) true [10, 11, 12] [] [(93, Value.bool true), (10, Value.int IntKind.i64 (↑i : Int)), (9, Value.pointer (some { block := r, off := 0 })), (8, Value.int IntKind.i64 (↑cut : Int)), (6, Value.slice (some { block := w2, off := o2 }) l.length c2), (4, Value.bool false), (0, Value.slice (some { block := w1, off := o1 }) l.length cl)] [Ch.blk r 52 [Value.bool true, Value.string (mkS (List.take cut (encAll l))), Value.int IntKind.i64 (↑(endAt l i) : Int), Value.int IntKind.i64 3], ro (some { block := w1, off := o1 }) (ints l), ro (some { block := w2, off := o2 }) (ints (endsTo l l.length))] [] (by kernel_rfl) (by kernel_rfl) trivial ?_
      refine wpr_call (dst := some 94) (rest := [Ch.blk r 52 [Value.bool true, Value.string (mkS (List.take cut (encAll l))), Value.int IntKind.i64 (↑(endAt l i) : Int), Value.int IntKind.i64 3], ro (some { block := w1, off := o1 }) (ints l), ro (some { block := w2, off := o2 }) (ints (endsTo l l.length))]) (by kernel_rfl) (lives_spec) (give [] (by kernel_rfl)) ?_
      rintro v hp' ⟨rfl, rfl⟩
      refine wpr_run (l₂ := []) true [14, 15] [] [(4, Value.bool true), (10, Value.int IntKind.i64 (↑i : Int)), (9, Value.pointer (some { block := r, off := 0 })), (8, Value.int IntKind.i64 (↑cut : Int)), (6, Value.slice (some { block := w2, off := o2 }) l.length c2), (0, Value.slice (some { block := w1, off := o1 }) l.length cl)] [Ch.blk r 52 [Value.bool true, Value.string (mkS (List.take cut (encAll l))), Value.int IntKind.i64 (↑(endAt l i) : Int), Value.int IntKind.i64 3], ro (some { block := w1, off := o1 }) (ints l), ro (some { block := w2, off := o2 }) (ints (endsTo l l.length))] [] (by kernel_rfl) (by kernel_rfl) trivial ?_
      refine wpr_nil ?_
      refine nx_then ?_
      refine wpc_ret ?_
      refine nx_block_ret ?_
      refine nx_then_ret ?_
      refine nx_then_ret ?_
      refine nx_block_ret ?_
      refine nx_then_ret ?_
      refine nx_end (hp' := []) (rest := [Ch.blk r 52 [Value.bool true, Value.string (mkS (List.take cut (encAll l))), Value.int IntKind.i64 (↑(endAt l i) : Int), Value.int IntKind.i64 3], ro (some { block := w1, off := o1 }) (ints l), ro (some { block := w2, off := o2 }) (ints (endsTo l l.length))]) [] ((Value.bool true)) (by kernel_rfl) (by kernel_rfl) (give [] (by kernel_rfl)) (by first | ((repeat (first | exact trivial | refine ⟨trivial, ?_⟩)); done) | assumption) ?_ (.inr rfl)
      exact ⟨rfl, rfl⟩
  refine wpc_exit ?_
  refine nx_then_exit ?_
  refine nx_then_exit ?_
  refine nx_block_here ?_
  refine nx_then ?_
  refine wpc_seq ?_
  refine wpc_region [0, 1, 2, 3, 4, 5, 6] (by kernel_rfl) ?_
  refine wpr_run (l₂ := [1, 2, 3, 4, 5, 6]) true [0] [] [(96, Value.pointer (some { block := r, off := 0 })), (4, Value.bool false)] [Ch.blk r 52 [Value.bool true, Value.string (mkS (List.take cut (encAll l))), Value.int IntKind.i64 (↑(endAt l i) : Int), Value.int IntKind.i64 0], ro al (ints l), ro a2 (ints (endsTo l l.length))] [] (by kernel_rfl) (by kernel_rfl) trivial ?_
  refine wpr_call (dst := some 97) (rest := [ro al (ints l), ro a2 (ints (endsTo l l.length))]) (by kernel_rfl) (End_spec r ((encAll l).take cut) (endAt l i) 0) (give [0] (by kernel_rfl)) ?_
  rintro v hp' ⟨rfl, rfl⟩
  have hE0 : endE ((encAll l).take cut) (endAt l i) 0 = 0 := by
    have e : endAt l i = (encAll l).length := by rw [show i = l.length by omega, endAt_all]
    unfold endE
    rw [if_neg (by simp), if_neg (by omega)]
  rw [hE0]
  refine wpr_run (l₂ := [4, 5, 6]) true [2, 3] [] [(99, Value.bool true), (4, Value.bool false)] [Ch.blk r 52 [Value.bool true, Value.string (mkS (List.take cut (encAll l))), Value.int IntKind.i64 (↑(endAt l i) : Int), Value.int IntKind.i64 0], ro al (ints l), ro a2 (ints (endsTo l l.length))] [] (by kernel_rfl) (by kernel_rfl) trivial ?_
  refine wpr_call (dst := some 100) (rest := [Ch.blk r 52 [Value.bool true, Value.string (mkS (List.take cut (encAll l))), Value.int IntKind.i64 (↑(endAt l i) : Int), Value.int IntKind.i64 0], ro al (ints l), ro a2 (ints (endsTo l l.length))]) (by kernel_rfl) (lives_spec) (give [] (by kernel_rfl)) ?_
  rintro v hp' ⟨rfl, rfl⟩
  refine wpr_run (l₂ := []) true [5, 6] [] [(4, Value.bool true)] [Ch.blk r 52 [Value.bool true, Value.string (mkS (List.take cut (encAll l))), Value.int IntKind.i64 (↑(endAt l i) : Int), Value.int IntKind.i64 0], ro al (ints l), ro a2 (ints (endsTo l l.length))] [] (by kernel_rfl) (by kernel_rfl) trivial ?_
  refine wpr_nil ?_
  refine nx_then ?_
  refine wpc_ret ?_
  refine nx_end (hp' := []) (rest := [Ch.blk r 52 [Value.bool true, Value.string (mkS (List.take cut (encAll l))), Value.int IntKind.i64 (↑(endAt l i) : Int), Value.int IntKind.i64 0], ro al (ints l), ro a2 (ints (endsTo l l.length))]) [] ((Value.bool true)) (by kernel_rfl) (by kernel_rfl) (give [] (by kernel_rfl)) (by first | ((repeat (first | exact trivial | refine ⟨trivial, ?_⟩)); done) | assumption) ?_ (.inr rfl)
  exact ⟨rfl, rfl⟩
end Go.Proofs.Ytgkcodkeikaeeaa
