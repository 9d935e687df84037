import Derived.Test.YtmjhcadciblcdaaB3
import Derived.Test.YtmjhcadciblcdaaW5
import Derived.Test.YtmjhcadciblcdaaX16
namespace Go.Proofs.Ytmjhcadciblcdaa
open Go Go.Sx
set_option linter.unusedVariables false
set_option linter.unusedSimpArgs false

/-- What is got from a place on: what is in the frame, the place behind it, the answer. -/
def getL (l : List UInt8) (at_ : Int) : List UInt8 × Int × Int :=
  if at_ < 0 ∨ at_ > l.length then ([], 0, 2) else
  let q := cnt ((l.drop at_.toNat).take 11) 1048576
  if q.2.2 ≠ 0 then ([], 0, q.2.2) else
  let n := q.1.toNat
  let f := at_.toNat + q.2.1.toNat
  if l.length < f + n + 4 then ([], 0, 3) else
  if (l.drop (f + n)).take 4 ≠ lowL (more 0 ((l.drop at_.toNat).take (q.2.1.toNat + n))) then ([], 0, 4) else
  ((l.drop f).take n, ((f + n + 4 : Nat) : Int), 0)
theorem view_win {g off : Nat} {l : List UInt8} (p k c : Nat) (hc : l.length ≤ c) : View (ro (some ⟨g, off, none⟩) (u8s l)) (ro (some ⟨g, sOff off (p : Int) (c : Int) 1, none⟩) (u8s ((l.drop p).take k))) := by
  have v1 := view_rest (g := g) (off := off) (xs := u8s l) p (sOff off (p : Int) (c : Int) 1) (fun h => by rw [u8s_len] at h; unfold sOff; rw [if_neg (by omega)]; simp)
  have v2 := view_front (a := some ⟨g, sOff off (p : Int) (c : Int) 1, none⟩) (xs := (u8s l).drop p) k
  have e : ((u8s l).drop p).take k = u8s ((l.drop p).take k) := by simp [u8s, List.map_take, List.map_drop]
  rw [← e]
  exact v1.trans v2
theorem Get_spec (a0 : Option Addr) (c0 : Nat) (l0 : List UInt8) (at_ : Int) (h1 : -9223372036854775808 ≤ at_) (h2 : at_ ≤ 9223372036854775807) (n0 : a0 = none → l0 = []) (ha : ∀ ad, a0 = some ad → ad.spot = none) (hcap : l0.length ≤ c0) (hl : l0.length ≤ 1099511627776) :
    Does Try.prog 18 [.slice a0 l0.length c0, .int .i64 at_] [ro a0 (u8s l0)]
      (fun v hp' => ∃ a c, (a = none → (getL l0 at_).1 = []) ∧ v = .tuple #[.slice a (getL l0 at_).1.length c, .int .i64 (getL l0 at_).2.1, .int .i64 (getL l0 at_).2.2] ∧ hp' = [row 5 1 a (getL l0 at_).1.length c (u8s (getL l0 at_).1)]) := by
  by_cases hlo : at_ < 0
  · have e : getL l0 at_ = ([], 0, 2) := by unfold getL; rw [if_pos (.inl hlo)]
    rw [e]
    refine fn_enter Try.func18 rfl 77 rfl fun w0 h0 => ?_
    refine wpc_seq ?_
    refine wpc_region [0, 1, 2] (by kernel_rfl) ?_
    refine wpr_run (l₂ := []) true [0, 1, 2] [] [(6, Value.int IntKind.i64 0), (5, Value.int IntKind.i64 0), (4, Value.slice none 0 0), (0, Value.slice a0 l0.length c0), (1, Value.int IntKind.i64 at_)] [ro a0 (u8s l0)] [] (by kernel_rfl) (by kernel_rfl) trivial ?_
    refine wpr_nil ?_
    refine nx_then ?_
    refine wpc_seq ?_
    refine wpc_seq ?_
    refine wpc_region [0, 1, 2, 3, 4, 5, 6, 7] (by kernel_rfl) ?_
    refine wpr_run (l₂ := [3, 4, 5, 6, 7]) true [0, 1, 2] [] [(13, Value.bool (decide (at_ < 0))), (6, Value.int IntKind.i64 0), (5, Value.int IntKind.i64 0), (4, Value.slice none 0 0), (0, Value.slice a0 l0.length c0), (1, Value.int IntKind.i64 at_)] [ro a0 (u8s l0)] [] (by kernel_rfl) (by kernel_rfl) trivial ?_
    refine wpr_ent (ent_set 13 (Value.bool (decide (at_ < 0))) (Value.bool true) (by kernel_rfl) (congrArg _ (decide_eq_true (by omega)))) ?_
    refine wpr_run (l₂ := []) true [3, 4, 5, 6, 7] [] [(18, Value.bool true), (6, Value.int IntKind.i64 0), (5, Value.int IntKind.i64 0), (4, Value.slice none 0 0), (0, Value.slice a0 l0.length c0), (1, Value.int IntKind.i64 at_)] [ro a0 (u8s l0)] [] (by kernel_rfl) (by kernel_rfl) trivial ?_
    refine wpr_nil ?_
    refine nx_then ?_
    refine wpc_true (by kernel_rfl) ?_
    refine wpc_seq ?_
    refine wpc_region [0, 1, 2] (by kernel_rfl) ?_
    refine wpr_run (l₂ := []) true [0, 1, 2] [] [(6, Value.int IntKind.i64 2), (5, Value.int IntKind.i64 0), (4, Value.slice none 0 0), (0, Value.slice a0 l0.length c0), (1, Value.int IntKind.i64 at_)] [ro a0 (u8s l0)] [] (by kernel_rfl) (by kernel_rfl) trivial ?_
    refine wpr_nil ?_
    refine nx_then ?_
    refine wpc_ret ?_
    refine nx_then_ret ?_
    refine nx_ent (ent_nil 5 1) ?_
    refine nx_end (hp' := [row 5 1 none 0 0 []]) (rest := [ro a0 (u8s l0)]) [] ((Value.tuple #[Value.slice none 0 0, Value.int IntKind.i64 0, Value.int IntKind.i64 2])) (by kernel_rfl) (by kernel_rfl) (give [0] (by kernel_rfl)) (by first | ((repeat (first | exact trivial | refine ⟨trivial, ?_⟩)); done) | assumption) ?_ (.inr rfl)
    exact ⟨none, 0, fun _ => rfl, rfl, rfl⟩
  obtain ⟨p, rfl⟩ : ∃ p : Nat, at_ = p := ⟨at_.toNat, by omega⟩
  by_cases hp : l0.length < p
  · have e : getL l0 p = ([], 0, 2) := by unfold getL; rw [if_pos (.inr (by omega))]
    rw [e]
    refine fn_enter Try.func18 rfl 77 rfl fun w0 h0 => ?_
    refine wpc_seq ?_
    refine wpc_region [0, 1, 2] (by kernel_rfl) ?_
    refine wpr_run (l₂ := []) true [0, 1, 2] [] [(6, Value.int IntKind.i64 0), (5, Value.int IntKind.i64 0), (4, Value.slice none 0 0), (0, Value.slice a0 l0.length c0), (1, Value.int IntKind.i64 (↑p : Int))] [ro a0 (u8s l0)] [] (by kernel_rfl) (by kernel_rfl) trivial ?_
    refine wpr_nil ?_
    refine nx_then ?_
    refine wpc_seq ?_
    refine wpc_seq ?_
    refine wpc_region [0, 1, 2, 3, 4, 5, 6, 7] (by kernel_rfl) ?_
    refine wpr_run (l₂ := []) true [0, 1, 2, 3, 4, 5, 6, 7] [] [(18, Value.bool (decide ((↑p : Int) > (↑l0.length : Int)))), (6, Value.int IntKind.i64 0), (5, Value.int IntKind.i64 0), (4, Value.slice none 0 0), (0, Value.slice a0 l0.length c0), (1, Value.int IntKind.i64 (↑p : Int))] [ro a0 (u8s l0)] [] (by kernel_rfl) (by kernel_rfl) trivial ?_
    refine wpr_nil ?_
    refine nx_then ?_
    refine wpc_ent (ent_set 18 (Value.bool (decide ((↑p : Int) > (↑l0.length : Int)))) (Value.bool true) (by kernel_rfl) (congrArg _ (decide_eq_true (by omega)))) ?_
    refine wpc_true (by kernel_rfl) ?_
    refine wpc_seq ?_
    refine wpc_region [0, 1, 2] (by kernel_rfl) ?_
    refine wpr_run (l₂ := []) true [0, 1, 2] [] [(6, Value.int IntKind.i64 2), (5, Value.int IntKind.i64 0), (4, Value.slice none 0 0), (0, Value.slice a0 l0.length c0), (1, Value.int IntKind.i64 (↑p : Int))] [ro a0 (u8s l0)] [] (by kernel_rfl) (by kernel_rfl) trivial ?_
    refine wpr_nil ?_
    refine nx_then ?_
    refine wpc_ret ?_
    refine nx_then_ret ?_
    refine nx_ent (ent_nil 5 1) ?_
    refine nx_end (hp' := [row 5 1 none 0 0 []]) (rest := [ro a0 (u8s l0)]) [] ((Value.tuple #[Value.slice none 0 0, Value.int IntKind.i64 0, Value.int IntKind.i64 2])) (by kernel_rfl) (by kernel_rfl) (give [0] (by kernel_rfl)) (by first | ((repeat (first | exact trivial | refine ⟨trivial, ?_⟩)); done) | assumption) ?_ (.inr rfl)
    exact ⟨none, 0, fun _ => rfl, rfl, rfl⟩
  have hp : p ≤ l0.length := by omega
  obtain ⟨m, hm⟩ : ∃ m : Nat, m = min l0.length (p + 11) := ⟨_, rfl⟩
  cases a0 with
  | none =>
    obtain rfl := n0 rfl
    obtain rfl : p = 0 := by simpa using hp
    have e : getL [] ((0 : Nat) : Int) = ([], 0, 3) := by rfl
    rw [e]
    refine fn_enter Try.func18 rfl 77 rfl fun w0 h0 => ?_
    refine wpc_seq ?_
    refine wpc_region [0, 1, 2] (by kernel_rfl) ?_
    refine wpr_run (l₂ := []) true [0, 1, 2] [] [(6, Value.int IntKind.i64 0), (5, Value.int IntKind.i64 0), (4, Value.slice none 0 0), (0, Value.slice none 0 c0), (1, Value.int IntKind.i64 0)] [ro none (u8s [])] [] (by kernel_rfl) (by kernel_rfl) trivial ?_
    refine wpr_nil ?_
    refine nx_then ?_
    refine wpc_seq ?_
    refine wpc_seq ?_
    refine wpc_region [0, 1, 2, 3, 4, 5, 6, 7] (by kernel_rfl) ?_
    refine wpr_run (l₂ := []) true [0, 1, 2, 3, 4, 5, 6, 7] [] [(18, Value.bool false), (6, Value.int IntKind.i64 0), (5, Value.int IntKind.i64 0), (4, Value.slice none 0 0), (0, Value.slice none 0 c0), (1, Value.int IntKind.i64 0)] [ro none (u8s [])] [] (by kernel_rfl) (by kernel_rfl) trivial ?_
    refine wpr_nil ?_
    refine nx_then ?_
    refine wpc_false (by kernel_rfl) ?_
    refine wpc_skip ?_
    refine nx_then ?_
    refine wpc_seq ?_
    refine wpc_region [0, 1, 2, 3, 4, 5, 6, 7, 8, 9] (by kernel_rfl) ?_
    refine wpr_run (l₂ := [8, 9]) true [0, 1, 2, 3, 4, 5, 6, 7] [] [(26, Value.slice none 0 c0), (6, Value.int IntKind.i64 0), (5, Value.int IntKind.i64 0), (4, Value.slice none 0 0), (0, Value.slice none 0 c0), (1, Value.int IntKind.i64 0)] [ro none (u8s [])] ([inI64 ((0 : Int) + (11 : Int)), (0 : Int) ≤ (0 : Int) ∧ (0 : Int) ≤ (↑c0 : Int), (0 : Int) ≤ (0 : Int) ∧ (0 : Int) ≤ (0 : Int)]) (by kernel_rfl) (by kernel_rfl) ⟨by unfold inI64; omega, by omega, by omega, trivial⟩ ?_
    refine wpr_call (dst := some 27) (rest := [ro none (u8s [])]) (by kernel_rfl) (NewReader_spec none c0 [] (fun _ => rfl)) (Give.view (c := (ro none (u8s []))) (give (pre := []) (rest := [ro none (u8s [])]) [] (by kernel_rfl)) 0 (by kernel_rfl) view_ro) ?_
    rintro v _ ⟨r, rfl, rfl⟩
    refine wpr_run (l₂ := []) true [9] [] [(7, Value.pointer (some { block := r, off := 0 })), (6, Value.int IntKind.i64 0), (5, Value.int IntKind.i64 0), (4, Value.slice none 0 0), (0, Value.slice none 0 c0), (1, Value.int IntKind.i64 0)] [Ch.blk r 75 [Value.bool true, Value.string (mkS []), Value.int IntKind.i64 0, Value.int IntKind.i64 0], ro none (u8s [])] [] (by kernel_rfl) (by kernel_rfl) trivial ?_
    refine wpr_nil ?_
    refine nx_then ?_
    refine wpc_seq ?_
    refine wpc_region [0, 1, 2] (by kernel_rfl) ?_
    refine wpr_run (l₂ := [1, 2]) true [0] [] [(28, Value.pointer (some { block := r, off := 0 })), (7, Value.pointer (some { block := r, off := 0 })), (6, Value.int IntKind.i64 0), (5, Value.int IntKind.i64 0), (4, Value.slice none 0 0), (0, Value.slice none 0 c0), (1, Value.int IntKind.i64 0)] [Ch.blk r 75 [Value.bool true, Value.string (mkS []), Value.int IntKind.i64 0, Value.int IntKind.i64 0], ro none (u8s [])] [] (by kernel_rfl) (by kernel_rfl) trivial ?_
    refine wpr_call (dst := some 29) (rest := [ro none (u8s [])]) (by kernel_rfl) (Count_spec r 0 [] 0 1048576 (Nat.le_refl _) (by decide)) (give [0] (by kernel_rfl)) ?_
    rintro v _ ⟨rfl, rfl⟩
    refine wpr_run (l₂ := []) true [2] [] [(8, Value.int IntKind.i64 0), (7, Value.pointer (some { block := r, off := 0 })), (6, Value.int IntKind.i64 0), (5, Value.int IntKind.i64 0), (4, Value.slice none 0 0), (0, Value.slice none 0 c0), (1, Value.int IntKind.i64 0)] [Ch.blk r 75 [Value.bool true, Value.string (mkS []), Value.int IntKind.i64 0, Value.int IntKind.i64 3], ro none (u8s [])] [] (by kernel_rfl) (by kernel_rfl) trivial ?_
    refine wpr_nil ?_
    refine nx_then ?_
    refine wpc_seq ?_
    refine wpc_seq ?_
    refine wpc_region [0, 1, 2] (by kernel_rfl) ?_
    refine wpr_run (l₂ := [1, 2]) true [0] [] [(30, Value.pointer (some { block := r, off := 0 })), (8, Value.int IntKind.i64 0), (7, Value.pointer (some { block := r, off := 0 })), (6, Value.int IntKind.i64 0), (5, Value.int IntKind.i64 0), (4, Value.slice none 0 0), (0, Value.slice none 0 c0), (1, Value.int IntKind.i64 0)] [Ch.blk r 75 [Value.bool true, Value.string (mkS []), Value.int IntKind.i64 0, Value.int IntKind.i64 3], ro none (u8s [])] [] (by kernel_rfl) (by kernel_rfl) trivial ?_
    refine wpr_call (dst := some 31) (rest := [ro none (u8s [])]) (by kernel_rfl) (Err_spec r [] 0 3) (give [0] (by kernel_rfl)) ?_
    rintro v _ ⟨rfl, rfl⟩
    refine wpr_run (l₂ := []) true [2] [] [(9, Value.int IntKind.i64 3), (8, Value.int IntKind.i64 0), (7, Value.pointer (some { block := r, off := 0 })), (6, Value.int IntKind.i64 0), (5, Value.int IntKind.i64 0), (4, Value.slice none 0 0), (0, Value.slice none 0 c0), (1, Value.int IntKind.i64 0)] [Ch.blk r 75 [Value.bool true, Value.string (mkS []), Value.int IntKind.i64 0, Value.int IntKind.i64 3], ro none (u8s [])] [] (by kernel_rfl) (by kernel_rfl) trivial ?_
    refine wpr_nil ?_
    refine nx_then ?_
    refine wpc_seq ?_
    refine wpc_region [0, 1] (by kernel_rfl) ?_
    refine wpr_run (l₂ := []) true [0, 1] [] [(33, Value.bool true), (9, Value.int IntKind.i64 3), (8, Value.int IntKind.i64 0), (7, Value.pointer (some { block := r, off := 0 })), (6, Value.int IntKind.i64 0), (5, Value.int IntKind.i64 0), (4, Value.slice none 0 0), (0, Value.slice none 0 c0), (1, Value.int IntKind.i64 0)] [Ch.blk r 75 [Value.bool true, Value.string (mkS []), Value.int IntKind.i64 0, Value.int IntKind.i64 3], ro none (u8s [])] [] (by kernel_rfl) (by kernel_rfl) trivial ?_
    refine wpr_nil ?_
    refine nx_then ?_
    refine wpc_true (by kernel_rfl) ?_
    refine wpc_seq ?_
    refine wpc_region [0, 1, 2, 3] (by kernel_rfl) ?_
    refine wpr_run (l₂ := []) true [0, 1, 2, 3] [] [(6, Value.int IntKind.i64 3), (5, Value.int IntKind.i64 0), (4, Value.slice none 0 0), (8, Value.int IntKind.i64 0), (7, Value.pointer (some { block := r, off := 0 })), (0, Value.slice none 0 c0), (1, Value.int IntKind.i64 0)] [Ch.blk r 75 [Value.bool true, Value.string (mkS []), Value.int IntKind.i64 0, Value.int IntKind.i64 3], ro none (u8s [])] [] (by kernel_rfl) (by kernel_rfl) trivial ?_
    refine wpr_nil ?_
    refine nx_then ?_
    refine wpc_ret ?_
    refine nx_then_ret ?_
    refine nx_ent (ent_nil 5 1) ?_
    refine nx_end (hp' := [row 5 1 none 0 0 []]) (rest := [Ch.blk r 75 [Value.bool true, Value.string (mkS []), Value.int IntKind.i64 0, Value.int IntKind.i64 3], ro none (u8s [])]) [] ((Value.tuple #[Value.slice none 0 0, Value.int IntKind.i64 0, Value.int IntKind.i64 3])) (by kernel_rfl) (by kernel_rfl) (give [0] (by kernel_rfl)) (by first | ((repeat (first | exact trivial | refine ⟨trivial, ?_⟩)); done) | assumption) ?_ (.inr rfl)
    exact ⟨none, 0, fun _ => rfl, rfl, rfl⟩
  | some ad =>
    obtain ⟨g, off, sp⟩ := ad
    obtain rfl : sp = none := ha _ rfl
    obtain ⟨s, hs⟩ : ∃ s, s = (l0.drop p).take 11 := ⟨_, rfl⟩
    have hsl : s.length = m - p := by rw [hs, List.length_take, List.length_drop]; omega
    refine fn_enter Try.func18 rfl 77 rfl fun w0 h0 => ?_
    refine wpc_seq ?_
    refine wpc_region [0, 1, 2] (by kernel_rfl) ?_
    refine wpr_run (l₂ := []) true [0, 1, 2] [] [(6, Value.int IntKind.i64 0), (5, Value.int IntKind.i64 0), (4, Value.slice none 0 0), (0, Value.slice (some { block := g, off := off }) l0.length c0), (1, Value.int IntKind.i64 (↑p : Int))] [ro (some { block := g, off := off }) (u8s l0)] [] (by kernel_rfl) (by kernel_rfl) trivial ?_
    refine wpr_nil ?_
    refine nx_then ?_
    refine wpc_seq ?_
    refine wpc_seq ?_
    refine wpc_region [0, 1, 2, 3, 4, 5, 6, 7] (by kernel_rfl) ?_
    refine wpr_run (l₂ := []) true [0, 1, 2, 3, 4, 5, 6, 7] [] [(18, Value.bool (decide ((↑p : Int) > (↑l0.length : Int)))), (6, Value.int IntKind.i64 0), (5, Value.int IntKind.i64 0), (4, Value.slice none 0 0), (0, Value.slice (some { block := g, off := off }) l0.length c0), (1, Value.int IntKind.i64 (↑p : Int))] [ro (some { block := g, off := off }) (u8s l0)] [] (by kernel_rfl) (by kernel_rfl) trivial ?_
    refine wpr_nil ?_
    refine nx_then ?_
    refine wpc_ent (ent_set 18 (Value.bool (decide ((↑p : Int) > (↑l0.length : Int)))) (Value.bool false) (by kernel_rfl) (congrArg _ (decide_eq_false (by omega)))) ?_
    refine wpc_false (by kernel_rfl) ?_
    refine wpc_skip ?_
    refine nx_then ?_
    refine wpc_seq ?_
    refine wpc_region [0, 1, 2, 3, 4, 5, 6, 7, 8, 9] (by kernel_rfl) ?_
    refine wpr_run (l₂ := [8, 9]) true [0, 1, 2, 3, 4, 5, 6, 7] [] ([(26, Value.slice (some { block := g, off := sOff off (↑p : Int) (↑c0 : Int) 1 }) ((if (↑p : Int) + 11 < (↑l0.length : Int) then (↑p : Int) + 11 else (↑l0.length : Int)) - (↑p : Int)).toNat ((↑c0 : Int) - (↑p : Int)).toNat), (6, Value.int IntKind.i64 0), (5, Value.int IntKind.i64 0), (4, Value.slice none 0 0), (0, Value.slice (some { block := g, off := off }) l0.length c0), (1, Value.int IntKind.i64 (↑p : Int))]) [ro (some { block := g, off := off }) (u8s l0)] ([inI64 ((↑p : Int) + (11 : Int)), ((0 : Int) ≤ if (↑p : Int) + (11 : Int) < (↑l0.length : Int) then (↑p : Int) + (11 : Int) else (↑l0.length : Int)) ∧ (if (↑p : Int) + (11 : Int) < (↑l0.length : Int) then (↑p : Int) + (11 : Int) else (↑l0.length : Int)) ≤ (↑c0 : Int), (0 : Int) ≤ (↑p : Int) ∧ (↑p : Int) ≤ if (↑p : Int) + (11 : Int) < (↑l0.length : Int) then (↑p : Int) + (11 : Int) else (↑l0.length : Int)]) (by kernel_rfl) (by kernel_rfl) ⟨by unfold inI64; omega, by omega, by omega, trivial⟩ ?_
    refine wpr_ent (ent_set 26 (Value.slice (some { block := g, off := sOff off (↑p : Int) (↑c0 : Int) 1 }) ((if (↑p : Int) + 11 < (↑l0.length : Int) then (↑p : Int) + 11 else (↑l0.length : Int)) - (↑p : Int)).toNat ((↑c0 : Int) - (↑p : Int)).toNat) (Value.slice (some ⟨g, sOff off (p : Int) (c0 : Int) 1, none⟩) s.length (c0 - p)) (by kernel_rfl) (by rw [hsl]; congr 1 <;> (try split) <;> omega)) ?_
    refine wpr_ent (ent_copy 0 (ro (some ⟨g, sOff off (p : Int) (c0 : Int) 1, none⟩) (u8s s)) rfl (fun h => h) (by rw [hs]; exact view_win p 11 c0 hcap)) ?_
    refine wpr_call (dst := some 27) (rest := [ro (some { block := g, off := sOff off (↑p : Int) (↑c0 : Int) 1 }) (u8s s), ro (some { block := g, off := off }) (u8s l0)]) (by kernel_rfl) (NewReader_spec (some ⟨g, sOff off (p : Int) (c0 : Int) 1, none⟩) (c0 - p) s (by intro e; cases e)) (Give.view (c := (ro (some { block := g, off := sOff off (↑p : Int) (↑c0 : Int) 1 }) (u8s s))) (give (pre := []) (rest := [ro (some { block := g, off := sOff off (↑p : Int) (↑c0 : Int) 1 }) (u8s s), ro (some { block := g, off := off }) (u8s l0)]) [] (by kernel_rfl)) 0 (by kernel_rfl) view_ro) ?_
    rintro v _ ⟨r, rfl, rfl⟩
    refine wpr_run (l₂ := []) true [9] [] [(7, Value.pointer (some { block := r, off := 0 })), (6, Value.int IntKind.i64 0), (5, Value.int IntKind.i64 0), (4, Value.slice none 0 0), (0, Value.slice (some { block := g, off := off }) l0.length c0), (1, Value.int IntKind.i64 (↑p : Int))] [Ch.blk r 75 [Value.bool true, Value.string (mkS s), Value.int IntKind.i64 0, Value.int IntKind.i64 0], ro (some { block := g, off := sOff off (↑p : Int) (↑c0 : Int) 1 }) (u8s s), ro (some { block := g, off := off }) (u8s l0)] [] (by kernel_rfl) (by kernel_rfl) trivial ?_
    refine wpr_nil ?_
    refine nx_then ?_
    refine wpc_seq ?_
    refine wpc_region [0, 1, 2] (by kernel_rfl) ?_
    refine wpr_run (l₂ := [1, 2]) true [0] [] [(28, Value.pointer (some { block := r, off := 0 })), (7, Value.pointer (some { block := r, off := 0 })), (6, Value.int IntKind.i64 0), (5, Value.int IntKind.i64 0), (4, Value.slice none 0 0), (0, Value.slice (some { block := g, off := off }) l0.length c0), (1, Value.int IntKind.i64 (↑p : Int))] [Ch.blk r 75 [Value.bool true, Value.string (mkS s), Value.int IntKind.i64 0, Value.int IntKind.i64 0], ro (some { block := g, off := sOff off (↑p : Int) (↑c0 : Int) 1 }) (u8s s), ro (some { block := g, off := off }) (u8s l0)] [] (by kernel_rfl) (by kernel_rfl) trivial ?_
    refine wpr_call (dst := some 29) (rest := [ro (some { block := g, off := sOff off (↑p : Int) (↑c0 : Int) 1 }) (u8s s), ro (some { block := g, off := off }) (u8s l0)]) (by kernel_rfl) (Count_spec r 0 s 0 1048576 (Nat.zero_le _) (by omega)) (give [0] (by kernel_rfl)) ?_
    rintro v _ ⟨rfl, rfl⟩
    obtain ⟨q, hq⟩ : ∃ q, q = cnt s 1048576 := ⟨_, rfl⟩
    simp only [List.drop_zero, ← hq]
    by_cases hqe : q.2.2 = 0
    · have er : rd 0 0 0 q = (q.1, q.2.1.toNat, 0) := by simp [rd, hqe]
      rw [er]
      have hok := cnt_ok s 1048576
      rw [← hq] at hok
      obtain ⟨_, hq1, hq2, hq3⟩ : q.2.2 = 0 ∧ 0 ≤ q.1 ∧ 0 < q.2.1 ∧ q.2.1 ≤ s.length := by
        rcases hok with h | ⟨_, _, h⟩
        · exact h
        · exact absurd hqe h
      have hmost := (cnt_num s 1048576 q.1 q.2.1 (by rw [← hq, ← hqe])).2.2
      obtain ⟨x, u, z⟩ := q
      dsimp only at hq1 hq2 hq3 hqe hmost ⊢
      obtain ⟨N, rfl⟩ : ∃ N : Nat, x = N := ⟨x.toNat, by omega⟩
      obtain ⟨U, rfl⟩ : ∃ U : Nat, u = U := ⟨u.toNat, by omega⟩
      subst hqe
      have hN : N ≤ 1048576 := by omega
      have hU : U ≤ s.length := by omega
      rw [Int.toNat_natCast]
      refine wpr_run (l₂ := []) true [2] [] [(8, Value.int IntKind.i64 (↑N : Int)), (7, Value.pointer (some { block := r, off := 0 })), (6, Value.int IntKind.i64 0), (5, Value.int IntKind.i64 0), (4, Value.slice none 0 0), (0, Value.slice (some { block := g, off := off }) l0.length c0), (1, Value.int IntKind.i64 (↑p : Int))] [Ch.blk r 75 [Value.bool true, Value.string (mkS s), Value.int IntKind.i64 (↑U : Int), Value.int IntKind.i64 0], ro (some { block := g, off := sOff off (↑p : Int) (↑c0 : Int) 1 }) (u8s s), ro (some { block := g, off := off }) (u8s l0)] [] (by kernel_rfl) (by kernel_rfl) trivial ?_
      refine wpr_nil ?_
      refine nx_then ?_
      refine wpc_seq ?_
      refine wpc_seq ?_
      refine wpc_region [0, 1, 2] (by kernel_rfl) ?_
      refine wpr_run (l₂ := [1, 2]) true [0] [] [(30, Value.pointer (some { block := r, off := 0 })), (8, Value.int IntKind.i64 (↑N : Int)), (7, Value.pointer (some { block := r, off := 0 })), (6, Value.int IntKind.i64 0), (5, Value.int IntKind.i64 0), (4, Value.slice none 0 0), (0, Value.slice (some { block := g, off := off }) l0.length c0), (1, Value.int IntKind.i64 (↑p : Int))] [Ch.blk r 75 [Value.bool true, Value.string (mkS s), Value.int IntKind.i64 (↑U : Int), Value.int IntKind.i64 0], ro (some { block := g, off := sOff off (↑p : Int) (↑c0 : Int) 1 }) (u8s s), ro (some { block := g, off := off }) (u8s l0)] [] (by kernel_rfl) (by kernel_rfl) trivial ?_
      refine wpr_call (dst := some 31) (rest := [ro (some { block := g, off := sOff off (↑p : Int) (↑c0 : Int) 1 }) (u8s s), ro (some { block := g, off := off }) (u8s l0)]) (by kernel_rfl) (Err_spec r s U 0) (give [0] (by kernel_rfl)) ?_
      rintro v _ ⟨rfl, rfl⟩
      refine wpr_run (l₂ := []) true [2] [] [(9, Value.int IntKind.i64 0), (8, Value.int IntKind.i64 (↑N : Int)), (7, Value.pointer (some { block := r, off := 0 })), (6, Value.int IntKind.i64 0), (5, Value.int IntKind.i64 0), (4, Value.slice none 0 0), (0, Value.slice (some { block := g, off := off }) l0.length c0), (1, Value.int IntKind.i64 (↑p : Int))] [Ch.blk r 75 [Value.bool true, Value.string (mkS s), Value.int IntKind.i64 (↑U : Int), Value.int IntKind.i64 0], ro (some { block := g, off := sOff off (↑p : Int) (↑c0 : Int) 1 }) (u8s s), ro (some { block := g, off := off }) (u8s l0)] [] (by kernel_rfl) (by kernel_rfl) trivial ?_
      refine wpr_nil ?_
      refine nx_then ?_
      refine wpc_seq ?_
      refine wpc_region [0, 1] (by kernel_rfl) ?_
      refine wpr_run (l₂ := []) true [0, 1] [] [(33, Value.bool false), (9, Value.int IntKind.i64 0), (8, Value.int IntKind.i64 (↑N : Int)), (7, Value.pointer (some { block := r, off := 0 })), (6, Value.int IntKind.i64 0), (5, Value.int IntKind.i64 0), (4, Value.slice none 0 0), (0, Value.slice (some { block := g, off := off }) l0.length c0), (1, Value.int IntKind.i64 (↑p : Int))] [Ch.blk r 75 [Value.bool true, Value.string (mkS s), Value.int IntKind.i64 (↑U : Int), Value.int IntKind.i64 0], ro (some { block := g, off := sOff off (↑p : Int) (↑c0 : Int) 1 }) (u8s s), ro (some { block := g, off := off }) (u8s l0)] [] (by kernel_rfl) (by kernel_rfl) trivial ?_
      refine wpr_nil ?_
      refine nx_then ?_
      refine wpc_false (by kernel_rfl) ?_
      refine wpc_skip ?_
      refine nx_then ?_
      refine wpc_seq ?_
      refine wpc_region [0, 1, 2, 3, 4] (by kernel_rfl) ?_
      refine wpr_run (l₂ := [2, 3, 4]) true [0, 1] [] [(36, Value.pointer (some { block := r, off := 0 })), (35, Value.int IntKind.i64 (↑p : Int)), (8, Value.int IntKind.i64 (↑N : Int)), (6, Value.int IntKind.i64 0), (5, Value.int IntKind.i64 0), (4, Value.slice none 0 0), (0, Value.slice (some { block := g, off := off }) l0.length c0), (1, Value.int IntKind.i64 (↑p : Int))] [Ch.blk r 75 [Value.bool true, Value.string (mkS s), Value.int IntKind.i64 (↑U : Int), Value.int IntKind.i64 0], ro (some { block := g, off := sOff off (↑p : Int) (↑c0 : Int) 1 }) (u8s s), ro (some { block := g, off := off }) (u8s l0)] [] (by kernel_rfl) (by kernel_rfl) trivial ?_
      refine wpr_call (dst := some 37) (rest := [ro (some { block := g, off := sOff off (↑p : Int) (↑c0 : Int) 1 }) (u8s s), ro (some { block := g, off := off }) (u8s l0)]) (by kernel_rfl) (At_spec r s U 0) (give [0] (by kernel_rfl)) ?_
      rintro v _ ⟨rfl, rfl⟩
      refine wpr_run (l₂ := []) true [3, 4] [] ([(10, Value.int IntKind.i64 ((↑p : Int) + (↑U : Int))), (8, Value.int IntKind.i64 (↑N : Int)), (6, Value.int IntKind.i64 0), (5, Value.int IntKind.i64 0), (4, Value.slice none 0 0), (0, Value.slice (some { block := g, off := off }) l0.length c0), (1, Value.int IntKind.i64 (↑p : Int))]) [Ch.blk r 75 [Value.bool true, Value.string (mkS s), Value.int IntKind.i64 (↑U : Int), Value.int IntKind.i64 0], ro (some { block := g, off := sOff off (↑p : Int) (↑c0 : Int) 1 }) (u8s s), ro (some { block := g, off := off }) (u8s l0)] ([inI64 ((↑p : Int) + (↑U : Int))]) (by kernel_rfl) (by kernel_rfl) ⟨by unfold inI64; omega, trivial⟩ ?_
      refine wpr_nil ?_
      refine nx_then ?_
      refine wpc_seq ?_
      refine wpc_seq ?_
      refine wpc_region [0, 1, 2, 3, 4, 5, 6] (by kernel_rfl) ?_
      refine wpr_run (l₂ := []) true [0, 1, 2, 3, 4, 5, 6] [] ([(45, Value.bool (decide ((↑l0.length : Int) - ((↑p : Int) + (↑U : Int)) < (↑N : Int) + 4))), (10, Value.int IntKind.i64 ((↑p : Int) + (↑U : Int))), (8, Value.int IntKind.i64 (↑N : Int)), (6, Value.int IntKind.i64 0), (5, Value.int IntKind.i64 0), (4, Value.slice none 0 0), (0, Value.slice (some { block := g, off := off }) l0.length c0), (1, Value.int IntKind.i64 (↑p : Int))]) [Ch.blk r 75 [Value.bool true, Value.string (mkS s), Value.int IntKind.i64 (↑U : Int), Value.int IntKind.i64 0], ro (some { block := g, off := sOff off (↑p : Int) (↑c0 : Int) 1 }) (u8s s), ro (some { block := g, off := off }) (u8s l0)] ([inI64 ((↑l0.length : Int) - ((↑p : Int) + (↑U : Int))), inI64 ((↑N : Int) + (4 : Int))]) (by kernel_rfl) (by kernel_rfl) ⟨by unfold inI64; omega, by unfold inI64; omega, trivial⟩ ?_
      refine wpr_nil ?_
      refine nx_then ?_
      by_cases hsh : l0.length < p + U + N + 4
      · have e : getL l0 p = ([], 0, 3) := by unfold getL; rw [if_neg (by omega)]; simp only [Int.toNat_natCast, ← hs, ← hq]; rw [if_neg (by simp), if_pos hsh]
        rw [e]
        refine wpc_ent (ent_set 45 (Value.bool (decide ((↑l0.length : Int) - ((↑p : Int) + (↑U : Int)) < (↑N : Int) + 4))) (Value.bool true) (by kernel_rfl) (congrArg _ (by rw [decide_eq_true_eq]; omega))) ?_
        refine wpc_true (by kernel_rfl) ?_
        refine wpc_seq ?_
        refine wpc_region [0, 1, 2] (by kernel_rfl) ?_
        refine wpr_run (l₂ := []) true [0, 1, 2] [] ([(6, Value.int IntKind.i64 3), (5, Value.int IntKind.i64 0), (4, Value.slice none 0 0), (10, Value.int IntKind.i64 ((↑p : Int) + (↑U : Int))), (8, Value.int IntKind.i64 (↑N : Int)), (0, Value.slice (some { block := g, off := off }) l0.length c0), (1, Value.int IntKind.i64 (↑p : Int))]) [Ch.blk r 75 [Value.bool true, Value.string (mkS s), Value.int IntKind.i64 (↑U : Int), Value.int IntKind.i64 0], ro (some { block := g, off := sOff off (↑p : Int) (↑c0 : Int) 1 }) (u8s s), ro (some { block := g, off := off }) (u8s l0)] [] (by kernel_rfl) (by kernel_rfl) trivial ?_
        refine wpr_nil ?_
        refine nx_then ?_
        refine wpc_ret ?_
        refine nx_then_ret ?_
        refine nx_ent (ent_nil 5 1) ?_
        refine nx_end (hp' := [row 5 1 none 0 0 []]) (rest := [Ch.blk r 75 [Value.bool true, Value.string (mkS s), Value.int IntKind.i64 (↑U : Int), Value.int IntKind.i64 0], ro (some { block := g, off := sOff off (↑p : Int) (↑c0 : Int) 1 }) (u8s s), ro (some { block := g, off := off }) (u8s l0)]) [] ((Value.tuple #[Value.slice none 0 0, Value.int IntKind.i64 0, Value.int IntKind.i64 3])) (by kernel_rfl) (by kernel_rfl) (give [0] (by kernel_rfl)) (by first | ((repeat (first | exact trivial | refine ⟨trivial, ?_⟩)); done) | assumption) ?_ (.inr rfl)
        exact ⟨none, 0, fun _ => rfl, rfl, rfl⟩
      refine wpc_ent (ent_set 45 (Value.bool (decide ((↑l0.length : Int) - ((↑p : Int) + (↑U : Int)) < (↑N : Int) + 4))) (Value.bool false) (by kernel_rfl) (congrArg _ (by rw [decide_eq_false_iff_not]; omega))) ?_
      refine wpc_false (by kernel_rfl) ?_
      refine wpc_skip ?_
      refine nx_then ?_
      refine wpc_seq ?_
      refine wpc_seq ?_
      obtain ⟨b0, b1, b2, b3, hb⟩ : ∃ b0 b1 b2 b3, (l0.drop (p + U + N)).take 4 = [b0, b1, b2, b3] := by
        have h4 : ((l0.drop (p + U + N)).take 4).length = 4 := by rw [List.length_take, List.length_drop]; omega
        match (l0.drop (p + U + N)).take 4, h4 with
        | [b0, b1, b2, b3], _ => exact ⟨b0, b1, b2, b3, rfl⟩
      have hg : getL l0 p = if [b0, b1, b2, b3] ≠ lowL (more 0 ((l0.drop p).take (U + N))) then ([], 0, 4) else ((l0.drop (p + U)).take N, ((p + U + N + 4 : Nat) : Int), 0) := by
        unfold getL; rw [if_neg (by omega)]; simp only [Int.toNat_natCast, ← hs, ← hq, hb]; rw [if_neg (by simp), if_neg hsh]
      have hbe : ((l0.drop (p + U)).take N).length = N := by rw [List.length_take, List.length_drop]; omega
      refine wpc_ent (ent_copy 2 (ro (some ⟨g, sOff off ((p + U : Nat) : Int) (c0 : Int) 1, none⟩) (u8s ((l0.drop (p + U)).take N))) rfl (fun h => h) (view_win (p + U) N c0 hcap)) ?_
      refine wpc_ent (ent_copy 3 (ro (some ⟨g, sOff off ((p + U + N : Nat) : Int) (c0 : Int) 1, none⟩) (u8s [b0, b1, b2, b3])) rfl (fun h => h) (by rw [← hb]; exact view_win (p + U + N) 4 c0 hcap)) ?_
      refine wpc_ent (ent_copy 4 (ro (some ⟨g, sOff off (p : Int) (c0 : Int) 1, none⟩) (u8s ((l0.drop p).take (U + N)))) rfl (fun h => h) (view_win p (U + N) c0 hcap)) ?_
      refine wpc_draw (by kernel_rfl) ([ro (some { block := g, off := sOff off (↑p : Int) (↑c0 : Int) 1 }) (u8s (List.take (U + N) (List.drop p l0))), ro (some { block := g, off := sOff off (↑(p + U + N) : Int) (↑c0 : Int) 1 }) (u8s [b0, b1, b2, b3])]) (sub_of [0, 1] (by kernel_rfl)) 20 (by kernel_rfl) ?_
      refine wpa_take true [(0, []), (1, []), (2, []), (3, []), (4, []), (5, []), (6, []), (7, []), (8, []), (11, []), (12, []), (13, []), (14, []), (15, []), (16, [])] ([(62, Value.slice (some { block := g, off := sOff off (↑p : Int) (↑c0 : Int) 1 }) ((↑p : Int) + (↑U : Int) + (↑N : Int) - (↑p : Int)).toNat ((↑c0 : Int) - (↑p : Int)).toNat), (54, Value.slice (some { block := g, off := sOff off ((↑p : Int) + (↑U : Int) + (↑N : Int)) (↑c0 : Int) 1 }) ((↑p : Int) + (↑U : Int) + (↑N : Int) + 4 - ((↑p : Int) + (↑U : Int) + (↑N : Int))).toNat ((↑c0 : Int) - ((↑p : Int) + (↑U : Int) + (↑N : Int))).toNat), (10, Value.int IntKind.i64 ((↑p : Int) + (↑U : Int))), (8, Value.int IntKind.i64 (↑N : Int)), (6, Value.int IntKind.i64 0), (5, Value.int IntKind.i64 0), (4, Value.slice none 0 0), (0, Value.slice (some { block := g, off := off }) l0.length c0)]) (#[true, true, true, true, true, true, true, true, true, false, false, true, true, true, true, true, true, false, false, false]) ([inI64 ((↑p : Int) + (↑U : Int) + (↑N : Int)), inI64 ((↑p : Int) + (↑U : Int) + (↑N : Int)), inI64 ((↑p : Int) + (↑U : Int) + (↑N : Int) + (4 : Int)), (0 : Int) ≤ (↑p : Int) + (↑U : Int) + (↑N : Int) + (4 : Int) ∧ (↑p : Int) + (↑U : Int) + (↑N : Int) + (4 : Int) ≤ (↑c0 : Int), (0 : Int) ≤ (↑p : Int) + (↑U : Int) + (↑N : Int) ∧ (↑p : Int) + (↑U : Int) + (↑N : Int) ≤ (↑p : Int) + (↑U : Int) + (↑N : Int) + (4 : Int), inI64 ((↑p : Int) + (↑U : Int) + (↑N : Int)), (0 : Int) ≤ (↑p : Int) + (↑U : Int) + (↑N : Int) ∧ (↑p : Int) + (↑U : Int) + (↑N : Int) ≤ (↑c0 : Int), (0 : Int) ≤ (↑p : Int) ∧ (↑p : Int) ≤ (↑p : Int) + (↑U : Int) + (↑N : Int)]) (n := 5) (by kernel_rfl) (by kernel_rfl) (by kernel_rfl) ⟨by unfold inI64; omega, by unfold inI64; omega, by unfold inI64; omega, by omega, by omega, by unfold inI64; omega, by omega, by omega, trivial⟩ ?_
      have hse : ((l0.drop p).take (U + N)).length = U + N := by rw [List.length_take, List.length_drop]; omega
      refine wpa_ent (ent_set 54 (Value.slice (some { block := g, off := sOff off ((↑p : Int) + (↑U : Int) + (↑N : Int)) (↑c0 : Int) 1 }) ((↑p : Int) + (↑U : Int) + (↑N : Int) + 4 - ((↑p : Int) + (↑U : Int) + (↑N : Int))).toNat ((↑c0 : Int) - ((↑p : Int) + (↑U : Int) + (↑N : Int))).toNat) (Value.slice (some ⟨g, sOff off ((p + U + N : Nat) : Int) (c0 : Int) 1, none⟩) 4 (c0 - (p + U + N))) (by kernel_rfl) (by congr 1 <;> omega)) ?_
      refine wpa_ent (ent_set 62 (Value.slice (some { block := g, off := sOff off (↑p : Int) (↑c0 : Int) 1 }) ((↑p : Int) + (↑U : Int) + (↑N : Int) - (↑p : Int)).toNat ((↑c0 : Int) - (↑p : Int)).toNat) (Value.slice (some ⟨g, sOff off (p : Int) (c0 : Int) 1, none⟩) ((l0.drop p).take (U + N)).length (c0 - p)) (by kernel_rfl) (by rw [hse]; congr 1 <;> omega)) ?_
      refine wpa_two (i := 9) (j := 17) (n := 4) (by kernel_rfl) ?_ ?_
      · refine wpi_one (n := 4) true 9 [] ([(55, Value.pointer (some { block := g, off := sOff off (↑(p + U + N) : Int) (↑c0 : Int) 1 })), (62, Value.slice (some { block := g, off := sOff off (↑p : Int) (↑c0 : Int) 1 }) (List.take (U + N) (List.drop p l0)).length (c0 - p)), (10, Value.int IntKind.i64 ((↑p : Int) + (↑U : Int))), (8, Value.int IntKind.i64 (↑N : Int)), (6, Value.int IntKind.i64 0), (5, Value.int IntKind.i64 0), (4, Value.slice none 0 0), (0, Value.slice (some { block := g, off := off }) l0.length c0)]) ([ro (some { block := g, off := sOff off (↑p : Int) (↑c0 : Int) 1 }) (u8s (List.take (U + N) (List.drop p l0))), ro (some { block := g, off := sOff off (↑(p + U + N) : Int) (↑c0 : Int) 1 }) (u8s [b0, b1, b2, b3]), ro (some { block := g, off := sOff off (↑(p + U) : Int) (↑c0 : Int) 1 }) (u8s (List.take N (List.drop (p + U) l0))), Ch.blk r 75 [Value.bool true, Value.string (mkS s), Value.int IntKind.i64 (↑U : Int), Value.int IntKind.i64 0], ro (some { block := g, off := sOff off (↑p : Int) (↑c0 : Int) 1 }) (u8s s), ro (some { block := g, off := off }) (u8s l0)]) [] (by kernel_rfl) (by kernel_rfl) trivial (sub_of [0, 1] (by kernel_rfl)) ?_
        refine wpa_two (i := 10) (j := 17) (n := 3) (by kernel_rfl) ?_ ?_
        · skip
          refine wpi_eq (i := 10) (ld (t := 56) (a := ({ block := g, off := sOff off (↑(p + U + N) : Int) (↑c0 : Int) 1 })) (dst := some 56) (by kernel_rfl) true 4 (by kernel_rfl) (by simp) [.int .u8 b0.toNat, .int .u8 b1.toNat, .int .u8 b2.toNat, .int .u8 b3.toNat] rfl (fun w h => ld_ro h 1 rfl 0 (by rfl))) (sub_of [0, 1] (by kernel_rfl)) ?_
          refine wpa_call (i := 17) (n := 2) (dst := some 63) (rest := ([ro (some { block := g, off := sOff off (↑p : Int) (↑c0 : Int) 1 }) (u8s (List.take (U + N) (List.drop p l0))), ro (some { block := g, off := sOff off (↑(p + U + N) : Int) (↑c0 : Int) 1 }) (u8s [b0, b1, b2, b3]), ro (some { block := g, off := sOff off (↑(p + U) : Int) (↑c0 : Int) 1 }) (u8s (List.take N (List.drop (p + U) l0))), Ch.blk r 75 [Value.bool true, Value.string (mkS s), Value.int IntKind.i64 (↑U : Int), Value.int IntKind.i64 0], ro (some { block := g, off := sOff off (↑p : Int) (↑c0 : Int) 1 }) (u8s s), ro (some { block := g, off := off }) (u8s l0)])) (by kernel_rfl) (by kernel_rfl) (Sum_spec (some ⟨g, sOff off (p : Int) (c0 : Int) 1, none⟩) (c0 - p) ((l0.drop p).take (U + N)) (by intro e; cases e) (by rw [List.length_take]; omega)) (Give.view (c := (ro (some { block := g, off := sOff off (↑p : Int) (↑c0 : Int) 1 }) (u8s (List.take (U + N) (List.drop p l0))))) (give (pre := []) (rest := ([ro (some { block := g, off := sOff off (↑p : Int) (↑c0 : Int) 1 }) (u8s (List.take (U + N) (List.drop p l0))), ro (some { block := g, off := sOff off (↑(p + U + N) : Int) (↑c0 : Int) 1 }) (u8s [b0, b1, b2, b3]), ro (some { block := g, off := sOff off (↑(p + U) : Int) (↑c0 : Int) 1 }) (u8s (List.take N (List.drop (p + U) l0))), Ch.blk r 75 [Value.bool true, Value.string (mkS s), Value.int IntKind.i64 (↑U : Int), Value.int IntKind.i64 0], ro (some { block := g, off := sOff off (↑p : Int) (↑c0 : Int) 1 }) (u8s s), ro (some { block := g, off := off }) (u8s l0)])) [] (by kernel_rfl)) 0 (by kernel_rfl) view_ro) (sub_of [0, 1] (by kernel_rfl)) ?_
          rintro v _ ⟨rfl, rfl⟩
          refine wpa_call (i := 18) (n := 1) (dst := some 64) (rest := ([ro (some { block := g, off := sOff off (↑p : Int) (↑c0 : Int) 1 }) (u8s (List.take (U + N) (List.drop p l0))), ro (some { block := g, off := sOff off (↑(p + U + N) : Int) (↑c0 : Int) 1 }) (u8s [b0, b1, b2, b3]), ro (some { block := g, off := sOff off (↑(p + U) : Int) (↑c0 : Int) 1 }) (u8s (List.take N (List.drop (p + U) l0))), Ch.blk r 75 [Value.bool true, Value.string (mkS s), Value.int IntKind.i64 (↑U : Int), Value.int IntKind.i64 0], ro (some { block := g, off := sOff off (↑p : Int) (↑c0 : Int) 1 }) (u8s s), ro (some { block := g, off := off }) (u8s l0)])) (by kernel_rfl) (by kernel_rfl) (low_spec (more 0 ((l0.drop p).take (U + N)))) (give [] (by kernel_rfl)) (sub_of [0, 1] (by kernel_rfl)) ?_
          rintro v _ ⟨rfl, rfl⟩
          refine wpa_eq (i := 19) (n := 0) (by kernel_rfl) (sneq (t := 56) (a := [b0, b1, b2, b3]) (b := (lowL (more 0 ((l0.drop p).take (U + N))))) (n := 4) (dst := some 65) (by rfl) (by kernel_rfl) rfl rfl) (sub_of [0, 1] (by kernel_rfl)) ?_
          refine wpa_done 0 (by kernel_rfl) ?_
          refine nx_then ?_
          by_cases hw : [b0, b1, b2, b3] = lowL (more 0 ((l0.drop p).take (U + N)))
          · rw [hg, if_neg (by rw [hw]; simp)]
            refine wpc_ent (ent_set 65 (Value.bool !decide ([b0, b1, b2, b3] = lowL (more 0 (List.take (U + N) (List.drop p l0))))) (Value.bool false) (by kernel_rfl) (congrArg _ (by rw [hw]; simp))) ?_
            refine wpc_false (by kernel_rfl) ?_
            refine wpc_skip ?_
            refine nx_then ?_
            refine wpc_seq ?_
            refine wpc_region [0, 1, 2, 3, 4, 5, 6, 7, 8, 9, 10, 11, 12, 13] (by kernel_rfl) ?_
            refine wpr_run (l₂ := [6, 7, 8, 9, 10, 11, 12, 13]) true [0, 1, 2, 3, 4, 5] [] ([(71, Value.slice (some { block := g, off := sOff off ((↑p : Int) + (↑U : Int)) (↑c0 : Int) 1 }) ((↑p : Int) + (↑U : Int) + (↑N : Int) - ((↑p : Int) + (↑U : Int))).toNat ((↑c0 : Int) - ((↑p : Int) + (↑U : Int))).toNat), (10, Value.int IntKind.i64 ((↑p : Int) + (↑U : Int))), (8, Value.int IntKind.i64 (↑N : Int)), (6, Value.int IntKind.i64 0), (5, Value.int IntKind.i64 0), (4, Value.slice none 0 0)]) ([ro (some { block := g, off := sOff off (↑p : Int) (↑c0 : Int) 1 }) (u8s (List.take (U + N) (List.drop p l0))), ro (some { block := g, off := sOff off (↑(p + U + N) : Int) (↑c0 : Int) 1 }) (u8s [b0, b1, b2, b3]), ro (some { block := g, off := sOff off (↑(p + U) : Int) (↑c0 : Int) 1 }) (u8s (List.take N (List.drop (p + U) l0))), Ch.blk r 75 [Value.bool true, Value.string (mkS s), Value.int IntKind.i64 (↑U : Int), Value.int IntKind.i64 0], ro (some { block := g, off := sOff off (↑p : Int) (↑c0 : Int) 1 }) (u8s s), ro (some { block := g, off := off }) (u8s l0)]) ([inI64 ((↑p : Int) + (↑U : Int) + (↑N : Int)), (0 : Int) ≤ (↑p : Int) + (↑U : Int) + (↑N : Int) ∧ (↑p : Int) + (↑U : Int) + (↑N : Int) ≤ (↑c0 : Int), (0 : Int) ≤ (↑p : Int) + (↑U : Int) ∧ (↑p : Int) + (↑U : Int) ≤ (↑p : Int) + (↑U : Int) + (↑N : Int)]) (by kernel_rfl) (by kernel_rfl) ⟨by unfold inI64; omega, by omega, by omega, trivial⟩ ?_
            refine wpr_ent (ent_set 71 (Value.slice (some { block := g, off := sOff off ((↑p : Int) + (↑U : Int)) (↑c0 : Int) 1 }) ((↑p : Int) + (↑U : Int) + (↑N : Int) - ((↑p : Int) + (↑U : Int))).toNat ((↑c0 : Int) - ((↑p : Int) + (↑U : Int))).toNat) (Value.slice (some ⟨g, sOff off ((p + U : Nat) : Int) (c0 : Int) 1, none⟩) ((l0.drop (p + U)).take N).length (c0 - (p + U))) (by kernel_rfl) (by rw [hbe]; congr 1 <;> omega)) ?_
            refine wpr_call (dst := some 72) (rest := ([ro (some { block := g, off := sOff off (↑p : Int) (↑c0 : Int) 1 }) (u8s (List.take (U + N) (List.drop p l0))), ro (some { block := g, off := sOff off (↑(p + U + N) : Int) (↑c0 : Int) 1 }) (u8s [b0, b1, b2, b3]), ro (some { block := g, off := sOff off (↑(p + U) : Int) (↑c0 : Int) 1 }) (u8s (List.take N (List.drop (p + U) l0))), Ch.blk r 75 [Value.bool true, Value.string (mkS s), Value.int IntKind.i64 (↑U : Int), Value.int IntKind.i64 0], ro (some { block := g, off := sOff off (↑p : Int) (↑c0 : Int) 1 }) (u8s s), ro (some { block := g, off := off }) (u8s l0)])) (by kernel_rfl) (Clone_spec (some ⟨g, sOff off ((p + U : Nat) : Int) (c0 : Int) 1, none⟩) (c0 - (p + U)) ((l0.drop (p + U)).take N) (by intro e; cases e) (by rw [hbe]; omega)) (Give.view (c := (ro (some { block := g, off := sOff off (↑(p + U) : Int) (↑c0 : Int) 1 }) (u8s (List.take N (List.drop (p + U) l0))))) (give (pre := []) (rest := ([ro (some { block := g, off := sOff off (↑p : Int) (↑c0 : Int) 1 }) (u8s (List.take (U + N) (List.drop p l0))), ro (some { block := g, off := sOff off (↑(p + U + N) : Int) (↑c0 : Int) 1 }) (u8s [b0, b1, b2, b3]), ro (some { block := g, off := sOff off (↑(p + U) : Int) (↑c0 : Int) 1 }) (u8s (List.take N (List.drop (p + U) l0))), Ch.blk r 75 [Value.bool true, Value.string (mkS s), Value.int IntKind.i64 (↑U : Int), Value.int IntKind.i64 0], ro (some { block := g, off := sOff off (↑p : Int) (↑c0 : Int) 1 }) (u8s s), ro (some { block := g, off := off }) (u8s l0)])) [] (by kernel_rfl)) 2 (by kernel_rfl) view_ro) ?_
            rintro v _ ⟨a', c', hn', rfl, rfl⟩
            refine wpr_run (l₂ := []) true [7, 8, 9, 10, 11, 12, 13] [] ([(6, Value.int IntKind.i64 0), (5, Value.int IntKind.i64 ((↑p : Int) + (↑U : Int) + (↑N : Int) + 4)), (4, Value.slice a' (List.take N (List.drop (p + U) l0)).length c')]) ([row 5 1 a' (List.take N (List.drop (p + U) l0)).length c' (u8s (List.take N (List.drop (p + U) l0))), ro (some { block := g, off := sOff off (↑p : Int) (↑c0 : Int) 1 }) (u8s (List.take (U + N) (List.drop p l0))), ro (some { block := g, off := sOff off (↑(p + U + N) : Int) (↑c0 : Int) 1 }) (u8s [b0, b1, b2, b3]), ro (some { block := g, off := sOff off (↑(p + U) : Int) (↑c0 : Int) 1 }) (u8s (List.take N (List.drop (p + U) l0))), Ch.blk r 75 [Value.bool true, Value.string (mkS s), Value.int IntKind.i64 (↑U : Int), Value.int IntKind.i64 0], ro (some { block := g, off := sOff off (↑p : Int) (↑c0 : Int) 1 }) (u8s s), ro (some { block := g, off := off }) (u8s l0)]) ([inI64 ((↑p : Int) + (↑U : Int) + (↑N : Int)), inI64 ((↑p : Int) + (↑U : Int) + (↑N : Int) + (4 : Int))]) (by kernel_rfl) (by kernel_rfl) ⟨by unfold inI64; omega, by unfold inI64; omega, trivial⟩ ?_
            refine wpr_nil ?_
            refine nx_then ?_
            refine wpc_ret ?_
            refine nx_end (hp' := ([row 5 1 a' (List.take N (List.drop (p + U) l0)).length c' (u8s (List.take N (List.drop (p + U) l0)))])) (rest := ([ro (some { block := g, off := sOff off (↑p : Int) (↑c0 : Int) 1 }) (u8s (List.take (U + N) (List.drop p l0))), ro (some { block := g, off := sOff off (↑(p + U + N) : Int) (↑c0 : Int) 1 }) (u8s [b0, b1, b2, b3]), ro (some { block := g, off := sOff off (↑(p + U) : Int) (↑c0 : Int) 1 }) (u8s (List.take N (List.drop (p + U) l0))), Ch.blk r 75 [Value.bool true, Value.string (mkS s), Value.int IntKind.i64 (↑U : Int), Value.int IntKind.i64 0], ro (some { block := g, off := sOff off (↑p : Int) (↑c0 : Int) 1 }) (u8s s), ro (some { block := g, off := off }) (u8s l0)])) [] ((Value.tuple #[Value.slice a' (List.take N (List.drop (p + U) l0)).length c', Value.int IntKind.i64 ((↑p : Int) + (↑U : Int) + (↑N : Int) + 4), Value.int IntKind.i64 0])) (by kernel_rfl) (by kernel_rfl) (give [0] (by kernel_rfl)) (by first | ((repeat (first | exact trivial | refine ⟨trivial, ?_⟩)); done) | assumption) ?_ (.inr rfl)
            exact ⟨a', c', fun e => (nomatch hn'.1 e), by simp, rfl⟩
          · rw [hg, if_pos hw]
            refine wpc_ent (ent_set 65 (Value.bool !decide ([b0, b1, b2, b3] = lowL (more 0 (List.take (U + N) (List.drop p l0))))) (Value.bool true) (by kernel_rfl) (congrArg _ (by rw [Bool.not_eq_true', decide_eq_false_iff_not]; exact hw))) ?_
            refine wpc_true (by kernel_rfl) ?_
            refine wpc_seq ?_
            refine wpc_region [0, 1, 2] (by kernel_rfl) ?_
            refine wpr_run (l₂ := []) true [0, 1, 2] [] ([(6, Value.int IntKind.i64 4), (5, Value.int IntKind.i64 0), (4, Value.slice none 0 0), (10, Value.int IntKind.i64 ((↑p : Int) + (↑U : Int))), (8, Value.int IntKind.i64 (↑N : Int)), (0, Value.slice (some { block := g, off := off }) l0.length c0)]) ([ro (some { block := g, off := sOff off (↑p : Int) (↑c0 : Int) 1 }) (u8s (List.take (U + N) (List.drop p l0))), ro (some { block := g, off := sOff off (↑(p + U + N) : Int) (↑c0 : Int) 1 }) (u8s [b0, b1, b2, b3]), ro (some { block := g, off := sOff off (↑(p + U) : Int) (↑c0 : Int) 1 }) (u8s (List.take N (List.drop (p + U) l0))), Ch.blk r 75 [Value.bool true, Value.string (mkS s), Value.int IntKind.i64 (↑U : Int), Value.int IntKind.i64 0], ro (some { block := g, off := sOff off (↑p : Int) (↑c0 : Int) 1 }) (u8s s), ro (some { block := g, off := off }) (u8s l0)]) [] (by kernel_rfl) (by kernel_rfl) trivial ?_
            refine wpr_nil ?_
            refine nx_then ?_
            refine wpc_ret ?_
            refine nx_then_ret ?_
            refine nx_ent (ent_nil 5 1) ?_
            refine nx_end (hp' := [row 5 1 none 0 0 []]) (rest := ([ro (some { block := g, off := sOff off (↑p : Int) (↑c0 : Int) 1 }) (u8s (List.take (U + N) (List.drop p l0))), ro (some { block := g, off := sOff off (↑(p + U + N) : Int) (↑c0 : Int) 1 }) (u8s [b0, b1, b2, b3]), ro (some { block := g, off := sOff off (↑(p + U) : Int) (↑c0 : Int) 1 }) (u8s (List.take N (List.drop (p + U) l0))), Ch.blk r 75 [Value.bool true, Value.string (mkS s), Value.int IntKind.i64 (↑U : Int), Value.int IntKind.i64 0], ro (some { block := g, off := sOff off (↑p : Int) (↑c0 : Int) 1 }) (u8s s), ro (some { block := g, off := off }) (u8s l0)])) [] ((Value.tuple #[Value.slice none 0 0, Value.int IntKind.i64 0, Value.int IntKind.i64 4])) (by kernel_rfl) (by kernel_rfl) (give [0] (by kernel_rfl)) (by first | ((repeat (first | exact trivial | refine ⟨trivial, ?_⟩)); done) | assumption) ?_ (.inr rfl)
            exact ⟨none, 0, fun _ => rfl, rfl, rfl⟩
        · skip
          refine wpi_call (i := 17) (dst := some 63) (rest := ([ro (some { block := g, off := sOff off (↑p : Int) (↑c0 : Int) 1 }) (u8s (List.take (U + N) (List.drop p l0))), ro (some { block := g, off := sOff off (↑(p + U + N) : Int) (↑c0 : Int) 1 }) (u8s [b0, b1, b2, b3]), ro (some { block := g, off := sOff off (↑(p + U) : Int) (↑c0 : Int) 1 }) (u8s (List.take N (List.drop (p + U) l0))), Ch.blk r 75 [Value.bool true, Value.string (mkS s), Value.int IntKind.i64 (↑U : Int), Value.int IntKind.i64 0], ro (some { block := g, off := sOff off (↑p : Int) (↑c0 : Int) 1 }) (u8s s), ro (some { block := g, off := off }) (u8s l0)])) (by kernel_rfl) (Sum_spec (some ⟨g, sOff off (p : Int) (c0 : Int) 1, none⟩) (c0 - p) ((l0.drop p).take (U + N)) (by intro e; cases e) (by rw [List.length_take]; omega)) (Give.view (c := (ro (some { block := g, off := sOff off (↑p : Int) (↑c0 : Int) 1 }) (u8s (List.take (U + N) (List.drop p l0))))) (give (pre := []) (rest := ([ro (some { block := g, off := sOff off (↑p : Int) (↑c0 : Int) 1 }) (u8s (List.take (U + N) (List.drop p l0))), ro (some { block := g, off := sOff off (↑(p + U + N) : Int) (↑c0 : Int) 1 }) (u8s [b0, b1, b2, b3]), ro (some { block := g, off := sOff off (↑(p + U) : Int) (↑c0 : Int) 1 }) (u8s (List.take N (List.drop (p + U) l0))), Ch.blk r 75 [Value.bool true, Value.string (mkS s), Value.int IntKind.i64 (↑U : Int), Value.int IntKind.i64 0], ro (some { block := g, off := sOff off (↑p : Int) (↑c0 : Int) 1 }) (u8s s), ro (some { block := g, off := off }) (u8s l0)])) [] (by kernel_rfl)) 0 (by kernel_rfl) view_ro) (sub_of [0, 1] (by kernel_rfl)) ?_
          rintro v _ ⟨rfl, rfl⟩
          refine wpa_two (i := 10) (j := 18) (n := 2) (by kernel_rfl) ?_ ?_
          · skip
            refine wpi_eq (i := 10) (ld (t := 56) (a := ({ block := g, off := sOff off (↑(p + U + N) : Int) (↑c0 : Int) 1 })) (dst := some 56) (by kernel_rfl) true 4 (by kernel_rfl) (by simp) [.int .u8 b0.toNat, .int .u8 b1.toNat, .int .u8 b2.toNat, .int .u8 b3.toNat] rfl (fun w h => ld_ro h 1 rfl 0 (by rfl))) (sub_of [0, 1] (by kernel_rfl)) ?_
            refine wpa_call (i := 18) (n := 1) (dst := some 64) (rest := ([ro (some { block := g, off := sOff off (↑p : Int) (↑c0 : Int) 1 }) (u8s (List.take (U + N) (List.drop p l0))), ro (some { block := g, off := sOff off (↑(p + U + N) : Int) (↑c0 : Int) 1 }) (u8s [b0, b1, b2, b3]), ro (some { block := g, off := sOff off (↑(p + U) : Int) (↑c0 : Int) 1 }) (u8s (List.take N (List.drop (p + U) l0))), Ch.blk r 75 [Value.bool true, Value.string (mkS s), Value.int IntKind.i64 (↑U : Int), Value.int IntKind.i64 0], ro (some { block := g, off := sOff off (↑p : Int) (↑c0 : Int) 1 }) (u8s s), ro (some { block := g, off := off }) (u8s l0)])) (by kernel_rfl) (by kernel_rfl) (low_spec (more 0 ((l0.drop p).take (U + N)))) (give [] (by kernel_rfl)) (sub_of [0, 1] (by kernel_rfl)) ?_
            rintro v _ ⟨rfl, rfl⟩
            refine wpa_eq (i := 19) (n := 0) (by kernel_rfl) (sneq (t := 56) (a := [b0, b1, b2, b3]) (b := (lowL (more 0 ((l0.drop p).take (U + N))))) (n := 4) (dst := some 65) (by rfl) (by kernel_rfl) rfl rfl) (sub_of [0, 1] (by kernel_rfl)) ?_
            refine wpa_done 0 (by kernel_rfl) ?_
            refine nx_then ?_
            by_cases hw : [b0, b1, b2, b3] = lowL (more 0 ((l0.drop p).take (U + N)))
            · rw [hg, if_neg (by rw [hw]; simp)]
              refine wpc_ent (ent_set 65 (Value.bool !decide ([b0, b1, b2, b3] = lowL (more 0 (List.take (U + N) (List.drop p l0))))) (Value.bool false) (by kernel_rfl) (congrArg _ (by rw [hw]; simp))) ?_
              refine wpc_false (by kernel_rfl) ?_
              refine wpc_skip ?_
              refine nx_then ?_
              refine wpc_seq ?_
              refine wpc_region [0, 1, 2, 3, 4, 5, 6, 7, 8, 9, 10, 11, 12, 13] (by kernel_rfl) ?_
              refine wpr_run (l₂ := [6, 7, 8, 9, 10, 11, 12, 13]) true [0, 1, 2, 3, 4, 5] [] ([(71, Value.slice (some { block := g, off := sOff off ((↑p : Int) + (↑U : Int)) (↑c0 : Int) 1 }) ((↑p : Int) + (↑U : Int) + (↑N : Int) - ((↑p : Int) + (↑U : Int))).toNat ((↑c0 : Int) - ((↑p : Int) + (↑U : Int))).toNat), (10, Value.int IntKind.i64 ((↑p : Int) + (↑U : Int))), (8, Value.int IntKind.i64 (↑N : Int)), (6, Value.int IntKind.i64 0), (5, Value.int IntKind.i64 0), (4, Value.slice none 0 0)]) ([ro (some { block := g, off := sOff off (↑p : Int) (↑c0 : Int) 1 }) (u8s (List.take (U + N) (List.drop p l0))), ro (some { block := g, off := sOff off (↑(p + U + N) : Int) (↑c0 : Int) 1 }) (u8s [b0, b1, b2, b3]), ro (some { block := g, off := sOff off (↑(p + U) : Int) (↑c0 : Int) 1 }) (u8s (List.take N (List.drop (p + U) l0))), Ch.blk r 75 [Value.bool true, Value.string (mkS s), Value.int IntKind.i64 (↑U : Int), Value.int IntKind.i64 0], ro (some { block := g, off := sOff off (↑p : Int) (↑c0 : Int) 1 }) (u8s s), ro (some { block := g, off := off }) (u8s l0)]) ([inI64 ((↑p : Int) + (↑U : Int) + (↑N : Int)), (0 : Int) ≤ (↑p : Int) + (↑U : Int) + (↑N : Int) ∧ (↑p : Int) + (↑U : Int) + (↑N : Int) ≤ (↑c0 : Int), (0 : Int) ≤ (↑p : Int) + (↑U : Int) ∧ (↑p : Int) + (↑U : Int) ≤ (↑p : Int) + (↑U : Int) + (↑N : Int)]) (by kernel_rfl) (by kernel_rfl) ⟨by unfold inI64; omega, by omega, by omega, trivial⟩ ?_
              refine wpr_ent (ent_set 71 (Value.slice (some { block := g, off := sOff off ((↑p : Int) + (↑U : Int)) (↑c0 : Int) 1 }) ((↑p : Int) + (↑U : Int) + (↑N : Int) - ((↑p : Int) + (↑U : Int))).toNat ((↑c0 : Int) - ((↑p : Int) + (↑U : Int))).toNat) (Value.slice (some ⟨g, sOff off ((p + U : Nat) : Int) (c0 : Int) 1, none⟩) ((l0.drop (p + U)).take N).length (c0 - (p + U))) (by kernel_rfl) (by rw [hbe]; congr 1 <;> omega)) ?_
              refine wpr_call (dst := some 72) (rest := ([ro (some { block := g, off := sOff off (↑p : Int) (↑c0 : Int) 1 }) (u8s (List.take (U + N) (List.drop p l0))), ro (some { block := g, off := sOff off (↑(p + U + N) : Int) (↑c0 : Int) 1 }) (u8s [b0, b1, b2, b3]), ro (some { block := g, off := sOff off (↑(p + U) : Int) (↑c0 : Int) 1 }) (u8s (List.take N (List.drop (p + U) l0))), Ch.blk r 75 [Value.bool true, Value.string (mkS s), Value.int IntKind.i64 (↑U : Int), Value.int IntKind.i64 0], ro (some { block := g, off := sOff off (↑p : Int) (↑c0 : Int) 1 }) (u8s s), ro (some { block := g, off := off }) (u8s l0)])) (by kernel_rfl) (Clone_spec (some ⟨g, sOff off ((p + U : Nat) : Int) (c0 : Int) 1, none⟩) (c0 - (p + U)) ((l0.drop (p + U)).take N) (by intro e; cases e) (by rw [hbe]; omega)) (Give.view (c := (ro (some { block := g, off := sOff off (↑(p + U) : Int) (↑c0 : Int) 1 }) (u8s (List.take N (List.drop (p + U) l0))))) (give (pre := []) (rest := ([ro (some { block := g, off := sOff off (↑p : Int) (↑c0 : Int) 1 }) (u8s (List.take (U + N) (List.drop p l0))), ro (some { block := g, off := sOff off (↑(p + U + N) : Int) (↑c0 : Int) 1 }) (u8s [b0, b1, b2, b3]), ro (some { block := g, off := sOff off (↑(p + U) : Int) (↑c0 : Int) 1 }) (u8s (List.take N (List.drop (p + U) l0))), Ch.blk r 75 [Value.bool true, Value.string (mkS s), Value.int IntKind.i64 (↑U : Int), Value.int IntKind.i64 0], ro (some { block := g, off := sOff off (↑p : Int) (↑c0 : Int) 1 }) (u8s s), ro (some { block := g, off := off }) (u8s l0)])) [] (by kernel_rfl)) 2 (by kernel_rfl) view_ro) ?_
              rintro v _ ⟨a', c', hn', rfl, rfl⟩
              refine wpr_run (l₂ := []) true [7, 8, 9, 10, 11, 12, 13] [] ([(6, Value.int IntKind.i64 0), (5, Value.int IntKind.i64 ((↑p : Int) + (↑U : Int) + (↑N : Int) + 4)), (4, Value.slice a' (List.take N (List.drop (p + U) l0)).length c')]) ([row 5 1 a' (List.take N (List.drop (p + U) l0)).length c' (u8s (List.take N (List.drop (p + U) l0))), ro (some { block := g, off := sOff off (↑p : Int) (↑c0 : Int) 1 }) (u8s (List.take (U + N) (List.drop p l0))), ro (some { block := g, off := sOff off (↑(p + U + N) : Int) (↑c0 : Int) 1 }) (u8s [b0, b1, b2, b3]), ro (some { block := g, off := sOff off (↑(p + U) : Int) (↑c0 : Int) 1 }) (u8s (List.take N (List.drop (p + U) l0))), Ch.blk r 75 [Value.bool true, Value.string (mkS s), Value.int IntKind.i64 (↑U : Int), Value.int IntKind.i64 0], ro (some { block := g, off := sOff off (↑p : Int) (↑c0 : Int) 1 }) (u8s s), ro (some { block := g, off := off }) (u8s l0)]) ([inI64 ((↑p : Int) + (↑U : Int) + (↑N : Int)), inI64 ((↑p : Int) + (↑U : Int) + (↑N : Int) + (4 : Int))]) (by kernel_rfl) (by kernel_rfl) ⟨by unfold inI64; omega, by unfold inI64; omega, trivial⟩ ?_
              refine wpr_nil ?_
              refine nx_then ?_
              refine wpc_ret ?_
              refine nx_end (hp' := ([row 5 1 a' (List.take N (List.drop (p + U) l0)).length c' (u8s (List.take N (List.drop (p + U) l0)))])) (rest := ([ro (some { block := g, off := sOff off (↑p : Int) (↑c0 : Int) 1 }) (u8s (List.take (U + N) (List.drop p l0))), ro (some { block := g, off := sOff off (↑(p + U + N) : Int) (↑c0 : Int) 1 }) (u8s [b0, b1, b2, b3]), ro (some { block := g, off := sOff off (↑(p + U) : Int) (↑c0 : Int) 1 }) (u8s (List.take N (List.drop (p + U) l0))), Ch.blk r 75 [Value.bool true, Value.string (mkS s), Value.int IntKind.i64 (↑U : Int), Value.int IntKind.i64 0], ro (some { block := g, off := sOff off (↑p : Int) (↑c0 : Int) 1 }) (u8s s), ro (some { block := g, off := off }) (u8s l0)])) [] ((Value.tuple #[Value.slice a' (List.take N (List.drop (p + U) l0)).length c', Value.int IntKind.i64 ((↑p : Int) + (↑U : Int) + (↑N : Int) + 4), Value.int IntKind.i64 0])) (by kernel_rfl) (by kernel_rfl) (give [0] (by kernel_rfl)) (by first | ((repeat (first | exact trivial | refine ⟨trivial, ?_⟩)); done) | assumption) ?_ (.inr rfl)
              exact ⟨a', c', fun e => (nomatch hn'.1 e), by simp, rfl⟩
            · rw [hg, if_pos hw]
              refine wpc_ent (ent_set 65 (Value.bool !decide ([b0, b1, b2, b3] = lowL (more 0 (List.take (U + N) (List.drop p l0))))) (Value.bool true) (by kernel_rfl) (congrArg _ (by rw [Bool.not_eq_true', decide_eq_false_iff_not]; exact hw))) ?_
              refine wpc_true (by kernel_rfl) ?_
              refine wpc_seq ?_
              refine wpc_region [0, 1, 2] (by kernel_rfl) ?_
              refine wpr_run (l₂ := []) true [0, 1, 2] [] ([(6, Value.int IntKind.i64 4), (5, Value.int IntKind.i64 0), (4, Value.slice none 0 0), (10, Value.int IntKind.i64 ((↑p : Int) + (↑U : Int))), (8, Value.int IntKind.i64 (↑N : Int)), (0, Value.slice (some { block := g, off := off }) l0.length c0)]) ([ro (some { block := g, off := sOff off (↑p : Int) (↑c0 : Int) 1 }) (u8s (List.take (U + N) (List.drop p l0))), ro (some { block := g, off := sOff off (↑(p + U + N) : Int) (↑c0 : Int) 1 }) (u8s [b0, b1, b2, b3]), ro (some { block := g, off := sOff off (↑(p + U) : Int) (↑c0 : Int) 1 }) (u8s (List.take N (List.drop (p + U) l0))), Ch.blk r 75 [Value.bool true, Value.string (mkS s), Value.int IntKind.i64 (↑U : Int), Value.int IntKind.i64 0], ro (some { block := g, off := sOff off (↑p : Int) (↑c0 : Int) 1 }) (u8s s), ro (some { block := g, off := off }) (u8s l0)]) [] (by kernel_rfl) (by kernel_rfl) trivial ?_
              refine wpr_nil ?_
              refine nx_then ?_
              refine wpc_ret ?_
              refine nx_then_ret ?_
              refine nx_ent (ent_nil 5 1) ?_
              refine nx_end (hp' := [row 5 1 none 0 0 []]) (rest := ([ro (some { block := g, off := sOff off (↑p : Int) (↑c0 : Int) 1 }) (u8s (List.take (U + N) (List.drop p l0))), ro (some { block := g, off := sOff off (↑(p + U + N) : Int) (↑c0 : Int) 1 }) (u8s [b0, b1, b2, b3]), ro (some { block := g, off := sOff off (↑(p + U) : Int) (↑c0 : Int) 1 }) (u8s (List.take N (List.drop (p + U) l0))), Ch.blk r 75 [Value.bool true, Value.string (mkS s), Value.int IntKind.i64 (↑U : Int), Value.int IntKind.i64 0], ro (some { block := g, off := sOff off (↑p : Int) (↑c0 : Int) 1 }) (u8s s), ro (some { block := g, off := off }) (u8s l0)])) [] ((Value.tuple #[Value.slice none 0 0, Value.int IntKind.i64 0, Value.int IntKind.i64 4])) (by kernel_rfl) (by kernel_rfl) (give [0] (by kernel_rfl)) (by first | ((repeat (first | exact trivial | refine ⟨trivial, ?_⟩)); done) | assumption) ?_ (.inr rfl)
              exact ⟨none, 0, fun _ => rfl, rfl, rfl⟩
          · skip
            refine wpi_call (i := 18) (dst := some 64) (rest := ([ro (some { block := g, off := sOff off (↑p : Int) (↑c0 : Int) 1 }) (u8s (List.take (U + N) (List.drop p l0))), ro (some { block := g, off := sOff off (↑(p + U + N) : Int) (↑c0 : Int) 1 }) (u8s [b0, b1, b2, b3]), ro (some { block := g, off := sOff off (↑(p + U) : Int) (↑c0 : Int) 1 }) (u8s (List.take N (List.drop (p + U) l0))), Ch.blk r 75 [Value.bool true, Value.string (mkS s), Value.int IntKind.i64 (↑U : Int), Value.int IntKind.i64 0], ro (some { block := g, off := sOff off (↑p : Int) (↑c0 : Int) 1 }) (u8s s), ro (some { block := g, off := off }) (u8s l0)])) (by kernel_rfl) (low_spec (more 0 ((l0.drop p).take (U + N)))) (give [] (by kernel_rfl)) (sub_of [0, 1] (by kernel_rfl)) ?_
            rintro v _ ⟨rfl, rfl⟩
            refine wpa_eq (i := 10) (n := 1) (by kernel_rfl) (ld (t := 56) (a := ({ block := g, off := sOff off (↑(p + U + N) : Int) (↑c0 : Int) 1 })) (dst := some 56) (by kernel_rfl) true 4 (by kernel_rfl) (by simp) [.int .u8 b0.toNat, .int .u8 b1.toNat, .int .u8 b2.toNat, .int .u8 b3.toNat] rfl (fun w h => ld_ro h 1 rfl 0 (by rfl))) (sub_of [0, 1] (by kernel_rfl)) ?_
            refine wpa_eq (i := 19) (n := 0) (by kernel_rfl) (sneq (t := 56) (a := [b0, b1, b2, b3]) (b := (lowL (more 0 ((l0.drop p).take (U + N))))) (n := 4) (dst := some 65) (by rfl) (by kernel_rfl) rfl rfl) (sub_of [0, 1] (by kernel_rfl)) ?_
            refine wpa_done 0 (by kernel_rfl) ?_
            refine nx_then ?_
            by_cases hw : [b0, b1, b2, b3] = lowL (more 0 ((l0.drop p).take (U + N)))
            · rw [hg, if_neg (by rw [hw]; simp)]
              refine wpc_ent (ent_set 65 (Value.bool !decide ([b0, b1, b2, b3] = lowL (more 0 (List.take (U + N) (List.drop p l0))))) (Value.bool false) (by kernel_rfl) (congrArg _ (by rw [hw]; simp))) ?_
              refine wpc_false (by kernel_rfl) ?_
              refine wpc_skip ?_
              refine nx_then ?_
              refine wpc_seq ?_
              refine wpc_region [0, 1, 2, 3, 4, 5, 6, 7, 8, 9, 10, 11, 12, 13] (by kernel_rfl) ?_
              refine wpr_run (l₂ := [6, 7, 8, 9, 10, 11, 12, 13]) true [0, 1, 2, 3, 4, 5] [] ([(71, Value.slice (some { block := g, off := sOff off ((↑p : Int) + (↑U : Int)) (↑c0 : Int) 1 }) ((↑p : Int) + (↑U : Int) + (↑N : Int) - ((↑p : Int) + (↑U : Int))).toNat ((↑c0 : Int) - ((↑p : Int) + (↑U : Int))).toNat), (10, Value.int IntKind.i64 ((↑p : Int) + (↑U : Int))), (8, Value.int IntKind.i64 (↑N : Int)), (6, Value.int IntKind.i64 0), (5, Value.int IntKind.i64 0), (4, Value.slice none 0 0)]) ([ro (some { block := g, off := sOff off (↑p : Int) (↑c0 : Int) 1 }) (u8s (List.take (U + N) (List.drop p l0))), ro (some { block := g, off := sOff off (↑(p + U + N) : Int) (↑c0 : Int) 1 }) (u8s [b0, b1, b2, b3]), ro (some { block := g, off := sOff off (↑(p + U) : Int) (↑c0 : Int) 1 }) (u8s (List.take N (List.drop (p + U) l0))), Ch.blk r 75 [Value.bool true, Value.string (mkS s), Value.int IntKind.i64 (↑U : Int), Value.int IntKind.i64 0], ro (some { block := g, off := sOff off (↑p : Int) (↑c0 : Int) 1 }) (u8s s), ro (some { block := g, off := off }) (u8s l0)]) ([inI64 ((↑p : Int) + (↑U : Int) + (↑N : Int)), (0 : Int) ≤ (↑p : Int) + (↑U : Int) + (↑N : Int) ∧ (↑p : Int) + (↑U : Int) + (↑N : Int) ≤ (↑c0 : Int), (0 : Int) ≤ (↑p : Int) + (↑U : Int) ∧ (↑p : Int) + (↑U : Int) ≤ (↑p : Int) + (↑U : Int) + (↑N : Int)]) (by kernel_rfl) (by kernel_rfl) ⟨by unfold inI64; omega, by omega, by omega, trivial⟩ ?_
              refine wpr_ent (ent_set 71 (Value.slice (some { block := g, off := sOff off ((↑p : Int) + (↑U : Int)) (↑c0 : Int) 1 }) ((↑p : Int) + (↑U : Int) + (↑N : Int) - ((↑p : Int) + (↑U : Int))).toNat ((↑c0 : Int) - ((↑p : Int) + (↑U : Int))).toNat) (Value.slice (some ⟨g, sOff off ((p + U : Nat) : Int) (c0 : Int) 1, none⟩) ((l0.drop (p + U)).take N).length (c0 - (p + U))) (by kernel_rfl) (by rw [hbe]; congr 1 <;> omega)) ?_
              refine wpr_call (dst := some 72) (rest := ([ro (some { block := g, off := sOff off (↑p : Int) (↑c0 : Int) 1 }) (u8s (List.take (U + N) (List.drop p l0))), ro (some { block := g, off := sOff off (↑(p + U + N) : Int) (↑c0 : Int) 1 }) (u8s [b0, b1, b2, b3]), ro (some { block := g, off := sOff off (↑(p + U) : Int) (↑c0 : Int) 1 }) (u8s (List.take N (List.drop (p + U) l0))), Ch.blk r 75 [Value.bool true, Value.string (mkS s), Value.int IntKind.i64 (↑U : Int), Value.int IntKind.i64 0], ro (some { block := g, off := sOff off (↑p : Int) (↑c0 : Int) 1 }) (u8s s), ro (some { block := g, off := off }) (u8s l0)])) (by kernel_rfl) (Clone_spec (some ⟨g, sOff off ((p + U : Nat) : Int) (c0 : Int) 1, none⟩) (c0 - (p + U)) ((l0.drop (p + U)).take N) (by intro e; cases e) (by rw [hbe]; omega)) (Give.view (c := (ro (some { block := g, off := sOff off (↑(p + U) : Int) (↑c0 : Int) 1 }) (u8s (List.take N (List.drop (p + U) l0))))) (give (pre := []) (rest := ([ro (some { block := g, off := sOff off (↑p : Int) (↑c0 : Int) 1 }) (u8s (List.take (U + N) (List.drop p l0))), ro (some { block := g, off := sOff off (↑(p + U + N) : Int) (↑c0 : Int) 1 }) (u8s [b0, b1, b2, b3]), ro (some { block := g, off := sOff off (↑(p + U) : Int) (↑c0 : Int) 1 }) (u8s (List.take N (List.drop (p + U) l0))), Ch.blk r 75 [Value.bool true, Value.string (mkS s), Value.int IntKind.i64 (↑U : Int), Value.int IntKind.i64 0], ro (some { block := g, off := sOff off (↑p : Int) (↑c0 : Int) 1 }) (u8s s), ro (some { block := g, off := off }) (u8s l0)])) [] (by kernel_rfl)) 2 (by kernel_rfl) view_ro) ?_
              rintro v _ ⟨a', c', hn', rfl, rfl⟩
              refine wpr_run (l₂ := []) true [7, 8, 9, 10, 11, 12, 13] [] ([(6, Value.int IntKind.i64 0), (5, Value.int IntKind.i64 ((↑p : Int) + (↑U : Int) + (↑N : Int) + 4)), (4, Value.slice a' (List.take N (List.drop (p + U) l0)).length c')]) ([row 5 1 a' (List.take N (List.drop (p + U) l0)).length c' (u8s (List.take N (List.drop (p + U) l0))), ro (some { block := g, off := sOff off (↑p : Int) (↑c0 : Int) 1 }) (u8s (List.take (U + N) (List.drop p l0))), ro (some { block := g, off := sOff off (↑(p + U + N) : Int) (↑c0 : Int) 1 }) (u8s [b0, b1, b2, b3]), ro (some { block := g, off := sOff off (↑(p + U) : Int) (↑c0 : Int) 1 }) (u8s (List.take N (List.drop (p + U) l0))), Ch.blk r 75 [Value.bool true, Value.string (mkS s), Value.int IntKind.i64 (↑U : Int), Value.int IntKind.i64 0], ro (some { block := g, off := sOff off (↑p : Int) (↑c0 : Int) 1 }) (u8s s), ro (some { block := g, off := off }) (u8s l0)]) ([inI64 ((↑p : Int) + (↑U : Int) + (↑N : Int)), inI64 ((↑p : Int) + (↑U : Int) + (↑N : Int) + (4 : Int))]) (by kernel_rfl) (by kernel_rfl) ⟨by unfold inI64; omega, by unfold inI64; omega, trivial⟩ ?_
              refine wpr_nil ?_
              refine nx_then ?_
              refine wpc_ret ?_
              refine nx_end (hp' := ([row 5 1 a' (List.take N (List.drop (p + U) l0)).length c' (u8s (List.take N (List.drop (p + U) l0)))])) (rest := ([ro (some { block := g, off := sOff off (↑p : Int) (↑c0 : Int) 1 }) (u8s (List.take (U + N) (List.drop p l0))), ro (some { block := g, off := sOff off (↑(p + U + N) : Int) (↑c0 : Int) 1 }) (u8s [b0, b1, b2, b3]), ro (some { block := g, off := sOff off (↑(p + U) : Int) (↑c0 : Int) 1 }) (u8s (List.take N (List.drop (p + U) l0))), Ch.blk r 75 [Value.bool true, Value.string (mkS s), Value.int IntKind.i64 (↑U : Int), Value.int IntKind.i64 0], ro (some { block := g, off := sOff off (↑p : Int) (↑c0 : Int) 1 }) (u8s s), ro (some { block := g, off := off }) (u8s l0)])) [] ((Value.tuple #[Value.slice a' (List.take N (List.drop (p + U) l0)).length c', Value.int IntKind.i64 ((↑p : Int) + (↑U : Int) + (↑N : Int) + 4), Value.int IntKind.i64 0])) (by kernel_rfl) (by kernel_rfl) (give [0] (by kernel_rfl)) (by first | ((repeat (first | exact trivial | refine ⟨trivial, ?_⟩)); done) | assumption) ?_ (.inr rfl)
              exact ⟨a', c', fun e => (nomatch hn'.1 e), by simp, rfl⟩
            · rw [hg, if_pos hw]
              refine wpc_ent (ent_set 65 (Value.bool !decide ([b0, b1, b2, b3] = lowL (more 0 (List.take (U + N) (List.drop p l0))))) (Value.bool true) (by kernel_rfl) (congrArg _ (by rw [Bool.not_eq_true', decide_eq_false_iff_not]; exact hw))) ?_
              refine wpc_true (by kernel_rfl) ?_
              refine wpc_seq ?_
              refine wpc_region [0, 1, 2] (by kernel_rfl) ?_
              refine wpr_run (l₂ := []) true [0, 1, 2] [] ([(6, Value.int IntKind.i64 4), (5, Value.int IntKind.i64 0), (4, Value.slice none 0 0), (10, Value.int IntKind.i64 ((↑p : Int) + (↑U : Int))), (8, Value.int IntKind.i64 (↑N : Int)), (0, Value.slice (some { block := g, off := off }) l0.length c0)]) ([ro (some { block := g, off := sOff off (↑p : Int) (↑c0 : Int) 1 }) (u8s (List.take (U + N) (List.drop p l0))), ro (some { block := g, off := sOff off (↑(p + U + N) : Int) (↑c0 : Int) 1 }) (u8s [b0, b1, b2, b3]), ro (some { block := g, off := sOff off (↑(p + U) : Int) (↑c0 : Int) 1 }) (u8s (List.take N (List.drop (p + U) l0))), Ch.blk r 75 [Value.bool true, Value.string (mkS s), Value.int IntKind.i64 (↑U : Int), Value.int IntKind.i64 0], ro (some { block := g, off := sOff off (↑p : Int) (↑c0 : Int) 1 }) (u8s s), ro (some { block := g, off := off }) (u8s l0)]) [] (by kernel_rfl) (by kernel_rfl) trivial ?_
              refine wpr_nil ?_
              refine nx_then ?_
              refine wpc_ret ?_
              refine nx_then_ret ?_
              refine nx_ent (ent_nil 5 1) ?_
              refine nx_end (hp' := [row 5 1 none 0 0 []]) (rest := ([ro (some { block := g, off := sOff off (↑p : Int) (↑c0 : Int) 1 }) (u8s (List.take (U + N) (List.drop p l0))), ro (some { block := g, off := sOff off (↑(p + U + N) : Int) (↑c0 : Int) 1 }) (u8s [b0, b1, b2, b3]), ro (some { block := g, off := sOff off (↑(p + U) : Int) (↑c0 : Int) 1 }) (u8s (List.take N (List.drop (p + U) l0))), Ch.blk r 75 [Value.bool true, Value.string (mkS s), Value.int IntKind.i64 (↑U : Int), Value.int IntKind.i64 0], ro (some { block := g, off := sOff off (↑p : Int) (↑c0 : Int) 1 }) (u8s s), ro (some { block := g, off := off }) (u8s l0)])) [] ((Value.tuple #[Value.slice none 0 0, Value.int IntKind.i64 0, Value.int IntKind.i64 4])) (by kernel_rfl) (by kernel_rfl) (give [0] (by kernel_rfl)) (by first | ((repeat (first | exact trivial | refine ⟨trivial, ?_⟩)); done) | assumption) ?_ (.inr rfl)
              exact ⟨none, 0, fun _ => rfl, rfl, rfl⟩
      · skip
        refine wpi_call (i := 17) (dst := some 63) (rest := ([ro (some { block := g, off := sOff off (↑p : Int) (↑c0 : Int) 1 }) (u8s (List.take (U + N) (List.drop p l0))), ro (some { block := g, off := sOff off (↑(p + U + N) : Int) (↑c0 : Int) 1 }) (u8s [b0, b1, b2, b3]), ro (some { block := g, off := sOff off (↑(p + U) : Int) (↑c0 : Int) 1 }) (u8s (List.take N (List.drop (p + U) l0))), Ch.blk r 75 [Value.bool true, Value.string (mkS s), Value.int IntKind.i64 (↑U : Int), Value.int IntKind.i64 0], ro (some { block := g, off := sOff off (↑p : Int) (↑c0 : Int) 1 }) (u8s s), ro (some { block := g, off := off }) (u8s l0)])) (by kernel_rfl) (Sum_spec (some ⟨g, sOff off (p : Int) (c0 : Int) 1, none⟩) (c0 - p) ((l0.drop p).take (U + N)) (by intro e; cases e) (by rw [List.length_take]; omega)) (Give.view (c := (ro (some { block := g, off := sOff off (↑p : Int) (↑c0 : Int) 1 }) (u8s (List.take (U + N) (List.drop p l0))))) (give (pre := []) (rest := ([ro (some { block := g, off := sOff off (↑p : Int) (↑c0 : Int) 1 }) (u8s (List.take (U + N) (List.drop p l0))), ro (some { block := g, off := sOff off (↑(p + U + N) : Int) (↑c0 : Int) 1 }) (u8s [b0, b1, b2, b3]), ro (some { block := g, off := sOff off (↑(p + U) : Int) (↑c0 : Int) 1 }) (u8s (List.take N (List.drop (p + U) l0))), Ch.blk r 75 [Value.bool true, Value.string (mkS s), Value.int IntKind.i64 (↑U : Int), Value.int IntKind.i64 0], ro (some { block := g, off := sOff off (↑p : Int) (↑c0 : Int) 1 }) (u8s s), ro (some { block := g, off := off }) (u8s l0)])) [] (by kernel_rfl)) 0 (by kernel_rfl) view_ro) (sub_of [0, 1] (by kernel_rfl)) ?_
        rintro v _ ⟨rfl, rfl⟩
        refine wpa_take true [(9, [])] ([(55, Value.pointer (some { block := g, off := sOff off (↑(p + U + N) : Int) (↑c0 : Int) 1 })), (63, Value.int IntKind.u32 (↑(more 0 (List.take (U + N) (List.drop p l0))).toNat : Int)), (10, Value.int IntKind.i64 ((↑p : Int) + (↑U : Int))), (8, Value.int IntKind.i64 (↑N : Int)), (6, Value.int IntKind.i64 0), (5, Value.int IntKind.i64 0), (4, Value.slice none 0 0), (0, Value.slice (some { block := g, off := off }) l0.length c0)]) (#[true, true, true, true, true, true, true, true, true, true, false, true, true, true, true, true, true, true, false, false]) [] (n := 3) (by kernel_rfl) (by kernel_rfl) (by kernel_rfl) trivial ?_
        refine wpa_two (i := 10) (j := 18) (n := 2) (by kernel_rfl) ?_ ?_
        · skip
          refine wpi_eq (i := 10) (ld (t := 56) (a := ({ block := g, off := sOff off (↑(p + U + N) : Int) (↑c0 : Int) 1 })) (dst := some 56) (by kernel_rfl) true 4 (by kernel_rfl) (by simp) [.int .u8 b0.toNat, .int .u8 b1.toNat, .int .u8 b2.toNat, .int .u8 b3.toNat] rfl (fun w h => ld_ro h 1 rfl 0 (by rfl))) (sub_of [0, 1] (by kernel_rfl)) ?_
          refine wpa_call (i := 18) (n := 1) (dst := some 64) (rest := ([ro (some { block := g, off := sOff off (↑p : Int) (↑c0 : Int) 1 }) (u8s (List.take (U + N) (List.drop p l0))), ro (some { block := g, off := sOff off (↑(p + U + N) : Int) (↑c0 : Int) 1 }) (u8s [b0, b1, b2, b3]), ro (some { block := g, off := sOff off (↑(p + U) : Int) (↑c0 : Int) 1 }) (u8s (List.take N (List.drop (p + U) l0))), Ch.blk r 75 [Value.bool true, Value.string (mkS s), Value.int IntKind.i64 (↑U : Int), Value.int IntKind.i64 0], ro (some { block := g, off := sOff off (↑p : Int) (↑c0 : Int) 1 }) (u8s s), ro (some { block := g, off := off }) (u8s l0)])) (by kernel_rfl) (by kernel_rfl) (low_spec (more 0 ((l0.drop p).take (U + N)))) (give [] (by kernel_rfl)) (sub_of [0, 1] (by kernel_rfl)) ?_
          rintro v _ ⟨rfl, rfl⟩
          refine wpa_eq (i := 19) (n := 0) (by kernel_rfl) (sneq (t := 56) (a := [b0, b1, b2, b3]) (b := (lowL (more 0 ((l0.drop p).take (U + N))))) (n := 4) (dst := some 65) (by rfl) (by kernel_rfl) rfl rfl) (sub_of [0, 1] (by kernel_rfl)) ?_
          refine wpa_done 0 (by kernel_rfl) ?_
          refine nx_then ?_
          by_cases hw : [b0, b1, b2, b3] = lowL (more 0 ((l0.drop p).take (U + N)))
          · rw [hg, if_neg (by rw [hw]; simp)]
            refine wpc_ent (ent_set 65 (Value.bool !decide ([b0, b1, b2, b3] = lowL (more 0 (List.take (U + N) (List.drop p l0))))) (Value.bool false) (by kernel_rfl) (congrArg _ (by rw [hw]; simp))) ?_
            refine wpc_false (by kernel_rfl) ?_
            refine wpc_skip ?_
            refine nx_then ?_
            refine wpc_seq ?_
            refine wpc_region [0, 1, 2, 3, 4, 5, 6, 7, 8, 9, 10, 11, 12, 13] (by kernel_rfl) ?_
            refine wpr_run (l₂ := [6, 7, 8, 9, 10, 11, 12, 13]) true [0, 1, 2, 3, 4, 5] [] ([(71, Value.slice (some { block := g, off := sOff off ((↑p : Int) + (↑U : Int)) (↑c0 : Int) 1 }) ((↑p : Int) + (↑U : Int) + (↑N : Int) - ((↑p : Int) + (↑U : Int))).toNat ((↑c0 : Int) - ((↑p : Int) + (↑U : Int))).toNat), (10, Value.int IntKind.i64 ((↑p : Int) + (↑U : Int))), (8, Value.int IntKind.i64 (↑N : Int)), (6, Value.int IntKind.i64 0), (5, Value.int IntKind.i64 0), (4, Value.slice none 0 0)]) ([ro (some { block := g, off := sOff off (↑p : Int) (↑c0 : Int) 1 }) (u8s (List.take (U + N) (List.drop p l0))), ro (some { block := g, off := sOff off (↑(p + U + N) : Int) (↑c0 : Int) 1 }) (u8s [b0, b1, b2, b3]), ro (some { block := g, off := sOff off (↑(p + U) : Int) (↑c0 : Int) 1 }) (u8s (List.take N (List.drop (p + U) l0))), Ch.blk r 75 [Value.bool true, Value.string (mkS s), Value.int IntKind.i64 (↑U : Int), Value.int IntKind.i64 0], ro (some { block := g, off := sOff off (↑p : Int) (↑c0 : Int) 1 }) (u8s s), ro (some { block := g, off := off }) (u8s l0)]) ([inI64 ((↑p : Int) + (↑U : Int) + (↑N : Int)), (0 : Int) ≤ (↑p : Int) + (↑U : Int) + (↑N : Int) ∧ (↑p : Int) + (↑U : Int) + (↑N : Int) ≤ (↑c0 : Int), (0 : Int) ≤ (↑p : Int) + (↑U : Int) ∧ (↑p : Int) + (↑U : Int) ≤ (↑p : Int) + (↑U : Int) + (↑N : Int)]) (by kernel_rfl) (by kernel_rfl) ⟨by unfold inI64; omega, by omega, by omega, trivial⟩ ?_
            refine wpr_ent (ent_set 71 (Value.slice (some { block := g, off := sOff off ((↑p : Int) + (↑U : Int)) (↑c0 : Int) 1 }) ((↑p : Int) + (↑U : Int) + (↑N : Int) - ((↑p : Int) + (↑U : Int))).toNat ((↑c0 : Int) - ((↑p : Int) + (↑U : Int))).toNat) (Value.slice (some ⟨g, sOff off ((p + U : Nat) : Int) (c0 : Int) 1, none⟩) ((l0.drop (p + U)).take N).length (c0 - (p + U))) (by kernel_rfl) (by rw [hbe]; congr 1 <;> omega)) ?_
            refine wpr_call (dst := some 72) (rest := ([ro (some { block := g, off := sOff off (↑p : Int) (↑c0 : Int) 1 }) (u8s (List.take (U + N) (List.drop p l0))), ro (some { block := g, off := sOff off (↑(p + U + N) : Int) (↑c0 : Int) 1 }) (u8s [b0, b1, b2, b3]), ro (some { block := g, off := sOff off (↑(p + U) : Int) (↑c0 : Int) 1 }) (u8s (List.take N (List.drop (p + U) l0))), Ch.blk r 75 [Value.bool true, Value.string (mkS s), Value.int IntKind.i64 (↑U : Int), Value.int IntKind.i64 0], ro (some { block := g, off := sOff off (↑p : Int) (↑c0 : Int) 1 }) (u8s s), ro (some { block := g, off := off }) (u8s l0)])) (by kernel_rfl) (Clone_spec (some ⟨g, sOff off ((p + U : Nat) : Int) (c0 : Int) 1, none⟩) (c0 - (p + U)) ((l0.drop (p + U)).take N) (by intro e; cases e) (by rw [hbe]; omega)) (Give.view (c := (ro (some { block := g, off := sOff off (↑(p + U) : Int) (↑c0 : Int) 1 }) (u8s (List.take N (List.drop (p + U) l0))))) (give (pre := []) (rest := ([ro (some { block := g, off := sOff off (↑p : Int) (↑c0 : Int) 1 }) (u8s (List.take (U + N) (List.drop p l0))), ro (some { block := g, off := sOff off (↑(p + U + N) : Int) (↑c0 : Int) 1 }) (u8s [b0, b1, b2, b3]), ro (some { block := g, off := sOff off (↑(p + U) : Int) (↑c0 : Int) 1 }) (u8s (List.take N (List.drop (p + U) l0))), Ch.blk r 75 [Value.bool true, Value.string (mkS s), Value.int IntKind.i64 (↑U : Int), Value.int IntKind.i64 0], ro (some { block := g, off := sOff off (↑p : Int) (↑c0 : Int) 1 }) (u8s s), ro (some { block := g, off := off }) (u8s l0)])) [] (by kernel_rfl)) 2 (by kernel_rfl) view_ro) ?_
            rintro v _ ⟨a', c', hn', rfl, rfl⟩
            refine wpr_run (l₂ := []) true [7, 8, 9, 10, 11, 12, 13] [] ([(6, Value.int IntKind.i64 0), (5, Value.int IntKind.i64 ((↑p : Int) + (↑U : Int) + (↑N : Int) + 4)), (4, Value.slice a' (List.take N (List.drop (p + U) l0)).length c')]) ([row 5 1 a' (List.take N (List.drop (p + U) l0)).length c' (u8s (List.take N (List.drop (p + U) l0))), ro (some { block := g, off := sOff off (↑p : Int) (↑c0 : Int) 1 }) (u8s (List.take (U + N) (List.drop p l0))), ro (some { block := g, off := sOff off (↑(p + U + N) : Int) (↑c0 : Int) 1 }) (u8s [b0, b1, b2, b3]), ro (some { block := g, off := sOff off (↑(p + U) : Int) (↑c0 : Int) 1 }) (u8s (List.take N (List.drop (p + U) l0))), Ch.blk r 75 [Value.bool true, Value.string (mkS s), Value.int IntKind.i64 (↑U : Int), Value.int IntKind.i64 0], ro (some { block := g, off := sOff off (↑p : Int) (↑c0 : Int) 1 }) (u8s s), ro (some { block := g, off := off }) (u8s l0)]) ([inI64 ((↑p : Int) + (↑U : Int) + (↑N : Int)), inI64 ((↑p : Int) + (↑U : Int) + (↑N : Int) + (4 : Int))]) (by kernel_rfl) (by kernel_rfl) ⟨by unfold inI64; omega, by unfold inI64; omega, trivial⟩ ?_
            refine wpr_nil ?_
            refine nx_then ?_
            refine wpc_ret ?_
            refine nx_end (hp' := ([row 5 1 a' (List.take N (List.drop (p + U) l0)).length c' (u8s (List.take N (List.drop (p + U) l0)))])) (rest := ([ro (some { block := g, off := sOff off (↑p : Int) (↑c0 : Int) 1 }) (u8s (List.take (U + N) (List.drop p l0))), ro (some { block := g, off := sOff off (↑(p + U + N) : Int) (↑c0 : Int) 1 }) (u8s [b0, b1, b2, b3]), ro (some { block := g, off := sOff off (↑(p + U) : Int) (↑c0 : Int) 1 }) (u8s (List.take N (List.drop (p + U) l0))), Ch.blk r 75 [Value.bool true, Value.string (mkS s), Value.int IntKind.i64 (↑U : Int), Value.int IntKind.i64 0], ro (some { block := g, off := sOff off (↑p : Int) (↑c0 : Int) 1 }) (u8s s), ro (some { block := g, off := off }) (u8s l0)])) [] ((Value.tuple #[Value.slice a' (List.take N (List.drop (p + U) l0)).length c', Value.int IntKind.i64 ((↑p : Int) + (↑U : Int) + (↑N : Int) + 4), Value.int IntKind.i64 0])) (by kernel_rfl) (by kernel_rfl) (give [0] (by kernel_rfl)) (by first | ((repeat (first | exact trivial | refine ⟨trivial, ?_⟩)); done) | assumption) ?_ (.inr rfl)
            exact ⟨a', c', fun e => (nomatch hn'.1 e), by simp, rfl⟩
          · rw [hg, if_pos hw]
            refine wpc_ent (ent_set 65 (Value.bool !decide ([b0, b1, b2, b3] = lowL (more 0 (List.take (U + N) (List.drop p l0))))) (Value.bool true) (by kernel_rfl) (congrArg _ (by rw [Bool.not_eq_true', decide_eq_false_iff_not]; exact hw))) ?_
            refine wpc_true (by kernel_rfl) ?_
            refine wpc_seq ?_
            refine wpc_region [0, 1, 2] (by kernel_rfl) ?_
            refine wpr_run (l₂ := []) true [0, 1, 2] [] ([(6, Value.int IntKind.i64 4), (5, Value.int IntKind.i64 0), (4, Value.slice none 0 0), (10, Value.int IntKind.i64 ((↑p : Int) + (↑U : Int))), (8, Value.int IntKind.i64 (↑N : Int)), (0, Value.slice (some { block := g, off := off }) l0.length c0)]) ([ro (some { block := g, off := sOff off (↑p : Int) (↑c0 : Int) 1 }) (u8s (List.take (U + N) (List.drop p l0))), ro (some { block := g, off := sOff off (↑(p + U + N) : Int) (↑c0 : Int) 1 }) (u8s [b0, b1, b2, b3]), ro (some { block := g, off := sOff off (↑(p + U) : Int) (↑c0 : Int) 1 }) (u8s (List.take N (List.drop (p + U) l0))), Ch.blk r 75 [Value.bool true, Value.string (mkS s), Value.int IntKind.i64 (↑U : Int), Value.int IntKind.i64 0], ro (some { block := g, off := sOff off (↑p : Int) (↑c0 : Int) 1 }) (u8s s), ro (some { block := g, off := off }) (u8s l0)]) [] (by kernel_rfl) (by kernel_rfl) trivial ?_
            refine wpr_nil ?_
            refine nx_then ?_
            refine wpc_ret ?_
            refine nx_then_ret ?_
            refine nx_ent (ent_nil 5 1) ?_
            refine nx_end (hp' := [row 5 1 none 0 0 []]) (rest := ([ro (some { block := g, off := sOff off (↑p : Int) (↑c0 : Int) 1 }) (u8s (List.take (U + N) (List.drop p l0))), ro (some { block := g, off := sOff off (↑(p + U + N) : Int) (↑c0 : Int) 1 }) (u8s [b0, b1, b2, b3]), ro (some { block := g, off := sOff off (↑(p + U) : Int) (↑c0 : Int) 1 }) (u8s (List.take N (List.drop (p + U) l0))), Ch.blk r 75 [Value.bool true, Value.string (mkS s), Value.int IntKind.i64 (↑U : Int), Value.int IntKind.i64 0], ro (some { block := g, off := sOff off (↑p : Int) (↑c0 : Int) 1 }) (u8s s), ro (some { block := g, off := off }) (u8s l0)])) [] ((Value.tuple #[Value.slice none 0 0, Value.int IntKind.i64 0, Value.int IntKind.i64 4])) (by kernel_rfl) (by kernel_rfl) (give [0] (by kernel_rfl)) (by first | ((repeat (first | exact trivial | refine ⟨trivial, ?_⟩)); done) | assumption) ?_ (.inr rfl)
            exact ⟨none, 0, fun _ => rfl, rfl, rfl⟩
        · skip
          refine wpi_call (i := 18) (dst := some 64) (rest := ([ro (some { block := g, off := sOff off (↑p : Int) (↑c0 : Int) 1 }) (u8s (List.take (U + N) (List.drop p l0))), ro (some { block := g, off := sOff off (↑(p + U + N) : Int) (↑c0 : Int) 1 }) (u8s [b0, b1, b2, b3]), ro (some { block := g, off := sOff off (↑(p + U) : Int) (↑c0 : Int) 1 }) (u8s (List.take N (List.drop (p + U) l0))), Ch.blk r 75 [Value.bool true, Value.string (mkS s), Value.int IntKind.i64 (↑U : Int), Value.int IntKind.i64 0], ro (some { block := g, off := sOff off (↑p : Int) (↑c0 : Int) 1 }) (u8s s), ro (some { block := g, off := off }) (u8s l0)])) (by kernel_rfl) (low_spec (more 0 ((l0.drop p).take (U + N)))) (give [] (by kernel_rfl)) (sub_of [0, 1] (by kernel_rfl)) ?_
          rintro v _ ⟨rfl, rfl⟩
          refine wpa_eq (i := 10) (n := 1) (by kernel_rfl) (ld (t := 56) (a := ({ block := g, off := sOff off (↑(p + U + N) : Int) (↑c0 : Int) 1 })) (dst := some 56) (by kernel_rfl) true 4 (by kernel_rfl) (by simp) [.int .u8 b0.toNat, .int .u8 b1.toNat, .int .u8 b2.toNat, .int .u8 b3.toNat] rfl (fun w h => ld_ro h 1 rfl 0 (by rfl))) (sub_of [0, 1] (by kernel_rfl)) ?_
          refine wpa_eq (i := 19) (n := 0) (by kernel_rfl) (sneq (t := 56) (a := [b0, b1, b2, b3]) (b := (lowL (more 0 ((l0.drop p).take (U + N))))) (n := 4) (dst := some 65) (by rfl) (by kernel_rfl) rfl rfl) (sub_of [0, 1] (by kernel_rfl)) ?_
          refine wpa_done 0 (by kernel_rfl) ?_
          refine nx_then ?_
          by_cases hw : [b0, b1, b2, b3] = lowL (more 0 ((l0.drop p).take (U + N)))
          · rw [hg, if_neg (by rw [hw]; simp)]
            refine wpc_ent (ent_set 65 (Value.bool !decide ([b0, b1, b2, b3] = lowL (more 0 (List.take (U + N) (List.drop p l0))))) (Value.bool false) (by kernel_rfl) (congrArg _ (by rw [hw]; simp))) ?_
            refine wpc_false (by kernel_rfl) ?_
            refine wpc_skip ?_
            refine nx_then ?_
            refine wpc_seq ?_
            refine wpc_region [0, 1, 2, 3, 4, 5, 6, 7, 8, 9, 10, 11, 12, 13] (by kernel_rfl) ?_
            refine wpr_run (l₂ := [6, 7, 8, 9, 10, 11, 12, 13]) true [0, 1, 2, 3, 4, 5] [] ([(71, Value.slice (some { block := g, off := sOff off ((↑p : Int) + (↑U : Int)) (↑c0 : Int) 1 }) ((↑p : Int) + (↑U : Int) + (↑N : Int) - ((↑p : Int) + (↑U : Int))).toNat ((↑c0 : Int) - ((↑p : Int) + (↑U : Int))).toNat), (10, Value.int IntKind.i64 ((↑p : Int) + (↑U : Int))), (8, Value.int IntKind.i64 (↑N : Int)), (6, Value.int IntKind.i64 0), (5, Value.int IntKind.i64 0), (4, Value.slice none 0 0)]) ([ro (some { block := g, off := sOff off (↑p : Int) (↑c0 : Int) 1 }) (u8s (List.take (U + N) (List.drop p l0))), ro (some { block := g, off := sOff off (↑(p + U + N) : Int) (↑c0 : Int) 1 }) (u8s [b0, b1, b2, b3]), ro (some { block := g, off := sOff off (↑(p + U) : Int) (↑c0 : Int) 1 }) (u8s (List.take N (List.drop (p + U) l0))), Ch.blk r 75 [Value.bool true, Value.string (mkS s), Value.int IntKind.i64 (↑U : Int), Value.int IntKind.i64 0], ro (some { block := g, off := sOff off (↑p : Int) (↑c0 : Int) 1 }) (u8s s), ro (some { block := g, off := off }) (u8s l0)]) ([inI64 ((↑p : Int) + (↑U : Int) + (↑N : Int)), (0 : Int) ≤ (↑p : Int) + (↑U : Int) + (↑N : Int) ∧ (↑p : Int) + (↑U : Int) + (↑N : Int) ≤ (↑c0 : Int), (0 : Int) ≤ (↑p : Int) + (↑U : Int) ∧ (↑p : Int) + (↑U : Int) ≤ (↑p : Int) + (↑U : Int) + (↑N : Int)]) (by kernel_rfl) (by kernel_rfl) ⟨by unfold inI64; omega, by omega, by omega, trivial⟩ ?_
            refine wpr_ent (ent_set 71 (Value.slice (some { block := g, off := sOff off ((↑p : Int) + (↑U : Int)) (↑c0 : Int) 1 }) ((↑p : Int) + (↑U : Int) + (↑N : Int) - ((↑p : Int) + (↑U : Int))).toNat ((↑c0 : Int) - ((↑p : Int) + (↑U : Int))).toNat) (Value.slice (some ⟨g, sOff off ((p + U : Nat) : Int) (c0 : Int) 1, none⟩) ((l0.drop (p + U)).take N).length (c0 - (p + U))) (by kernel_rfl) (by rw [hbe]; congr 1 <;> omega)) ?_
            refine wpr_call (dst := some 72) (rest := ([ro (some { block := g, off := sOff off (↑p : Int) (↑c0 : Int) 1 }) (u8s (List.take (U + N) (List.drop p l0))), ro (some { block := g, off := sOff off (↑(p + U + N) : Int) (↑c0 : Int) 1 }) (u8s [b0, b1, b2, b3]), ro (some { block := g, off := sOff off (↑(p + U) : Int) (↑c0 : Int) 1 }) (u8s (List.take N (List.drop (p + U) l0))), Ch.blk r 75 [Value.bool true, Value.string (mkS s), Value.int IntKind.i64 (↑U : Int), Value.int IntKind.i64 0], ro (some { block := g, off := sOff off (↑p : Int) (↑c0 : Int) 1 }) (u8s s), ro (some { block := g, off := off }) (u8s l0)])) (by kernel_rfl) (Clone_spec (some ⟨g, sOff off ((p + U : Nat) : Int) (c0 : Int) 1, none⟩) (c0 - (p + U)) ((l0.drop (p + U)).take N) (by intro e; cases e) (by rw [hbe]; omega)) (Give.view (c := (ro (some { block := g, off := sOff off (↑(p + U) : Int) (↑c0 : Int) 1 }) (u8s (List.take N (List.drop (p + U) l0))))) (give (pre := []) (rest := ([ro (some { block := g, off := sOff off (↑p : Int) (↑c0 : Int) 1 }) (u8s (List.take (U + N) (List.drop p l0))), ro (some { block := g, off := sOff off (↑(p + U + N) : Int) (↑c0 : Int) 1 }) (u8s [b0, b1, b2, b3]), ro (some { block := g, off := sOff off (↑(p + U) : Int) (↑c0 : Int) 1 }) (u8s (List.take N (List.drop (p + U) l0))), Ch.blk r 75 [Value.bool true, Value.string (mkS s), Value.int IntKind.i64 (↑U : Int), Value.int IntKind.i64 0], ro (some { block := g, off := sOff off (↑p : Int) (↑c0 : Int) 1 }) (u8s s), ro (some { block := g, off := off }) (u8s l0)])) [] (by kernel_rfl)) 2 (by kernel_rfl) view_ro) ?_
            rintro v _ ⟨a', c', hn', rfl, rfl⟩
            refine wpr_run (l₂ := []) true [7, 8, 9, 10, 11, 12, 13] [] ([(6, Value.int IntKind.i64 0), (5, Value.int IntKind.i64 ((↑p : Int) + (↑U : Int) + (↑N : Int) + 4)), (4, Value.slice a' (List.take N (List.drop (p + U) l0)).length c')]) ([row 5 1 a' (List.take N (List.drop (p + U) l0)).length c' (u8s (List.take N (List.drop (p + U) l0))), ro (some { block := g, off := sOff off (↑p : Int) (↑c0 : Int) 1 }) (u8s (List.take (U + N) (List.drop p l0))), ro (some { block := g, off := sOff off (↑(p + U + N) : Int) (↑c0 : Int) 1 }) (u8s [b0, b1, b2, b3]), ro (some { block := g, off := sOff off (↑(p + U) : Int) (↑c0 : Int) 1 }) (u8s (List.take N (List.drop (p + U) l0))), Ch.blk r 75 [Value.bool true, Value.string (mkS s), Value.int IntKind.i64 (↑U : Int), Value.int IntKind.i64 0], ro (some { block := g, off := sOff off (↑p : Int) (↑c0 : Int) 1 }) (u8s s), ro (some { block := g, off := off }) (u8s l0)]) ([inI64 ((↑p : Int) + (↑U : Int) + (↑N : Int)), inI64 ((↑p : Int) + (↑U : Int) + (↑N : Int) + (4 : Int))]) (by kernel_rfl) (by kernel_rfl) ⟨by unfold inI64; omega, by unfold inI64; omega, trivial⟩ ?_
            refine wpr_nil ?_
            refine nx_then ?_
            refine wpc_ret ?_
            refine nx_end (hp' := ([row 5 1 a' (List.take N (List.drop (p + U) l0)).length c' (u8s (List.take N (List.drop (p + U) l0)))])) (rest := ([ro (some { block := g, off := sOff off (↑p : Int) (↑c0 : Int) 1 }) (u8s (List.take (U + N) (List.drop p l0))), ro (some { block := g, off := sOff off (↑(p + U + N) : Int) (↑c0 : Int) 1 }) (u8s [b0, b1, b2, b3]), ro (some { block := g, off := sOff off (↑(p + U) : Int) (↑c0 : Int) 1 }) (u8s (List.take N (List.drop (p + U) l0))), Ch.blk r 75 [Value.bool true, Value.string (mkS s), Value.int IntKind.i64 (↑U : Int), Value.int IntKind.i64 0], ro (some { block := g, off := sOff off (↑p : Int) (↑c0 : Int) 1 }) (u8s s), ro (some { block := g, off := off }) (u8s l0)])) [] ((Value.tuple #[Value.slice a' (List.take N (List.drop (p + U) l0)).length c', Value.int IntKind.i64 ((↑p : Int) + (↑U : Int) + (↑N : Int) + 4), Value.int IntKind.i64 0])) (by kernel_rfl) (by kernel_rfl) (give [0] (by kernel_rfl)) (by first | ((repeat (first | exact trivial | refine ⟨trivial, ?_⟩)); done) | assumption) ?_ (.inr rfl)
            exact ⟨a', c', fun e => (nomatch hn'.1 e), by simp, rfl⟩
          · rw [hg, if_pos hw]
            refine wpc_ent (ent_set 65 (Value.bool !decide ([b0, b1, b2, b3] = lowL (more 0 (List.take (U + N) (List.drop p l0))))) (Value.bool true) (by kernel_rfl) (congrArg _ (by rw [Bool.not_eq_true', decide_eq_false_iff_not]; exact hw))) ?_
            refine wpc_true (by kernel_rfl) ?_
            refine wpc_seq ?_
            refine wpc_region [0, 1, 2] (by kernel_rfl) ?_
            refine wpr_run (l₂ := []) true [0, 1, 2] [] ([(6, Value.int IntKind.i64 4), (5, Value.int IntKind.i64 0), (4, Value.slice none 0 0), (10, Value.int IntKind.i64 ((↑p : Int) + (↑U : Int))), (8, Value.int IntKind.i64 (↑N : Int)), (0, Value.slice (some { block := g, off := off }) l0.length c0)]) ([ro (some { block := g, off := sOff off (↑p : Int) (↑c0 : Int) 1 }) (u8s (List.take (U + N) (List.drop p l0))), ro (some { block := g, off := sOff off (↑(p + U + N) : Int) (↑c0 : Int) 1 }) (u8s [b0, b1, b2, b3]), ro (some { block := g, off := sOff off (↑(p + U) : Int) (↑c0 : Int) 1 }) (u8s (List.take N (List.drop (p + U) l0))), Ch.blk r 75 [Value.bool true, Value.string (mkS s), Value.int IntKind.i64 (↑U : Int), Value.int IntKind.i64 0], ro (some { block := g, off := sOff off (↑p : Int) (↑c0 : Int) 1 }) (u8s s), ro (some { block := g, off := off }) (u8s l0)]) [] (by kernel_rfl) (by kernel_rfl) trivial ?_
            refine wpr_nil ?_
            refine nx_then ?_
            refine wpc_ret ?_
            refine nx_then_ret ?_
            refine nx_ent (ent_nil 5 1) ?_
            refine nx_end (hp' := [row 5 1 none 0 0 []]) (rest := ([ro (some { block := g, off := sOff off (↑p : Int) (↑c0 : Int) 1 }) (u8s (List.take (U + N) (List.drop p l0))), ro (some { block := g, off := sOff off (↑(p + U + N) : Int) (↑c0 : Int) 1 }) (u8s [b0, b1, b2, b3]), ro (some { block := g, off := sOff off (↑(p + U) : Int) (↑c0 : Int) 1 }) (u8s (List.take N (List.drop (p + U) l0))), Ch.blk r 75 [Value.bool true, Value.string (mkS s), Value.int IntKind.i64 (↑U : Int), Value.int IntKind.i64 0], ro (some { block := g, off := sOff off (↑p : Int) (↑c0 : Int) 1 }) (u8s s), ro (some { block := g, off := off }) (u8s l0)])) [] ((Value.tuple #[Value.slice none 0 0, Value.int IntKind.i64 0, Value.int IntKind.i64 4])) (by kernel_rfl) (by kernel_rfl) (give [0] (by kernel_rfl)) (by first | ((repeat (first | exact trivial | refine ⟨trivial, ?_⟩)); done) | assumption) ?_ (.inr rfl)
            exact ⟨none, 0, fun _ => rfl, rfl, rfl⟩
    · have er : rd 0 0 0 q = (0, 0, q.2.2) := by simp [rd, hqe]
      have e : getL l0 p = ([], 0, q.2.2) := by unfold getL; rw [if_neg (by omega)]; simp only [Int.toNat_natCast, ← hs, ← hq]; rw [if_pos hqe]
      rw [er, e]
      refine wpr_run (l₂ := []) true [2] [] [(8, Value.int IntKind.i64 0), (7, Value.pointer (some { block := r, off := 0 })), (6, Value.int IntKind.i64 0), (5, Value.int IntKind.i64 0), (4, Value.slice none 0 0), (0, Value.slice (some { block := g, off := off }) l0.length c0), (1, Value.int IntKind.i64 (↑p : Int))] [Ch.blk r 75 [Value.bool true, Value.string (mkS s), Value.int IntKind.i64 (↑0 : Int), Value.int IntKind.i64 q.snd.snd], ro (some { block := g, off := sOff off (↑p : Int) (↑c0 : Int) 1 }) (u8s s), ro (some { block := g, off := off }) (u8s l0)] [] (by kernel_rfl) (by kernel_rfl) trivial ?_
      refine wpr_nil ?_
      refine nx_then ?_
      refine wpc_seq ?_
      refine wpc_seq ?_
      refine wpc_region [0, 1, 2] (by kernel_rfl) ?_
      refine wpr_run (l₂ := [1, 2]) true [0] [] [(30, Value.pointer (some { block := r, off := 0 })), (8, Value.int IntKind.i64 0), (7, Value.pointer (some { block := r, off := 0 })), (6, Value.int IntKind.i64 0), (5, Value.int IntKind.i64 0), (4, Value.slice none 0 0), (0, Value.slice (some { block := g, off := off }) l0.length c0), (1, Value.int IntKind.i64 (↑p : Int))] [Ch.blk r 75 [Value.bool true, Value.string (mkS s), Value.int IntKind.i64 0, Value.int IntKind.i64 q.snd.snd], ro (some { block := g, off := sOff off (↑p : Int) (↑c0 : Int) 1 }) (u8s s), ro (some { block := g, off := off }) (u8s l0)] [] (by kernel_rfl) (by kernel_rfl) trivial ?_
      refine wpr_call (dst := some 31) (rest := [ro (some { block := g, off := sOff off (↑p : Int) (↑c0 : Int) 1 }) (u8s s), ro (some { block := g, off := off }) (u8s l0)]) (by kernel_rfl) (Err_spec r s 0 q.2.2) (give [0] (by kernel_rfl)) ?_
      rintro v _ ⟨rfl, rfl⟩
      refine wpr_run (l₂ := []) true [2] [] [(9, Value.int IntKind.i64 q.snd.snd), (8, Value.int IntKind.i64 0), (7, Value.pointer (some { block := r, off := 0 })), (6, Value.int IntKind.i64 0), (5, Value.int IntKind.i64 0), (4, Value.slice none 0 0), (0, Value.slice (some { block := g, off := off }) l0.length c0), (1, Value.int IntKind.i64 (↑p : Int))] [Ch.blk r 75 [Value.bool true, Value.string (mkS s), Value.int IntKind.i64 0, Value.int IntKind.i64 q.snd.snd], ro (some { block := g, off := sOff off (↑p : Int) (↑c0 : Int) 1 }) (u8s s), ro (some { block := g, off := off }) (u8s l0)] [] (by kernel_rfl) (by kernel_rfl) trivial ?_
      refine wpr_nil ?_
      refine nx_then ?_
      refine wpc_seq ?_
      refine wpc_region [0, 1] (by kernel_rfl) ?_
      refine wpr_run (l₂ := []) true [0, 1] [] [(33, Value.bool (q.snd.snd != 0)), (9, Value.int IntKind.i64 q.snd.snd), (8, Value.int IntKind.i64 0), (7, Value.pointer (some { block := r, off := 0 })), (6, Value.int IntKind.i64 0), (5, Value.int IntKind.i64 0), (4, Value.slice none 0 0), (0, Value.slice (some { block := g, off := off }) l0.length c0), (1, Value.int IntKind.i64 (↑p : Int))] [Ch.blk r 75 [Value.bool true, Value.string (mkS s), Value.int IntKind.i64 0, Value.int IntKind.i64 q.snd.snd], ro (some { block := g, off := sOff off (↑p : Int) (↑c0 : Int) 1 }) (u8s s), ro (some { block := g, off := off }) (u8s l0)] [] (by kernel_rfl) (by kernel_rfl) trivial ?_
      refine wpr_nil ?_
      refine nx_then ?_
      refine wpc_ent (ent_set 33 (Value.bool (q.snd.snd != 0)) (Value.bool true) (by kernel_rfl) (congrArg _ (by simp only [bne_iff_ne, beq_iff_eq, ne_eq]; omega))) ?_
      refine wpc_true (by kernel_rfl) ?_
      refine wpc_seq ?_
      refine wpc_region [0, 1, 2, 3] (by kernel_rfl) ?_
      refine wpr_run (l₂ := []) true [0, 1, 2, 3] [] [(6, Value.int IntKind.i64 q.snd.snd), (5, Value.int IntKind.i64 0), (4, Value.slice none 0 0), (8, Value.int IntKind.i64 0), (7, Value.pointer (some { block := r, off := 0 })), (0, Value.slice (some { block := g, off := off }) l0.length c0), (1, Value.int IntKind.i64 (↑p : Int))] [Ch.blk r 75 [Value.bool true, Value.string (mkS s), Value.int IntKind.i64 0, Value.int IntKind.i64 q.snd.snd], ro (some { block := g, off := sOff off (↑p : Int) (↑c0 : Int) 1 }) (u8s s), ro (some { block := g, off := off }) (u8s l0)] [] (by kernel_rfl) (by kernel_rfl) trivial ?_
      refine wpr_nil ?_
      refine nx_then ?_
      refine wpc_ret ?_
      refine nx_then_ret ?_
      refine nx_ent (ent_nil 5 1) ?_
      refine nx_end (hp' := [row 5 1 none 0 0 []]) (rest := [Ch.blk r 75 [Value.bool true, Value.string (mkS s), Value.int IntKind.i64 0, Value.int IntKind.i64 q.snd.snd], ro (some { block := g, off := sOff off (↑p : Int) (↑c0 : Int) 1 }) (u8s s), ro (some { block := g, off := off }) (u8s l0)]) [] ((Value.tuple #[Value.slice none 0 0, Value.int IntKind.i64 0, Value.int IntKind.i64 q.snd.snd])) (by kernel_rfl) (by kernel_rfl) (give [0] (by kernel_rfl)) (by first | ((repeat (first | exact trivial | refine ⟨trivial, ?_⟩)); done) | assumption) ?_ (.inr rfl)
      exact ⟨none, 0, fun _ => rfl, rfl, rfl⟩
end Go.Proofs.Ytmjhcadciblcdaa
