import Derived.Test.YtgkcodkeikaeeaaD2
import Derived.Test.YtgkcodkeikaeeaaX12
namespace Go.Proofs.Ytgkcodkeikaeeaa
open Go Go.Sx
set_option linter.unusedVariables false
set_option linter.unusedSimpArgs false

theorem quo128 (f : Nat) : (f : Int).tdiv 128 = ((f / 128 : Nat) : Int) := by
  rw [Int.tdiv_eq_ediv_of_nonneg (by omega)]; omega
theorem rem128 (f : Nat) : IntKind.u8.wrap ((f : Int).tmod 128) = ((UInt8.ofNat (f % 128)).toNat : Int) := by
  rw [Int.tmod_eq_emod_of_nonneg (by omega), u8_wrap, UInt8.toNat_ofNat']; omega

theorem add128 (f : Nat) : IntKind.u8.wrap (IntKind.u8.wrap ((f : Int).tmod 128) + 128) = ((UInt8.ofNat (f % 128 + 128)).toNat : Int) := by
  rw [Int.tmod_eq_emod_of_nonneg (by omega), u8_wrap, u8_wrap, UInt8.toNat_ofNat']; omega

theorem RInt_spec (n : Int) (h1 : -9223372036854775808 ≤ n) (h2 : n ≤ 9223372036854775807) :
    Does Try.prog 11 [.int .i64 n] [] (fun v hp' => v = .string (mkS (encI n)) ∧ hp' = []) := by
  refine fn_enter Try.func11 rfl 24 rfl fun w0 h0 => ?_
  obtain ⟨F, hF⟩ : ∃ F : Nat, (F : Int) = foldN n := ⟨(foldN n).toNat, Int.toNat_of_nonneg (foldN_nn n)⟩
  have hF2 : F < 18446744073709551616 := by have := foldN_lt h1 h2; omega
  have hE : encI n = vb F := by unfold encI; rw [← hF]; rfl
  refine wpc_seq ?_
  refine wpc_region [0] (by kernel_rfl) ?_
  refine wpr_run (l₂ := []) true [0] [] [(2, Value.string { data := #[] }), (0, Value.int IntKind.i64 n)] [] [] (by kernel_rfl) (by kernel_rfl) trivial ?_
  refine wpr_nil ?_
  refine nx_then ?_
  refine wpc_seq ?_
  refine wpc_region [0, 1, 2] (by kernel_rfl) ?_
  refine wpr_run (l₂ := [1, 2]) true [0] [] [(5, Value.int IntKind.i64 n), (2, Value.string { data := #[] })] [] [] (by kernel_rfl) (by kernel_rfl) trivial ?_
  refine wpr_call_all (dst := some 6) (by kernel_rfl) (rfold_spec n h1 h2) give_all ?_
  rintro v hp' ⟨rfl, rfl⟩
  rw [← hF, hE]
  refine wpr_run (l₂ := []) true [2] [] [(3, Value.int IntKind.u64 (↑F : Int)), (2, Value.string { data := #[] })] [] [] (by kernel_rfl) (by kernel_rfl) trivial ?_
  refine wpr_nil ?_
  refine nx_then ?_
  refine wpc_seq ?_
  refine wpc_region [0] (by kernel_rfl) ?_
  refine wpr_run (l₂ := []) true [0] [] [(4, Value.slice none 0 0), (3, Value.int IntKind.u64 (↑F : Int)), (2, Value.string { data := #[] })] [] [] (by kernel_rfl) (by kernel_rfl) trivial ?_
  refine wpr_nil ?_
  refine nx_then ?_
  refine wpc_seq ?_
  refine wpc_block ?_
  refine wpc_ent (ent_nil 5 1) ?_
  refine wpc_loop (X := PI F) (fun x => St.mk [(4, .slice x.a x.ys.length x.c), (3, .int .u64 (x.f : Int)), (2, .string (mkS []))] [row 5 1 x.a x.ys.length x.c (u8s x.ys)]) (fun x => x.f) ⟨F, [], none, 0, rfl, hF2⟩ (ent_fr (by kernel_rfl)) ?_
  rintro ⟨f, ys, a1, c1, hi, hf⟩
  dsimp only
  have hlen := congrArg List.length hi
  rw [List.length_append] at hlen
  have h10 := vb_len10 hF2
  refine wpc_seq ?_
  refine wpc_seq ?_
  refine wpc_region [0, 1] (by kernel_rfl) ?_
  refine wpr_run (l₂ := []) true [0, 1] [] [(8, Value.bool (decide ((↑f : Int) ≥ 128))), (4, Value.slice a1 ys.length c1), (3, Value.int IntKind.u64 (↑f : Int)), (2, Value.string (mkS []))] [row 5 1 a1 ys.length c1 (u8s ys)] [] (by kernel_rfl) (by kernel_rfl) trivial ?_
  refine wpr_nil ?_
  refine nx_then ?_
  refine wpc_if (((↑f : Int) ≥ 128)) (by kernel_rfl) (fun hge => ?_) (fun hge => ?_)
  · have hq := quo128 f
    have hv := vb_ge (f := f) (by omega)
    rw [hv] at hi
    rw [hv, List.length_cons] at hlen
    refine wpc_skip ?_
    refine nx_then ?_
    refine wpc_block ?_
    refine wpc_seq ?_
    refine wpc_region [0, 1, 2, 3, 4, 5, 6, 7] (by kernel_rfl) ?_
    refine wpr_new (l₂ := [6, 7]) true [0, 1, 2, 3, 4, 5] [] (fun g1 => [(14, Value.slice (some { block := g1, off := 0 }) 1 1), (9, Value.slice a1 ys.length c1), (4, Value.slice a1 ys.length c1), (3, Value.int IntKind.u64 (↑f : Int)), (2, Value.string (mkS []))]) (fun g1 => ([row 5 1 a1 ys.length c1 (u8s ys), Ch.blk g1 5 [Value.int IntKind.u8 (IntKind.u8.wrap (IntKind.u8.wrap ((↑f : Int).tmod 128) + 128))]])) (fun g1 => [(128 : Int) ≠ (0 : Int)]) (fun g1 => by kernel_rfl) (fun g1 => by kernel_rfl) (fun g1 => ⟨by omega, trivial⟩) fun g1 => ?_
    refine wpr_ent (ent_turn 1 (ro (some ⟨g1, 0, none⟩) (u8s [UInt8.ofNat (f % 128 + 128)])) rfl (turn_ro [UInt8.ofNat (f % 128 + 128)] (by rw [add128]; rfl)) rfl) ?_
    refine wpr_app (a := a1) (n := ys.length) (cap := c1) (x := (Value.slice (some { block := g1, off := 0 }) 1 1)) (t := 22) (xt := 22) (dst := some 15) (by kernel_rfl) (e := 5) (sz := 1) (bytes := 1) (by kernel_rfl) 0 (xs := (u8s ys)) (by kernel_rfl) (m := 1) (news := (u8s [UInt8.ofNat (f % 128 + 128)])) (fun w h => src_ro h 1 rfl rfl (fun e => by cases e)) (by unfold maxLen; omega) (by omega) ?_
    intro a2 c2 hn
    rw [show ys.length + 1 = (ys ++ [UInt8.ofNat (f % 128 + 128)]).length from by simp, show u8s ys ++ u8s [UInt8.ofNat (f % 128 + 128)] = u8s (ys ++ [UInt8.ofNat (f % 128 + 128)]) from by simp [u8s]]
    refine wpr_run (l₂ := []) true [7] [] ([(4, Value.slice a2 (ys ++ [UInt8.ofNat (f % 128 + 128)]).length c2), (3, Value.int IntKind.u64 (↑f : Int)), (2, Value.string (mkS []))]) ([row 5 1 a2 (ys ++ [UInt8.ofNat (f % 128 + 128)]).length c2 (u8s (ys ++ [UInt8.ofNat (f % 128 + 128)])), ro (some { block := g1, off := 0 }) (u8s [UInt8.ofNat (f % 128 + 128)])]) [] (by kernel_rfl) (by kernel_rfl) trivial ?_
    refine wpr_nil ?_
    refine nx_then ?_
    refine wpc_region [0, 1, 2] (by kernel_rfl) ?_
    refine wpr_run (l₂ := []) true [0, 1, 2] [] ([(3, Value.int IntKind.u64 ((↑f : Int).tdiv 128)), (4, Value.slice a2 (ys ++ [UInt8.ofNat (f % 128 + 128)]).length c2), (2, Value.string (mkS []))]) ([row 5 1 a2 (ys ++ [UInt8.ofNat (f % 128 + 128)]).length c2 (u8s (ys ++ [UInt8.ofNat (f % 128 + 128)])), ro (some { block := g1, off := 0 }) (u8s [UInt8.ofNat (f % 128 + 128)])]) [(128 : Int) ≠ (0 : Int) ∧ (0 : Int) ≤ (↑f : Int).tdiv (128 : Int) ∧ (↑f : Int).tdiv (128 : Int) < (18446744073709551616 : Int)] (by kernel_rfl) (by kernel_rfl) ⟨by omega, trivial⟩ ?_
    refine wpr_nil ?_
    refine nx_block ?_
    refine nx_ent (ent_set 3 (Value.int IntKind.u64 ((↑f : Int).tdiv 128)) (Value.int .u64 ((f / 128 : Nat) : Int)) (by kernel_rfl) (congrArg _ (quo128 f))) ?_
    exact fun a' w hS => ⟨⟨f / 128, ys ++ [UInt8.ofNat (f % 128 + 128)], a2, c2, by rw [List.append_assoc]; exact hi, by omega⟩, by dsimp only; omega, ent_fr (by kernel_rfl) _ _ (ent_hp [0] rfl _ _ hS)⟩
  · have hv := vb_lt (f := f) (by omega)
    rw [hv] at hi
    refine wpc_exit ?_
    refine nx_then_exit ?_
    refine nx_then_exit ?_
    refine nx_block_here ?_
    refine nx_then ?_
    refine wpc_seq ?_
    refine wpc_region [0, 1, 2, 3, 4, 5, 6] (by kernel_rfl) ?_
    refine wpr_new (l₂ := [4, 5, 6]) true [0, 1, 2, 3] [] (fun g1 => [(21, Value.slice (some { block := g1, off := 0 }) 1 1), (18, Value.slice a1 ys.length c1), (2, Value.string (mkS []))]) (fun g1 => [row 5 1 a1 ys.length c1 (u8s ys), Ch.blk g1 5 [Value.int IntKind.u8 (IntKind.u8.wrap (↑f : Int))]]) (fun g1 => []) (fun g1 => by kernel_rfl) (fun g1 => by kernel_rfl) (fun g1 => trivial) fun g1 => ?_
    refine wpr_ent (ent_turn 1 (ro (some ⟨g1, 0, none⟩) (u8s [UInt8.ofNat f])) rfl (turn_ro [UInt8.ofNat f] (by rw [low_math f (by omega)]; rfl)) rfl) ?_
    refine wpr_app (a := a1) (n := ys.length) (cap := c1) (x := (Value.slice (some { block := g1, off := 0 }) 1 1)) (t := 22) (xt := 22) (dst := some 22) (by kernel_rfl) (e := 5) (sz := 1) (bytes := 1) (by kernel_rfl) 0 (xs := (u8s ys)) (by kernel_rfl) (m := 1) (news := (u8s [UInt8.ofNat f])) (fun w h => src_ro h 1 rfl rfl (fun e => by cases e)) (by unfold maxLen; omega) (by omega) ?_
    intro a2 c2 hn
    rw [show ys.length + 1 = (vb F).length from by rw [← hi]; simp, show u8s ys ++ u8s [UInt8.ofNat f] = u8s (vb F) from by rw [← hi]; simp [u8s]]
    refine wpr_eq (b2s (a := 22) (b := 9) (ad := a2) (n := ((vb F).length)) (c := c2) (dst := some 23) (by kernel_rfl) (by kernel_rfl) (vb F) (by first | rfl | simp) (fun w h => b2s_row h 0 rfl)) ?_
    refine wpr_run (l₂ := []) true [6] [] [(2, Value.string (mkS (vb F)))] [row 5 1 a2 (vb F).length c2 (u8s (vb F)), ro (some { block := g1, off := 0 }) (u8s [UInt8.ofNat f])] [] (by kernel_rfl) (by kernel_rfl) trivial ?_
    refine wpr_nil ?_
    refine nx_then ?_
    refine wpc_ret ?_
    refine nx_end (hp' := []) (rest := [row 5 1 a2 (vb F).length c2 (u8s (vb F)), ro (some { block := g1, off := 0 }) (u8s [UInt8.ofNat f])]) [] ((Value.string (mkS (vb F)))) (by kernel_rfl) (by kernel_rfl) (give [] (by kernel_rfl)) (by first | ((repeat (first | exact trivial | refine ⟨trivial, ?_⟩)); done) | assumption) ?_ (.inr rfl)
    exact ⟨rfl, rfl⟩

def encB (b : Bool) : List UInt8 := [cond b 1 0]
theorem PutBool_spec (a : Option Addr) (c : Nat) (bs : List UInt8) (b : Bool) (hl : bs.length ≤ 140737488352000) :
    Does Try.prog 12 [.slice a bs.length c, .bool b] [row 5 1 a bs.length c (u8s bs)] (fun v hp' => ∃ a' c', v = .slice a' (bs ++ encB b).length c' ∧ hp' = [row 5 1 a' (bs ++ encB b).length c' (u8s (bs ++ encB b))]) := by
  cases b with
  | true =>
    refine fn_enter Try.func12 rfl 12 rfl fun w0 h0 => ?_
    refine wpc_seq ?_
    refine wpc_region [0] (by kernel_rfl) ?_
    refine wpr_run (l₂ := []) true [0] [] [(4, Value.slice none 0 0), (0, Value.slice a bs.length c), (1, Value.bool true)] [row 5 1 a bs.length c (u8s bs)] [] (by kernel_rfl) (by kernel_rfl) trivial ?_
    refine wpr_nil ?_
    refine nx_then ?_
    refine wpc_seq ?_
    refine wpc_seq ?_
    refine wpc_region [0] (by kernel_rfl) ?_
    refine wpr_run (l₂ := []) true [0] [] [(5, Value.bool true), (4, Value.slice none 0 0), (0, Value.slice a bs.length c)] [row 5 1 a bs.length c (u8s bs)] [] (by kernel_rfl) (by kernel_rfl) trivial ?_
    refine wpr_nil ?_
    refine nx_then ?_
    refine wpc_true (by kernel_rfl) ?_
    refine wpc_seq ?_
    refine wpc_region [0, 1, 2, 3] (by kernel_rfl) ?_
    refine wpr_new (l₂ := [2, 3]) true [0, 1] [] (fun g1 => [(7, Value.slice (some { block := g1, off := 0 }) 1 1), (6, Value.slice a bs.length c), (4, Value.slice none 0 0), (0, Value.slice a bs.length c)]) (fun g1 => [row 5 1 a bs.length c (u8s bs), Ch.blk g1 5 [Value.int IntKind.u8 1]]) (fun g1 => []) (fun g1 => by kernel_rfl) (fun g1 => by kernel_rfl) (fun g1 => trivial) fun g1 => ?_
    refine wpr_ent (ent_turn 1 (ro (some ⟨g1, 0, none⟩) (u8s [1])) rfl (turn_ro [1] rfl) rfl) ?_
    refine wpr_app (a := a) (n := bs.length) (cap := c) (x := (Value.slice (some { block := g1, off := 0 }) 1 1)) (t := 22) (xt := 22) (dst := some 8) (by kernel_rfl) (e := 5) (sz := 1) (bytes := 1) (by kernel_rfl) 0 (xs := (u8s bs)) (by kernel_rfl) (m := 1) (news := (u8s [1])) (fun w h => src_ro h 1 rfl rfl (fun e => by cases e)) (by unfold maxLen; omega) (by omega) ?_
    intro a2 c2 hn
    rw [show bs.length + 1 = (bs ++ encB true).length from by simp [encB], show u8s bs ++ u8s [1] = u8s (bs ++ encB true) from by simp [u8s, encB]]
    refine wpr_run (l₂ := []) true [3] [] ([(4, Value.slice a2 (bs ++ encB true).length c2), (0, Value.slice a bs.length c)]) ([row 5 1 a2 (bs ++ encB true).length c2 (u8s (bs ++ encB true)), ro (some { block := g1, off := 0 }) (u8s [1])]) [] (by kernel_rfl) (by kernel_rfl) trivial ?_
    refine wpr_nil ?_
    refine nx_then ?_
    refine wpc_ret ?_
    refine nx_then_ret ?_
    refine nx_end (hp' := ([row 5 1 a2 (bs ++ encB true).length c2 (u8s (bs ++ encB true))])) (rest := [ro (some { block := g1, off := 0 }) (u8s [1])]) [] ((Value.slice a2 (bs ++ encB true).length c2)) (by kernel_rfl) (by kernel_rfl) (give [0] (by kernel_rfl)) (by first | ((repeat (first | exact trivial | refine ⟨trivial, ?_⟩)); done) | assumption) ?_ (.inr rfl)
    exact ⟨a2, c2, rfl, rfl⟩
  | false =>
    refine fn_enter Try.func12 rfl 12 rfl fun w0 h0 => ?_
    refine wpc_seq ?_
    refine wpc_region [0] (by kernel_rfl) ?_
    refine wpr_run (l₂ := []) true [0] [] [(4, Value.slice none 0 0), (0, Value.slice a bs.length c), (1, Value.bool false)] [row 5 1 a bs.length c (u8s bs)] [] (by kernel_rfl) (by kernel_rfl) trivial ?_
    refine wpr_nil ?_
    refine nx_then ?_
    refine wpc_seq ?_
    refine wpc_seq ?_
    refine wpc_region [0] (by kernel_rfl) ?_
    refine wpr_run (l₂ := []) true [0] [] [(5, Value.bool false), (4, Value.slice none 0 0), (0, Value.slice a bs.length c)] [row 5 1 a bs.length c (u8s bs)] [] (by kernel_rfl) (by kernel_rfl) trivial ?_
    refine wpr_nil ?_
    refine nx_then ?_
    refine wpc_false (by kernel_rfl) ?_
    refine wpc_skip ?_
    refine nx_then ?_
    refine wpc_seq ?_
    refine wpc_region [0, 1, 2, 3] (by kernel_rfl) ?_
    refine wpr_new (l₂ := [2, 3]) true [0, 1] [] (fun g1 => [(10, Value.slice (some { block := g1, off := 0 }) 1 1), (9, Value.slice a bs.length c), (4, Value.slice none 0 0)]) (fun g1 => [row 5 1 a bs.length c (u8s bs), Ch.blk g1 5 [Value.int IntKind.u8 0]]) (fun g1 => []) (fun g1 => by kernel_rfl) (fun g1 => by kernel_rfl) (fun g1 => trivial) fun g1 => ?_
    refine wpr_ent (ent_turn 1 (ro (some ⟨g1, 0, none⟩) (u8s [0])) rfl (turn_ro [0] rfl) rfl) ?_
    refine wpr_app (a := a) (n := bs.length) (cap := c) (x := (Value.slice (some { block := g1, off := 0 }) 1 1)) (t := 22) (xt := 22) (dst := some 11) (by kernel_rfl) (e := 5) (sz := 1) (bytes := 1) (by kernel_rfl) 0 (xs := (u8s bs)) (by kernel_rfl) (m := 1) (news := (u8s [0])) (fun w h => src_ro h 1 rfl rfl (fun e => by cases e)) (by unfold maxLen; omega) (by omega) ?_
    intro a2 c2 hn
    rw [show bs.length + 1 = (bs ++ encB false).length from by simp [encB], show u8s bs ++ u8s [0] = u8s (bs ++ encB false) from by simp [u8s, encB]]
    refine wpr_run (l₂ := []) true [3] [] ([(4, Value.slice a2 (bs ++ encB false).length c2)]) ([row 5 1 a2 (bs ++ encB false).length c2 (u8s (bs ++ encB false)), ro (some { block := g1, off := 0 }) (u8s [0])]) [] (by kernel_rfl) (by kernel_rfl) trivial ?_
    refine wpr_nil ?_
    refine nx_then ?_
    refine wpc_ret ?_
    refine nx_end (hp' := ([row 5 1 a2 (bs ++ encB false).length c2 (u8s (bs ++ encB false))])) (rest := [ro (some { block := g1, off := 0 }) (u8s [0])]) [] ((Value.slice a2 (bs ++ encB false).length c2)) (by kernel_rfl) (by kernel_rfl) (give [0] (by kernel_rfl)) (by first | ((repeat (first | exact trivial | refine ⟨trivial, ?_⟩)); done) | assumption) ?_ (.inr rfl)
    exact ⟨a2, c2, rfl, rfl⟩
theorem RBool_spec (b : Bool) : Does Try.prog 13 [.bool b] [] (fun v hp' => v = .string (mkS (encB b)) ∧ hp' = []) := by
  cases b with
  | true =>
    refine fn_enter Try.func13 rfl 4 rfl fun w0 h0 => ?_
    refine wpc_seq ?_
    refine wpc_region [0] (by kernel_rfl) ?_
    refine wpr_run (l₂ := []) true [0] [] [(2, Value.string { data := #[] }), (0, Value.bool true)] [] [] (by kernel_rfl) (by kernel_rfl) trivial ?_
    refine wpr_nil ?_
    refine nx_then ?_
    refine wpc_seq ?_
    refine wpc_seq ?_
    refine wpc_region [0] (by kernel_rfl) ?_
    refine wpr_run (l₂ := []) true [0] [] [(3, Value.bool true), (2, Value.string { data := #[] })] [] [] (by kernel_rfl) (by kernel_rfl) trivial ?_
    refine wpr_nil ?_
    refine nx_then ?_
    refine wpc_true (by kernel_rfl) ?_
    refine wpc_seq ?_
    refine wpc_region [0] (by kernel_rfl) ?_
    refine wpr_run (l₂ := []) true [0] [] [(2, Value.string { data := #[1] })] [] [] (by kernel_rfl) (by kernel_rfl) trivial ?_
    refine wpr_nil ?_
    refine nx_then ?_
    refine wpc_ret ?_
    refine nx_then_ret ?_
    refine nx_end (hp' := []) (rest := []) [] ((Value.string { data := #[1] })) (by kernel_rfl) (by kernel_rfl) give_all (by first | ((repeat (first | exact trivial | refine ⟨trivial, ?_⟩)); done) | assumption) ?_ (.inr rfl)
    exact ⟨rfl, rfl⟩
  | false =>
    refine fn_enter Try.func13 rfl 4 rfl fun w0 h0 => ?_
    refine wpc_seq ?_
    refine wpc_region [0] (by kernel_rfl) ?_
    refine wpr_run (l₂ := []) true [0] [] [(2, Value.string { data := #[] }), (0, Value.bool false)] [] [] (by kernel_rfl) (by kernel_rfl) trivial ?_
    refine wpr_nil ?_
    refine nx_then ?_
    refine wpc_seq ?_
    refine wpc_seq ?_
    refine wpc_region [0] (by kernel_rfl) ?_
    refine wpr_run (l₂ := []) true [0] [] [(3, Value.bool false), (2, Value.string { data := #[] })] [] [] (by kernel_rfl) (by kernel_rfl) trivial ?_
    refine wpr_nil ?_
    refine nx_then ?_
    refine wpc_false (by kernel_rfl) ?_
    refine wpc_skip ?_
    refine nx_then ?_
    refine wpc_seq ?_
    refine wpc_region [0] (by kernel_rfl) ?_
    refine wpr_run (l₂ := []) true [0] [] [(2, Value.string { data := #[0] })] [] [] (by kernel_rfl) (by kernel_rfl) trivial ?_
    refine wpr_nil ?_
    refine nx_then ?_
    refine wpc_ret ?_
    refine nx_end (hp' := []) (rest := []) [] ((Value.string { data := #[0] })) (by kernel_rfl) (by kernel_rfl) give_all (by first | ((repeat (first | exact trivial | refine ⟨trivial, ?_⟩)); done) | assumption) ?_ (.inr rfl)
    exact ⟨rfl, rfl⟩
def encT (t : List UInt8) : List UInt8 := encI t.length ++ t
theorem PutText_spec (a : Option Addr) (c : Nat) (bs t : List UInt8) (hl : bs.length ≤ 1000) (ht : t.length ≤ 140737488351232) :
    Does Try.prog 14 [.slice a bs.length c, .string (mkS t)] [row 5 1 a bs.length c (u8s bs)] (fun v hp' => ∃ a' c', v = .slice a' (bs ++ encT t).length c' ∧ hp' = [row 5 1 a' (bs ++ encT t).length c' (u8s (bs ++ encT t))]) := by
  refine fn_enter Try.func14 rfl 11 rfl fun w0 h0 => ?_
  have hE := encI_len (n := t.length) (by omega) (by omega)
  have hL : (bs ++ encI t.length).length = bs.length + (encI t.length).length := List.length_append
  refine wpc_seq ?_
  refine wpc_region [0] (by kernel_rfl) ?_
  refine wpr_run (l₂ := []) true [0] [] [(4, Value.slice none 0 0), (0, Value.slice a bs.length c), (1, Value.string (mkS t))] [row 5 1 a bs.length c (u8s bs)] [] (by kernel_rfl) (by kernel_rfl) trivial ?_
  refine wpr_nil ?_
  refine nx_then ?_
  refine wpc_seq ?_
  refine wpc_region [0, 1, 2, 3, 4, 5, 6] (by kernel_rfl) ?_
  refine wpr_run (l₂ := [3, 4, 5, 6]) true [0, 1, 2] [] [(7, Value.int IntKind.i64 (↑t.length : Int)), (5, Value.slice a bs.length c), (4, Value.slice none 0 0), (1, Value.string (mkS t))] [row 5 1 a bs.length c (u8s bs)] [] (by kernel_rfl) (by kernel_rfl) trivial ?_
  refine wpr_call_all (dst := some 8) (by kernel_rfl) (PutInt_spec a c bs t.length (by omega) (by omega) (by omega)) give_all ?_
  rintro v hp' ⟨a1, c1, rfl, rfl⟩
  refine wpr_run (l₂ := [5, 6]) true [4] [] ([(9, Value.string (mkS t)), (8, Value.slice a1 (bs ++ encI (↑t.length : Int)).length c1), (4, Value.slice none 0 0)]) ([row 5 1 a1 (bs ++ encI (↑t.length : Int)).length c1 (u8s (bs ++ encI (↑t.length : Int)))]) [] (by kernel_rfl) (by kernel_rfl) trivial ?_
  refine wpr_app (a := a1) (n := ((bs ++ encI (↑t.length : Int)).length)) (cap := c1) (x := (Value.string (mkS t))) (t := 22) (xt := 9) (dst := some 10) (by kernel_rfl) (e := 5) (sz := 1) (bytes := 1) (by kernel_rfl) 0 (xs := (u8s (bs ++ encI (↑t.length : Int)))) (by kernel_rfl) (m := (t.length)) (news := (u8s t)) (fun w h => src_str (mkS t)) (by unfold maxLen; omega) (by omega) ?_
  intro a2 c2 hn
  rw [show (bs ++ encI t.length).length + t.length = (bs ++ encT t).length from by simp [encT]; omega, show u8s (bs ++ encI t.length) ++ u8s t = u8s (bs ++ encT t) from by simp [u8s, encT]]
  refine wpr_run (l₂ := []) true [6] [] ([(4, Value.slice a2 (bs ++ encT t).length c2)]) ([row 5 1 a2 (bs ++ encT t).length c2 (u8s (bs ++ encT t))]) [] (by kernel_rfl) (by kernel_rfl) trivial ?_
  refine wpr_nil ?_
  refine nx_then ?_
  refine wpc_ret ?_
  refine nx_end (hp' := ([row 5 1 a2 (bs ++ encT t).length c2 (u8s (bs ++ encT t))])) (rest := []) [] ((Value.slice a2 (bs ++ encT t).length c2)) (by kernel_rfl) (by kernel_rfl) give_all (by first | ((repeat (first | exact trivial | refine ⟨trivial, ?_⟩)); done) | assumption) ?_ (.inr rfl)
  exact ⟨a2, c2, rfl, rfl⟩
theorem RText_spec (t : List UInt8) (ht : t.length ≤ 140737488351232) :
    Does Try.prog 15 [.string (mkS t)] [] (fun v hp' => v = .string (mkS (encT t)) ∧ hp' = []) := by
  refine fn_enter Try.func15 rfl 8 rfl fun w0 h0 => ?_
  have hE := encI_len (n := t.length) (by omega) (by omega)
  refine wpc_seq ?_
  refine wpc_region [0] (by kernel_rfl) ?_
  refine wpr_run (l₂ := []) true [0] [] [(2, Value.string { data := #[] }), (0, Value.string (mkS t))] [] [] (by kernel_rfl) (by kernel_rfl) trivial ?_
  refine wpr_nil ?_
  refine nx_then ?_
  refine wpc_seq ?_
  refine wpc_region [0, 1, 2, 3, 4, 5] (by kernel_rfl) ?_
  refine wpr_run (l₂ := [2, 3, 4, 5]) true [0, 1] [] [(4, Value.int IntKind.i64 (↑t.length : Int)), (2, Value.string { data := #[] }), (0, Value.string (mkS t))] [] [] (by kernel_rfl) (by kernel_rfl) trivial ?_
  refine wpr_call_all (dst := some 5) (by kernel_rfl) (RInt_spec t.length (by omega) (by omega)) give_all ?_
  rintro v hp' ⟨rfl, rfl⟩
  refine wpr_run (l₂ := []) true [3, 4, 5] [] ([(2, Value.string (mkS (encI (↑t.length : Int) ++ t)))]) [] ([(encI (↑t.length : Int)).length + t.length ≤ (9223372036854775807 : Nat)]) (by kernel_rfl) (by kernel_rfl) ⟨by omega, trivial⟩ ?_
  refine wpr_nil ?_
  refine nx_then ?_
  refine wpc_ret ?_
  refine nx_end (hp' := []) (rest := []) [] ((Value.string (mkS (encI (↑t.length : Int) ++ t)))) (by kernel_rfl) (by kernel_rfl) give_all (by first | ((repeat (first | exact trivial | refine ⟨trivial, ?_⟩)); done) | assumption) ?_ (.inr rfl)
  exact ⟨rfl, rfl⟩

/-! ### a reader -/
def rdr (r : Nat) (s : List UInt8) (at_ e : Int) : Ch := .blk r 52 [.bool true, .string (mkS s), .int .i64 at_, .int .i64 e]
theorem NewReader_spec (a : Option Addr) (c : Nat) (bs : List UInt8) (ha : a = none → bs = []) :
    Does Try.prog 17 [.slice a bs.length c] [ro a (u8s bs)] (fun v hp' => ∃ r, v = .pointer (some ⟨r, 0, none⟩) ∧ hp' = [rdr r bs 0 0]) := by
  refine fn_enter Try.func17 rfl 7 rfl fun w0 h0 => ?_
  refine wpc_seq ?_
  refine wpc_region [0] (by kernel_rfl) ?_
  refine wpr_run (l₂ := []) true [0] [] [(2, Value.pointer none), (0, Value.slice a bs.length c)] [ro a (u8s bs)] [] (by kernel_rfl) (by kernel_rfl) trivial ?_
  refine wpr_nil ?_
  refine nx_then ?_
  refine wpc_seq ?_
  refine wpc_region [0, 1, 2, 3, 4] (by kernel_rfl) ?_
  refine wpr_run (l₂ := [1, 2, 3, 4]) true [0] [] [(3, Value.slice a bs.length c), (2, Value.pointer none)] [ro a (u8s bs)] [] (by kernel_rfl) (by kernel_rfl) trivial ?_
  refine wpr_eq (b2s (a := 22) (b := 9) (ad := a) (n := bs.length) (c := c) (dst := some 4) (by kernel_rfl) (by kernel_rfl) bs (by first | rfl | simp) (fun w h => b2s_ro h 0 rfl)) ?_
  refine wpr_new (l₂ := [4]) true [2, 3] [] (fun g1 => [(6, Value.pointer (some { block := g1, off := 0 })), (2, Value.pointer none)]) (fun g1 => [ro a (u8s bs), Ch.blk g1 52 [Value.bool true, Value.string (mkS bs), Value.int IntKind.i64 0, Value.int IntKind.i64 0]]) (fun g1 => []) (fun g1 => by kernel_rfl) (fun g1 => by kernel_rfl) (fun g1 => trivial) fun g1 => ?_
  refine wpr_run (l₂ := []) true [4] [] [(2, Value.pointer (some { block := g1, off := 0 }))] [ro a (u8s bs), Ch.blk g1 52 [Value.bool true, Value.string (mkS bs), Value.int IntKind.i64 0, Value.int IntKind.i64 0]] [] (by kernel_rfl) (by kernel_rfl) trivial ?_
  refine wpr_nil ?_
  refine nx_then ?_
  refine wpc_ret ?_
  refine nx_end (hp' := [Ch.blk g1 52 [Value.bool true, Value.string (mkS bs), Value.int IntKind.i64 0, Value.int IntKind.i64 0]]) (rest := [ro a (u8s bs)]) [] ((Value.pointer (some { block := g1, off := 0 }))) (by kernel_rfl) (by kernel_rfl) (give [1] (by kernel_rfl)) (by first | ((repeat (first | exact trivial | refine ⟨trivial, ?_⟩)); done) | assumption) ?_ (.inr rfl)
  exact ⟨_, rfl, rfl⟩
theorem Err_spec (r : Nat) (s : List UInt8) (at_ e : Int) : Does Try.prog 19 [.pointer (some ⟨r, 0, none⟩)] [rdr r s at_ e] (fun v hp' => v = .int .i64 e ∧ hp' = [rdr r s at_ e]) := by
  refine fn_enter Try.func19 rfl 16 rfl fun w0 h0 => ?_
  unfold rdr
  refine wpc_seq ?_
  refine wpc_region [0] (by kernel_rfl) ?_
  refine wpr_run (l₂ := []) true [0] [] [(2, Value.int IntKind.i64 0), (0, Value.pointer (some { block := r, off := 0 }))] [Ch.blk r 52 [Value.bool true, Value.string (mkS s), Value.int IntKind.i64 at_, Value.int IntKind.i64 e]] [] (by kernel_rfl) (by kernel_rfl) trivial ?_
  refine wpr_nil ?_
  refine nx_then ?_
  refine wpc_seq ?_
  refine wpc_seq ?_
  refine wpc_region [0, 1, 2, 3, 4, 5, 6, 7, 8] (by kernel_rfl) ?_
  refine wpr_run (l₂ := []) true [0, 1, 2, 3, 4, 5, 6, 7, 8] [0] [(11, Value.bool false), (2, Value.int IntKind.i64 0), (0, Value.pointer (some { block := r, off := 0 }))] [Ch.blk r 52 [Value.bool true, Value.string (mkS s), Value.int IntKind.i64 at_, Value.int IntKind.i64 e]] [] (by kernel_rfl) (by kernel_rfl) trivial ?_
  refine wpr_nil ?_
  refine nx_then ?_
  refine wpc_false (by kernel_rfl) ?_
  refine wpc_skip ?_
  refine nx_then ?_
  refine wpc_seq ?_
  refine wpc_region [0, 1, 2, 3, 4] (by kernel_rfl) ?_
  refine wpr_run (l₂ := []) true [0, 1, 2, 3, 4] [0] [(2, Value.int IntKind.i64 e)] [Ch.blk r 52 [Value.bool true, Value.string (mkS s), Value.int IntKind.i64 at_, Value.int IntKind.i64 e]] [] (by kernel_rfl) (by kernel_rfl) trivial ?_
  refine wpr_nil ?_
  refine nx_then ?_
  refine wpc_ret ?_
  refine nx_end (hp' := [Ch.blk r 52 [Value.bool true, Value.string (mkS s), Value.int IntKind.i64 at_, Value.int IntKind.i64 e]]) (rest := []) [] ((Value.int IntKind.i64 e)) (by kernel_rfl) (by kernel_rfl) give_all (by first | ((repeat (first | exact trivial | refine ⟨trivial, ?_⟩)); done) | assumption) ?_ (.inr rfl)
  exact ⟨rfl, rfl⟩
theorem At_spec (r : Nat) (s : List UInt8) (at_ e : Int) : Does Try.prog 20 [.pointer (some ⟨r, 0, none⟩)] [rdr r s at_ e] (fun v hp' => v = .int .i64 at_ ∧ hp' = [rdr r s at_ e]) := by
  refine fn_enter Try.func20 rfl 9 rfl fun w0 h0 => ?_
  unfold rdr
  refine wpc_seq ?_
  refine wpc_region [0] (by kernel_rfl) ?_
  refine wpr_run (l₂ := []) true [0] [] [(2, Value.int IntKind.i64 0), (0, Value.pointer (some { block := r, off := 0 }))] [Ch.blk r 52 [Value.bool true, Value.string (mkS s), Value.int IntKind.i64 at_, Value.int IntKind.i64 e]] [] (by kernel_rfl) (by kernel_rfl) trivial ?_
  refine wpr_nil ?_
  refine nx_then ?_
  refine wpc_seq ?_
  refine wpc_seq ?_
  refine wpc_region [0, 1] (by kernel_rfl) ?_
  refine wpr_run (l₂ := []) true [0, 1] [] [(4, Value.bool false), (2, Value.int IntKind.i64 0), (0, Value.pointer (some { block := r, off := 0 }))] [Ch.blk r 52 [Value.bool true, Value.string (mkS s), Value.int IntKind.i64 at_, Value.int IntKind.i64 e]] [] (by kernel_rfl) (by kernel_rfl) trivial ?_
  refine wpr_nil ?_
  refine nx_then ?_
  refine wpc_false (by kernel_rfl) ?_
  refine wpc_skip ?_
  refine nx_then ?_
  refine wpc_seq ?_
  refine wpc_region [0, 1, 2, 3, 4] (by kernel_rfl) ?_
  refine wpr_run (l₂ := []) true [0, 1, 2, 3, 4] [0] [(2, Value.int IntKind.i64 at_)] [Ch.blk r 52 [Value.bool true, Value.string (mkS s), Value.int IntKind.i64 at_, Value.int IntKind.i64 e]] [] (by kernel_rfl) (by kernel_rfl) trivial ?_
  refine wpr_nil ?_
  refine nx_then ?_
  refine wpc_ret ?_
  refine nx_end (hp' := [Ch.blk r 52 [Value.bool true, Value.string (mkS s), Value.int IntKind.i64 at_, Value.int IntKind.i64 e]]) (rest := []) [] ((Value.int IntKind.i64 at_)) (by kernel_rfl) (by kernel_rfl) give_all (by first | ((repeat (first | exact trivial | refine ⟨trivial, ?_⟩)); done) | assumption) ?_ (.inr rfl)
  exact ⟨rfl, rfl⟩
def endE (s : List UInt8) (at_ e : Int) : Int := if e ≠ 0 then e else if at_ < s.length then 5 else 0
theorem End_spec (r : Nat) (s : List UInt8) (at_ e : Int) : Does Try.prog 22 [.pointer (some ⟨r, 0, none⟩)] [rdr r s at_ e] (fun v hp' => v = .int .i64 (endE s at_ e) ∧ hp' = [rdr r s at_ e]) := by
  refine fn_enter Try.func22 rfl 19 rfl fun w0 h0 => ?_
  refine wpc_seq ?_
  refine wpc_region [0] (by kernel_rfl) ?_
  refine wpr_run (l₂ := []) true [0] [] [(2, Value.int IntKind.i64 0), (0, Value.pointer (some { block := r, off := 0 }))] [Ch.blk r 52 [Value.bool true, Value.string (mkS s), Value.int IntKind.i64 at_, Value.int IntKind.i64 e]] [] (by kernel_rfl) (by kernel_rfl) trivial ?_
  refine wpr_nil ?_
  refine nx_then ?_
  refine wpc_seq ?_
  refine wpc_seq ?_
  refine wpc_region [0, 1, 2] (by kernel_rfl) ?_
  refine wpr_run (l₂ := [1, 2]) true [0] [] [(4, Value.pointer (some { block := r, off := 0 })), (2, Value.int IntKind.i64 0), (0, Value.pointer (some { block := r, off := 0 }))] [Ch.blk r 52 [Value.bool true, Value.string (mkS s), Value.int IntKind.i64 at_, Value.int IntKind.i64 e]] [] (by kernel_rfl) (by kernel_rfl) trivial ?_
  refine wpr_call_all (dst := some 5) (by kernel_rfl) (Err_spec r s at_ e) give_all ?_
  rintro v hp' ⟨rfl, rfl⟩
  unfold rdr
  refine wpr_run (l₂ := []) true [2] [] [(3, Value.int IntKind.i64 e), (2, Value.int IntKind.i64 0), (0, Value.pointer (some { block := r, off := 0 }))] [Ch.blk r 52 [Value.bool true, Value.string (mkS s), Value.int IntKind.i64 at_, Value.int IntKind.i64 e]] [] (by kernel_rfl) (by kernel_rfl) trivial ?_
  refine wpr_nil ?_
  refine nx_then ?_
  refine wpc_seq ?_
  refine wpc_region [0, 1] (by kernel_rfl) ?_
  refine wpr_run (l₂ := []) true [0, 1] [] [(7, Value.bool (e != 0)), (3, Value.int IntKind.i64 e), (2, Value.int IntKind.i64 0), (0, Value.pointer (some { block := r, off := 0 }))] [Ch.blk r 52 [Value.bool true, Value.string (mkS s), Value.int IntKind.i64 at_, Value.int IntKind.i64 e]] [] (by kernel_rfl) (by kernel_rfl) trivial ?_
  refine wpr_nil ?_
  refine nx_then ?_
  refine wpc_cond ((e != 0)) (by kernel_rfl) (fun he => ?_) (fun he => ?_)
  · refine wpc_seq ?_
    refine wpc_region [0, 1] (by kernel_rfl) ?_
    refine wpr_run (l₂ := []) true [0, 1] [] [(2, Value.int IntKind.i64 e), (0, Value.pointer (some { block := r, off := 0 }))] [Ch.blk r 52 [Value.bool true, Value.string (mkS s), Value.int IntKind.i64 at_, Value.int IntKind.i64 e]] [] (by kernel_rfl) (by kernel_rfl) trivial ?_
    refine wpr_nil ?_
    refine nx_then ?_
    refine wpc_ret ?_
    refine nx_then_ret ?_
    refine nx_end (hp' := [Ch.blk r 52 [Value.bool true, Value.string (mkS s), Value.int IntKind.i64 at_, Value.int IntKind.i64 e]]) (rest := []) [] ((Value.int IntKind.i64 e)) (by kernel_rfl) (by kernel_rfl) give_all (by first | ((repeat (first | exact trivial | refine ⟨trivial, ?_⟩)); done) | assumption) ?_ (.inr rfl)
    exact ⟨by rw [endE, if_pos (by simpa using he)], rfl⟩
  · refine wpc_skip ?_
    refine nx_then ?_
    refine wpc_seq ?_
    refine wpc_seq ?_
    refine wpc_draw (by kernel_rfl) [Ch.blk r 52 [Value.bool true, Value.string (mkS s), Value.int IntKind.i64 at_, Value.int IntKind.i64 e]] (sub_of [0] (by kernel_rfl)) 10 (by kernel_rfl) ?_
    refine wpa_take true [(0, []), (1, []), (2, []), (3, [0]), (4, []), (5, []), (6, []), (7, [0]), (8, []), (9, [])] [(18, Value.bool (decide (at_ < (↑s.length : Int)))), (2, Value.int IntKind.i64 0)] (#[true, true, true, true, true, true, true, true, true, true]) [] (n := 0) (by kernel_rfl) (by kernel_rfl) (by kernel_rfl) trivial ?_
    refine wpa_done 0 (by kernel_rfl) ?_
    refine nx_then ?_
    refine wpc_if ((at_ < (↑s.length : Int))) (by kernel_rfl) (fun hlt => ?_) (fun hlt => ?_)
    · refine wpc_seq ?_
      refine wpc_region [0] (by kernel_rfl) ?_
      refine wpr_run (l₂ := []) true [0] [] [(2, Value.int IntKind.i64 5)] [Ch.blk r 52 [Value.bool true, Value.string (mkS s), Value.int IntKind.i64 at_, Value.int IntKind.i64 e]] [] (by kernel_rfl) (by kernel_rfl) trivial ?_
      refine wpr_nil ?_
      refine nx_then ?_
      refine wpc_ret ?_
      refine nx_then_ret ?_
      refine nx_end (hp' := [Ch.blk r 52 [Value.bool true, Value.string (mkS s), Value.int IntKind.i64 at_, Value.int IntKind.i64 e]]) (rest := []) [] ((Value.int IntKind.i64 5)) (by kernel_rfl) (by kernel_rfl) give_all (by first | ((repeat (first | exact trivial | refine ⟨trivial, ?_⟩)); done) | assumption) ?_ (.inr rfl)
      exact ⟨by rw [endE, if_neg (by simpa using he), if_pos hlt], rfl⟩
    · refine wpc_skip ?_
      refine nx_then ?_
      refine wpc_seq ?_
      refine wpc_region [0] (by kernel_rfl) ?_
      refine wpr_run (l₂ := []) true [0] [] [(2, Value.int IntKind.i64 0)] [Ch.blk r 52 [Value.bool true, Value.string (mkS s), Value.int IntKind.i64 at_, Value.int IntKind.i64 e]] [] (by kernel_rfl) (by kernel_rfl) trivial ?_
      refine wpr_nil ?_
      refine nx_then ?_
      refine wpc_ret ?_
      refine nx_end (hp' := [Ch.blk r 52 [Value.bool true, Value.string (mkS s), Value.int IntKind.i64 at_, Value.int IntKind.i64 e]]) (rest := []) [] ((Value.int IntKind.i64 0)) (by kernel_rfl) (by kernel_rfl) give_all (by first | ((repeat (first | exact trivial | refine ⟨trivial, ?_⟩)); done) | assumption) ?_ (.inr rfl)
      exact ⟨by rw [endE, if_neg (by simpa using he), if_neg hlt], rfl⟩
end Go.Proofs.Ytgkcodkeikaeeaa
