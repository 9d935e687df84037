import Derived.Test.YtmjhcadciblcdaaB4
import Derived.Test.YtmjhcadciblcdaaX17
import Derived.Test.YtmjhcadciblcdaaX16
namespace Go.Proofs.Ytmjhcadciblcdaa
open Go Go.Sx
set_option linter.unusedVariables false
set_option linter.unusedSimpArgs false

/-- All frames from a place on. -/
def allG : Nat → List UInt8 → Nat → List (List UInt8) × Nat
  | 0, _, p => ([], p)
  | k + 1, l, p => if p < l.length ∧ (getL l p).2.2 = 0 then ((getL l p).1 :: (allG k l (getL l p).2.1.toNat).1, (allG k l (getL l p).2.1.toNat).2) else ([], p)
theorem allG_succ (k : Nat) (l : List UInt8) (p : Nat) : allG (k + 1) l p = if p < l.length ∧ (getL l p).2.2 = 0 then ((getL l p).1 :: (allG k l (getL l p).2.1.toNat).1, (allG k l (getL l p).2.1.toNat).2) else ([], p) := rfl
def allL (l : List UInt8) : List (List UInt8) × Nat := allG (l.length + 1) l 0
theorem getL_ok {l : List UInt8} {p : Nat} (h : (getL l p).2.2 = 0) : ∃ nx : Nat, (getL l p).2.1 = nx ∧ p < nx ∧ nx ≤ l.length ∧ (getL l p).1.length ≤ l.length := by
  unfold getL at h ⊢
  by_cases h1 : (p : Int) < 0 ∨ (p : Int) > l.length
  · rw [if_pos h1] at h; exact absurd h (by decide)
  rw [if_neg h1] at h ⊢
  dsimp only at h ⊢
  by_cases h2 : (cnt ((l.drop (p : Int).toNat).take 11) 1048576).2.2 ≠ 0
  · rw [if_pos h2] at h; exact absurd h h2
  rw [if_neg h2] at h ⊢
  split at h
  · exact absurd h (by decide)
  · rename_i h3
    rw [if_neg h3]
    split at h
    · exact absurd h (by decide)
    · rename_i h4
      rw [if_neg h4]
      rw [Int.toNat_natCast] at h3 ⊢
      exact ⟨_, rfl, by omega, by omega, by rw [List.length_take, List.length_drop]; omega⟩
theorem nx_cut {Γ : Cx} {s : St} {Q : Exit → Act → World → Prop} {K : Act → World → Prop} (h : ∀ a w, Sat Γ s a w → K a w) : Nx Γ s (Exit.then K Q) .normal := fun a w hS => h a w hS
theorem frames_spec (a : Option Addr) (n c : Nat) : Does Try.prog 33 [.slice a n c] [] (fun r hp' => ∃ g, r = .func (.func 42) #[] #[.pointer (some ⟨g, 0, none⟩)] ∧ hp' = [.blk g 22 [.slice a n c]]) := by
  refine fn_enter Try.func33 rfl 4 rfl fun w0 h0 => ?_
  refine wpc_seq ?_
  refine wpc_region [0, 1] (by kernel_rfl) ?_
  refine wpr_new (l₂ := [1]) true [0] [] (fun g1 => [(1, Value.pointer (some { block := g1, off := 0 }))]) (fun g1 => [Ch.blk g1 22 [Value.slice a n c]]) (fun g1 => []) (fun g1 => by kernel_rfl) (fun g1 => by kernel_rfl) (fun g1 => trivial) fun g1 => ?_
  refine wpr_run (l₂ := []) true [1] [] [(2, Value.nilFunc), (1, Value.pointer (some { block := g1, off := 0 }))] [Ch.blk g1 22 [Value.slice a n c]] [] (by kernel_rfl) (by kernel_rfl) trivial ?_
  refine wpr_nil ?_
  refine nx_then ?_
  refine wpc_seq ?_
  refine wpc_region [0, 1] (by kernel_rfl) ?_
  refine wpr_run (l₂ := []) true [0, 1] [] [(2, Value.func (Fn.func 42) #[] #[Value.pointer (some { block := g1, off := 0 })])] [Ch.blk g1 22 [Value.slice a n c]] [] (by kernel_rfl) (by kernel_rfl) trivial ?_
  refine wpr_nil ?_
  refine nx_then ?_
  refine wpc_ret ?_
  refine nx_end (hp' := [Ch.blk g1 22 [Value.slice a n c]]) (rest := []) [] ((Value.func (Fn.func 42) #[] #[Value.pointer (some { block := g1, off := 0 })])) (by kernel_rfl) (by kernel_rfl) give_all (by first | ((repeat (first | exact trivial | refine ⟨trivial, ?_⟩)); done) | assumption) ?_ (.inr rfl)
  exact ⟨g1, rfl, rfl⟩
theorem frames1_spec (l bx : Nat) (a0 : Option Addr) (c0 : Nat) (b : List UInt8) (n0 : a0 = none → b = []) (hcap : b.length ≤ c0) (hb : b.length ≤ 1099511627776) (C : Option Addr × Nat → List (Option Addr × Nat × List UInt8) → Nat → Ch) (hC : ∀ s ps p, (C s ps p).rw) (s0 : Option Addr × Nat)
    (hY : ∀ s ps p a c x nx, (a = none → x = []) → x.length ≤ 1099511627776 → ps.length < nx → nx ≤ 1099511627776 → YDoes Try.prog l [.slice a x.length c, .int .i64 ((nx : Nat) : Int)] [row 5 1 a x.length c (u8s x), C s ps p] (fun v hp' => v = .bool true ∧ ∃ s', hp' = [C s' (ps ++ [(a, c, x)]) nx])) :
    Does Try.prog 42 [.func (.yield l) #[] #[], .pointer (some ⟨bx, 0, none⟩)] [C s0 [] 0, .blk bx 22 [.slice a0 b.length c0], ro a0 (u8s b)]
      (fun v hp' => ∃ (s : Option Addr × Nat) (ps : List (Option Addr × Nat × List UInt8)), ps.map (·.2.2) = (allL b).1 ∧ hp' = [C s ps (allL b).2, .blk bx 22 [.slice a0 b.length c0]]) := by
  refine fn_enter Try.func42 rfl 28 rfl fun w0 h0 => ?_
  refine wpc_seq ?_
  refine wpc_region [0] (by kernel_rfl) ?_
  refine wpr_run (l₂ := []) true [0] [] [(3, Value.int IntKind.i64 0), (0, Value.func (Fn.yield l) #[] #[]), (1, Value.pointer (some { block := bx, off := 0 }))] [C s0 [] 0, Ch.blk bx 22 [Value.slice a0 b.length c0], ro a0 (u8s b)] [] (by kernel_rfl) (by kernel_rfl) trivial ?_
  refine wpr_nil ?_
  refine nx_then ?_
  refine wpc_block ?_
  refine wpc_loop (X := {x : List (Option Addr × Nat × List UInt8) × Nat × (Option Addr × Nat) // x.2.1 ≤ b.length ∧ x.1.length ≤ x.2.1 ∧ ∃ k, b.length < x.2.1 + k ∧ x.1.map (·.2.2) ++ (allG k b x.2.1).1 = (allL b).1 ∧ (allG k b x.2.1).2 = (allL b).2}) (fun x => St.mk [(3, .int .i64 (x.1.2.1 : Int)), (0, .func (.yield l) #[] #[]), (1, .pointer (some ⟨bx, 0, none⟩))] [C x.1.2.2 x.1.1 x.1.2.1, .blk bx 22 [.slice a0 b.length c0], ro a0 (u8s b)]) (fun x => b.length - x.1.2.1) ⟨([], 0, s0), Nat.zero_le _, Nat.zero_le _, b.length + 1, by omega, rfl, rfl⟩ (ent_fr (by kernel_rfl)) ?_
  rintro ⟨⟨ps, p, s⟩, hp, hps, k, hk, he1, he2⟩
  dsimp only at hp hps hk he1 he2 ⊢
  refine wpc_seq ?_
  refine wpc_seq ?_
  refine wpc_region [0, 1, 2, 3] (by kernel_rfl) ?_
  refine wpr_run (l₂ := []) true [0, 1, 2, 3] [1] [(10, Value.bool (decide ((↑p : Int) < (↑b.length : Int)))), (3, Value.int IntKind.i64 (↑p : Int)), (0, Value.func (Fn.yield l) #[] #[]), (1, Value.pointer (some { block := bx, off := 0 }))] [C s ps p, Ch.blk bx 22 [Value.slice a0 b.length c0], ro a0 (u8s b)] [] (by kernel_rfl) (by kernel_rfl) trivial ?_
  refine wpr_nil ?_
  refine nx_then ?_
  refine wpc_if (((↑p : Int) < (↑b.length : Int))) (by kernel_rfl) (fun hlt => ?_) (fun hlt => ?_)
  · have hpl : p < b.length := by omega
    refine wpc_fact (fun w h => ro_addr h 2 rfl (by rw [u8s_len]; omega)) ?_
    rintro ⟨w1, o1, rfl⟩
    refine wpc_skip ?_
    refine nx_then ?_
    refine wpc_block ?_
    refine wpc_seq ?_
    refine wpc_region [0, 1, 2, 3, 4, 5, 6, 7, 8, 9] (by kernel_rfl) ?_
    refine wpr_run (l₂ := [2, 3, 4, 5, 6, 7, 8, 9]) true [0, 1] [1] [(13, Value.int IntKind.i64 (↑p : Int)), (12, Value.slice (some { block := w1, off := o1 }) b.length c0), (3, Value.int IntKind.i64 (↑p : Int)), (0, Value.func (Fn.yield l) #[] #[]), (1, Value.pointer (some { block := bx, off := 0 }))] [C s ps p, Ch.blk bx 22 [Value.slice (some { block := w1, off := o1 }) b.length c0], ro (some { block := w1, off := o1 }) (u8s b)] [] (by kernel_rfl) (by kernel_rfl) trivial ?_
    refine wpr_call (dst := some 14) (rest := [C s ps p, Ch.blk bx 22 [Value.slice (some { block := w1, off := o1 }) b.length c0], ro (some { block := w1, off := o1 }) (u8s b)]) (by kernel_rfl) (Get_spec (some ⟨w1, o1, none⟩) c0 b (p : Int) (by omega) (by omega) n0 (by intro ad h; cases h; rfl) hcap hb) (Give.view (c := (ro (some { block := w1, off := o1 }) (u8s b))) (give (pre := []) (rest := [C s ps p, Ch.blk bx 22 [Value.slice (some { block := w1, off := o1 }) b.length c0], ro (some { block := w1, off := o1 }) (u8s b)]) [] (by kernel_rfl)) 2 (by kernel_rfl) view_ro) ?_
    rintro v _ ⟨av, c, hn, rfl, rfl⟩
    refine wpr_run (l₂ := []) true [3, 4, 5, 6, 7, 8, 9] [] [(6, Value.int IntKind.i64 (getL b (↑p : Int)).snd.snd), (5, Value.int IntKind.i64 (getL b (↑p : Int)).snd.fst), (4, Value.slice av (getL b (↑p : Int)).fst.length c), (3, Value.int IntKind.i64 (↑p : Int)), (0, Value.func (Fn.yield l) #[] #[]), (1, Value.pointer (some { block := bx, off := 0 }))] [row 5 1 av (getL b (↑p : Int)).fst.length c (u8s (getL b (↑p : Int)).fst), C s ps p, Ch.blk bx 22 [Value.slice (some { block := w1, off := o1 }) b.length c0], ro (some { block := w1, off := o1 }) (u8s b)] [] (by kernel_rfl) (by kernel_rfl) trivial ?_
    refine wpr_nil ?_
    refine nx_then ?_
    refine wpc_seq ?_
    refine wpc_seq ?_
    have hQ : ¬ LetsOut (bodyPost Try.prog Try.f42 (Post w0 [C s0 [] 0, .blk bx 22 [.slice (some ⟨w1, o1, none⟩) b.length c0], ro (some ⟨w1, o1, none⟩) (u8s b)] (fun v hp' => ∃ (s : Option Addr × Nat) (ps : List (Option Addr × Nat × List UInt8)), ps.map (·.2.2) = (allL b).1 ∧ hp' = [C s ps (allL b).2, .blk bx 22 [.slice (some ⟨w1, o1, none⟩) b.length c0]]))) := by
      rintro ⟨a', w', v, hp', _, h, _⟩; cases h
    by_cases he0 : (getL b p).2.2 = 0
    · obtain ⟨nx, hnx, hn1, hn2, hn3⟩ := getL_ok he0
      refine wpc_ent (ent_set 5 (Value.int IntKind.i64 (getL b (↑p : Int)).snd.fst) (Value.int .i64 ((nx : Nat) : Int)) (by kernel_rfl) (by rw [hnx])) ?_
      refine wpc_ent (ent_set 6 (Value.int IntKind.i64 (getL b (↑p : Int)).snd.snd) (Value.int .i64 0) (by kernel_rfl) (by rw [he0])) ?_
      refine wpc_region_cut [0, 1, 2, 3, 4, 5] [6, 7, 8] (by kernel_rfl) (by kernel_rfl) hQ ?_
      refine wpr_run (l₂ := []) true [0, 1, 2, 3, 4, 5] [] [(23, Value.int IntKind.i64 (↑nx : Int)), (22, Value.slice av (getL b (↑p : Int)).fst.length c), (21, Value.func (Fn.yield l) #[] #[]), (20, Value.bool false), (19, Value.bool false), (18, Value.int IntKind.i64 0), (6, Value.int IntKind.i64 0), (5, Value.int IntKind.i64 (↑nx : Int)), (4, Value.slice av (getL b (↑p : Int)).fst.length c), (3, Value.int IntKind.i64 (↑p : Int)), (0, Value.func (Fn.yield l) #[] #[]), (1, Value.pointer (some { block := bx, off := 0 }))] [row 5 1 av (getL b (↑p : Int)).fst.length c (u8s (getL b (↑p : Int)).fst), C s ps p, Ch.blk bx 22 [Value.slice (some { block := w1, off := o1 }) b.length c0], ro (some { block := w1, off := o1 }) (u8s b)] [] (by kernel_rfl) (by kernel_rfl) trivial ?_
      refine wpr_nil ?_
      refine nx_cut fun a1 w1' hS1 => yield_sound (Γ := ⟨Try.prog, w0, _, 28, []⟩) (l := l) (args := [.slice av (getL b p).1.length c, .int .i64 ((nx : Nat) : Int)]) (dst := some 24) (by kernel_rfl) (by kernel_rfl) (by exact hQ) (hY s ps p av c (getL b p).1 nx hn (by omega) (by omega) (by omega)) (rest := [.blk bx 22 [.slice (some ⟨w1, o1, none⟩) b.length c0], ro (some ⟨w1, o1, none⟩) (u8s b)]) (Give.of_perm (List.Perm.refl _)) ?_ hS1
      rintro v _ ⟨rfl, s', rfl⟩
      refine wpr_run (l₂ := []) true [7, 8] [] [(26, Value.bool false), (5, Value.int IntKind.i64 (↑nx : Int)), (3, Value.int IntKind.i64 (↑p : Int)), (0, Value.func (Fn.yield l) #[] #[]), (1, Value.pointer (some { block := bx, off := 0 }))] ([C s' (ps ++ [(av, c, (getL b (↑p : Int)).fst)]) nx, Ch.blk bx 22 [Value.slice (some { block := w1, off := o1 }) b.length c0], ro (some { block := w1, off := o1 }) (u8s b)]) [] (by kernel_rfl) (by kernel_rfl) trivial ?_
      refine wpr_nil ?_
      refine nx_then ?_
      refine wpc_false (by kernel_rfl) ?_
      refine wpc_skip ?_
      refine nx_then ?_
      refine wpc_region [0, 1] (by kernel_rfl) ?_
      refine wpr_run (l₂ := []) true [0, 1] [] [(3, Value.int IntKind.i64 (↑nx : Int)), (0, Value.func (Fn.yield l) #[] #[]), (1, Value.pointer (some { block := bx, off := 0 }))] ([C s' (ps ++ [(av, c, (getL b (↑p : Int)).fst)]) nx, Ch.blk bx 22 [Value.slice (some { block := w1, off := o1 }) b.length c0], ro (some { block := w1, off := o1 }) (u8s b)]) [] (by kernel_rfl) (by kernel_rfl) trivial ?_
      refine wpr_nil ?_
      refine nx_block ?_
      obtain ⟨k', rfl⟩ : ∃ k', k = k' + 1 := ⟨k - 1, by omega⟩
      have e1 : allG (k' + 1) b p = ((getL b p).1 :: (allG k' b nx).1, (allG k' b nx).2) := by
        rw [allG_succ, if_pos ⟨hpl, he0⟩, hnx, Int.toNat_natCast]
      rw [e1] at he1 he2
      exact fun a' w' hS' => ⟨⟨(ps ++ [(av, c, (getL b p).1)], nx, s'), by dsimp only; omega, by simp; omega, k', by dsimp only; omega, by rw [← he1]; simp, he2⟩, by dsimp only; omega, ent_fr (by kernel_rfl) _ _ (ent_hp [0, 0, 0] rfl _ _ hS')⟩
    · refine wpc_region [0, 1, 2, 3, 4, 5, 6, 7, 8] (by kernel_rfl) ?_
      refine wpr_run (l₂ := [3, 4, 5, 6, 7, 8]) true [0, 1, 2] [] [(20, Value.bool ((getL b (↑p : Int)).snd.snd != 0)), (5, Value.int IntKind.i64 (getL b (↑p : Int)).snd.fst), (4, Value.slice av (getL b (↑p : Int)).fst.length c), (3, Value.int IntKind.i64 (↑p : Int)), (0, Value.func (Fn.yield l) #[] #[]), (1, Value.pointer (some { block := bx, off := 0 }))] [row 5 1 av (getL b (↑p : Int)).fst.length c (u8s (getL b (↑p : Int)).fst), C s ps p, Ch.blk bx 22 [Value.slice (some { block := w1, off := o1 }) b.length c0], ro (some { block := w1, off := o1 }) (u8s b)] [] (by kernel_rfl) (by kernel_rfl) trivial ?_
      refine wpr_ent (ent_set 20 (Value.bool ((getL b (↑p : Int)).snd.snd != 0)) (Value.bool true) (by kernel_rfl) (congrArg _ (by simp only [bne_iff_ne, beq_iff_eq, ne_eq]; omega))) ?_
      refine wpr_run (l₂ := []) true [3, 4, 5, 6, 7, 8] [] [(26, Value.bool true), (5, Value.int IntKind.i64 (getL b (↑p : Int)).snd.fst), (3, Value.int IntKind.i64 (↑p : Int)), (0, Value.func (Fn.yield l) #[] #[]), (1, Value.pointer (some { block := bx, off := 0 }))] [row 5 1 av (getL b (↑p : Int)).fst.length c (u8s (getL b (↑p : Int)).fst), C s ps p, Ch.blk bx 22 [Value.slice (some { block := w1, off := o1 }) b.length c0], ro (some { block := w1, off := o1 }) (u8s b)] [] (by kernel_rfl) (by kernel_rfl) trivial ?_
      refine wpr_nil ?_
      refine nx_then ?_
      refine wpc_true (by kernel_rfl) ?_
      refine wpc_ret ?_
      refine nx_then_ret ?_
      refine nx_block_ret ?_
      refine nx_then_ret ?_
      refine nx_block_ret ?_
      have hr : AllRw [C s ps p, .blk bx 22 [.slice (some ⟨w1, o1, none⟩) b.length c0]] := ⟨hC s ps p, trivial, trivial⟩
      refine nx_end (hp' := [C s ps p, Ch.blk bx 22 [Value.slice (some { block := w1, off := o1 }) b.length c0]]) (rest := [row 5 1 av (getL b (↑p : Int)).fst.length c (u8s (getL b (↑p : Int)).fst), ro (some { block := w1, off := o1 }) (u8s b)]) [] ((Value.tuple #[])) (by kernel_rfl) (by kernel_rfl) (give [1, 1] (by kernel_rfl)) (by first | ((repeat (first | exact trivial | refine ⟨trivial, ?_⟩)); done) | assumption) ?_ (.inr rfl)
      obtain ⟨k', rfl⟩ : ∃ k', k = k' + 1 := ⟨k - 1, by omega⟩
      have e1 : allG (k' + 1) b p = ([], p) := by
        rw [allG_succ, if_neg (fun h => he0 h.2)]
      rw [e1] at he1 he2
      simp only [List.append_nil] at he1 he2
      exact ⟨s, ps, he1, by rw [← he2]⟩
  · refine wpc_exit ?_
    refine nx_then_exit ?_
    refine nx_then_exit ?_
    refine nx_block_here ?_
    have hr : AllRw [C s ps p, .blk bx 22 [.slice a0 b.length c0]] := ⟨hC s ps p, trivial, trivial⟩
    refine nx_end (hp' := [C s ps p, Ch.blk bx 22 [Value.slice a0 b.length c0]]) (rest := [ro a0 (u8s b)]) [] ((Value.tuple #[])) (by kernel_rfl) (by kernel_rfl) (give [0, 0] (by kernel_rfl)) (by first | ((repeat (first | exact trivial | refine ⟨trivial, ?_⟩)); done) | assumption) ?_ (.inl rfl)
    obtain ⟨k', rfl⟩ : ∃ k', k = k' + 1 := ⟨k - 1, by omega⟩
    have e1 : allG (k' + 1) b p = ([], p) := by
      rw [allG_succ, if_neg (fun h => hlt (by omega))]
    rw [e1] at he1 he2
    simp only [List.append_nil] at he1 he2
    exact ⟨s, ps, he1, by rw [← he2]⟩
end Go.Proofs.Ytmjhcadciblcdaa
