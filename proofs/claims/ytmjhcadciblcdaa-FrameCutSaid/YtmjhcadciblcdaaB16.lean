import Derived.Test.YtmjhcadciblcdaaB15
import Derived.Test.YtmjhcadciblcdaaX16
namespace Go.Proofs.Ytmjhcadciblcdaa
open Go Go.Sx
set_option linter.unusedVariables false
set_option linter.unusedSimpArgs false

theorem encI_pos {n : Int} (h1 : -9223372036854775808 ≤ n) (h2 : n ≤ 9223372036854775807) : 0 < (encI n).length := by
  have h := num_encI h1 h2 []
  have k := num_ok (encI n ++ [])
  rw [h] at k
  simp only at k
  omega
theorem bit_of (pn i : Nat) (hi : i < 32) (hp : pn ≤ 4294967295) : (IntKind.u32.wrap
        ↑(BitVec.ofInt IntKind.u32.bits ((pn : Int).fdiv (2 ^ min (IntKind.u64.wrap (i : Int)).toNat IntKind.u32.bits)) &&&
              BitVec.ofInt IntKind.u32.bits 1).toNat == 1) = pn.testBit i := by
  have e32 : IntKind.u32.bits = 32 := rfl
  have wi : IntKind.u64.wrap (i : Int) = i := by rw [u64_wrap]; omega
  have hd : (pn : Int).fdiv (2 ^ min (IntKind.u64.wrap (i : Int)).toNat IntKind.u32.bits) = ((BitVec.ofNat 32 (pn / 2 ^ i)).toNat : Int) := by
    have hlt : pn / 2 ^ i < 2 ^ 32 := Nat.lt_of_le_of_lt (Nat.div_le_self _ _) (by omega)
    rw [wi, e32, Int.toNat_natCast, Nat.min_eq_left (by omega), BitVec.toNat_ofNat, Nat.mod_eq_of_lt hlt]
    rw [Int.fdiv_eq_ediv_of_nonneg _ (by exact Int.le_of_lt (Int.pow_pos (by decide)))]
    rw [Int.natCast_ediv]
    simp
  rw [hd]
  have h := and32 (BitVec.ofNat 32 (pn / 2 ^ i)) 1#32
  rw [show (((1#32 : BitVec 32).toNat : Nat) : Int) = 1 from rfl] at h
  rw [h, and_one]
  have hlt : pn / 2 ^ i < 2 ^ 32 := Nat.lt_of_le_of_lt (Nat.div_le_self _ _) (by omega)
  rw [BitVec.toNat_ofNat, Nat.mod_eq_of_lt hlt, Nat.testBit_eq_decide_div_mod_eq]
  by_cases hb : pn / 2 ^ i % 2 = 1
  · rw [hb]; simp
  · rw [decide_eq_false hb, beq_eq_false_iff_ne]; omega
theorem one_shl {j : Nat} (h : j < 8) : IntKind.u8.wrap (1 * 2 ^ min ((j : Int)).toNat IntKind.u8.bits) = ((oneB j).toNat : Int) := by
  have e8 : IntKind.u8.bits = 8 := rfl
  have hlt : 2 ^ j < 2 ^ 8 := Nat.pow_lt_pow_right (by decide) h
  rw [e8, Int.toNat_natCast, Nat.min_eq_left (by omega), oneB_nat h, u8_wrap, Int.one_mul]
  have : ((2 : Int) ^ j) = ((2 ^ j : Nat) : Int) := by simp
  rw [this]
  exact Int.emod_eq_of_lt (Int.natCast_nonneg _) (Int.ofNat_lt.2 hlt)
theorem FrameTurned_spec (a0 : Option Addr) (k0 : Nat) (l0 : List UInt8) (z p : Int) (n0 : a0 = none → l0 = []) (q0 : l0.length ≤ 1048576) (hz1 : -9223372036854775808 ≤ z) (hz2 : z ≤ 9223372036854775807) (hp1 : 0 ≤ p) (hp2 : p ≤ 4294967295) :
    Does Try.prog 8 [.slice a0 l0.length k0, .int .i64 z, .int .u32 p] [ro a0 (u8s l0)] (fun v hp' => v = .bool true ∧ hp' = []) := by
  by_cases h1 : 100000 < l0.length
  · refine fn_enter Try.func8 rfl 126 rfl fun w0 h0 => ?_
    refine wpc_seq ?_
    refine wpc_region [0] (by kernel_rfl) ?_
    refine wpr_run (l₂ := []) true [0] [] [(6, Value.bool false), (0, Value.slice a0 l0.length k0), (1, Value.int IntKind.i64 z), (2, Value.int IntKind.u32 p)] [ro a0 (u8s l0)] [] (by kernel_rfl) (by kernel_rfl) trivial ?_
    refine wpr_nil ?_
    refine nx_then ?_
    refine wpc_seq ?_
    refine wpc_seq ?_
    refine wpc_region [0, 1, 2, 3, 4, 5, 6] (by kernel_rfl) ?_
    refine wpr_run (l₂ := [4, 5, 6]) true [0, 1, 2, 3] [] [(19, Value.bool (decide ((↑l0.length : Int) > 100000))), (6, Value.bool false), (0, Value.slice a0 l0.length k0), (1, Value.int IntKind.i64 z), (2, Value.int IntKind.u32 p)] [ro a0 (u8s l0)] [] (by kernel_rfl) (by kernel_rfl) trivial ?_
    refine wpr_ent (ent_set 19 (Value.bool (decide ((↑l0.length : Int) > 100000))) (Value.bool true) (by kernel_rfl) (congrArg _ (decide_eq_true (by omega)))) ?_
    refine wpr_run (l₂ := []) true [4, 5, 6] [] [(22, Value.bool true), (6, Value.bool false), (0, Value.slice a0 l0.length k0), (1, Value.int IntKind.i64 z), (2, Value.int IntKind.u32 p)] [ro a0 (u8s l0)] [] (by kernel_rfl) (by kernel_rfl) trivial ?_
    refine wpr_nil ?_
    refine nx_then ?_
    refine wpc_true (by kernel_rfl) ?_
    refine wpc_seq ?_
    refine wpc_region [0, 1] (by kernel_rfl) ?_
    refine wpr_call (dst := some 23) (rest := [ro a0 (u8s l0)]) (by kernel_rfl) (lives_spec) (give [] (by kernel_rfl)) ?_
    rintro v _ ⟨rfl, rfl⟩
    refine wpr_run (l₂ := []) true [1] [] [(6, Value.bool true), (0, Value.slice a0 l0.length k0), (1, Value.int IntKind.i64 z), (2, Value.int IntKind.u32 p)] [ro a0 (u8s l0)] [] (by kernel_rfl) (by kernel_rfl) trivial ?_
    refine wpr_nil ?_
    refine nx_then ?_
    refine wpc_ret ?_
    refine nx_then_ret ?_
    refine nx_end (hp' := []) (rest := [ro a0 (u8s l0)]) [] ((Value.bool true)) (by kernel_rfl) (by kernel_rfl) (give [] (by kernel_rfl)) (by first | ((repeat (first | exact trivial | refine ⟨trivial, ?_⟩)); done) | assumption) ?_ (.inr rfl)
    exact ⟨rfl, rfl⟩
  by_cases h2 : p = 0
  · subst h2
    refine fn_enter Try.func8 rfl 126 rfl fun w0 h0 => ?_
    refine wpc_seq ?_
    refine wpc_region [0] (by kernel_rfl) ?_
    refine wpr_run (l₂ := []) true [0] [] [(6, Value.bool false), (0, Value.slice a0 l0.length k0), (1, Value.int IntKind.i64 z), (2, Value.int IntKind.u32 0)] [ro a0 (u8s l0)] [] (by kernel_rfl) (by kernel_rfl) trivial ?_
    refine wpr_nil ?_
    refine nx_then ?_
    refine wpc_seq ?_
    refine wpc_seq ?_
    refine wpc_region [0, 1, 2, 3, 4, 5, 6] (by kernel_rfl) ?_
    refine wpr_run (l₂ := [4, 5, 6]) true [0, 1, 2, 3] [] [(19, Value.bool (decide ((↑l0.length : Int) > 100000))), (6, Value.bool false), (0, Value.slice a0 l0.length k0), (1, Value.int IntKind.i64 z), (2, Value.int IntKind.u32 0)] [ro a0 (u8s l0)] [] (by kernel_rfl) (by kernel_rfl) trivial ?_
    refine wpr_ent (ent_set 19 (Value.bool (decide ((↑l0.length : Int) > 100000))) (Value.bool false) (by kernel_rfl) (congrArg _ (decide_eq_false (by omega)))) ?_
    refine wpr_run (l₂ := []) true [4, 5, 6] [] [(22, Value.bool true), (6, Value.bool false), (0, Value.slice a0 l0.length k0), (1, Value.int IntKind.i64 z), (2, Value.int IntKind.u32 0)] [ro a0 (u8s l0)] [] (by kernel_rfl) (by kernel_rfl) trivial ?_
    refine wpr_nil ?_
    refine nx_then ?_
    refine wpc_true (by kernel_rfl) ?_
    refine wpc_seq ?_
    refine wpc_region [0, 1] (by kernel_rfl) ?_
    refine wpr_call (dst := some 23) (rest := [ro a0 (u8s l0)]) (by kernel_rfl) (lives_spec) (give [] (by kernel_rfl)) ?_
    rintro v _ ⟨rfl, rfl⟩
    refine wpr_run (l₂ := []) true [1] [] [(6, Value.bool true), (0, Value.slice a0 l0.length k0), (1, Value.int IntKind.i64 z), (2, Value.int IntKind.u32 0)] [ro a0 (u8s l0)] [] (by kernel_rfl) (by kernel_rfl) trivial ?_
    refine wpr_nil ?_
    refine nx_then ?_
    refine wpc_ret ?_
    refine nx_then_ret ?_
    refine nx_end (hp' := []) (rest := [ro a0 (u8s l0)]) [] ((Value.bool true)) (by kernel_rfl) (by kernel_rfl) (give [] (by kernel_rfl)) (by first | ((repeat (first | exact trivial | refine ⟨trivial, ?_⟩)); done) | assumption) ?_ (.inr rfl)
    exact ⟨rfl, rfl⟩
  have hF := frameL_length l0
  have hE := encI_len (n := (l0.length : Int)) (by omega) (by omega)
  have hP := encI_pos (n := (l0.length : Int)) (by omega) (by omega)
  refine fn_enter Try.func8 rfl 126 rfl fun w0 h0 => ?_
  refine wpc_seq ?_
  refine wpc_region [0] (by kernel_rfl) ?_
  refine wpr_run (l₂ := []) true [0] [] [(6, Value.bool false), (0, Value.slice a0 l0.length k0), (1, Value.int IntKind.i64 z), (2, Value.int IntKind.u32 p)] [ro a0 (u8s l0)] [] (by kernel_rfl) (by kernel_rfl) trivial ?_
  refine wpr_nil ?_
  refine nx_then ?_
  refine wpc_seq ?_
  refine wpc_seq ?_
  refine wpc_region [0, 1, 2, 3, 4, 5, 6] (by kernel_rfl) ?_
  refine wpr_run (l₂ := [4, 5, 6]) true [0, 1, 2, 3] [] [(19, Value.bool (decide ((↑l0.length : Int) > 100000))), (6, Value.bool false), (0, Value.slice a0 l0.length k0), (1, Value.int IntKind.i64 z), (2, Value.int IntKind.u32 p)] [ro a0 (u8s l0)] [] (by kernel_rfl) (by kernel_rfl) trivial ?_
  refine wpr_ent (ent_set 19 (Value.bool (decide ((↑l0.length : Int) > 100000))) (Value.bool false) (by kernel_rfl) (congrArg _ (decide_eq_false (by omega)))) ?_
  refine wpr_run (l₂ := []) true [4, 5, 6] [] [(22, Value.bool (p == 0)), (6, Value.bool false), (0, Value.slice a0 l0.length k0), (1, Value.int IntKind.i64 z), (2, Value.int IntKind.u32 p)] [ro a0 (u8s l0)] [] (by kernel_rfl) (by kernel_rfl) trivial ?_
  refine wpr_nil ?_
  refine nx_then ?_
  refine wpc_ent (ent_set 22 (Value.bool (p == 0)) (Value.bool false) (by kernel_rfl) (congrArg _ (by simp only [bne_eq_false_iff_eq, beq_eq_false_iff_ne, ne_eq]; omega))) ?_
  refine wpc_false (by kernel_rfl) ?_
  refine wpc_skip ?_
  refine nx_then ?_
  refine wpc_seq ?_
  refine wpc_region [0, 1, 2, 3, 4, 5, 6] (by kernel_rfl) ?_
  refine wpr_run (l₂ := [1, 2, 3, 4, 5, 6]) true [0] [] [(25, Value.slice a0 l0.length k0), (6, Value.bool false), (0, Value.slice a0 l0.length k0), (1, Value.int IntKind.i64 z), (2, Value.int IntKind.u32 p)] [ro a0 (u8s l0)] [] (by kernel_rfl) (by kernel_rfl) trivial ?_
  refine wpr_ent (ent_nil 5 1) ?_
  refine wpr_ent (ent_turn 0 (ro none (u8s [])) rfl (turn_view view_row) rfl) ?_
  refine wpr_call (dst := some 26) (rest := [ro none (u8s []), ro a0 (u8s l0)]) (by kernel_rfl) (Put_spec none a0 0 k0 [] l0 (fun _ => rfl) n0 (by decide) (by omega)) (Give.view (c := (ro none (u8s []))) (Give.view (c := (ro a0 (u8s l0))) (give (pre := []) (rest := [ro none (u8s []), ro a0 (u8s l0)]) [] (by kernel_rfl)) 1 (by kernel_rfl) view_ro) 0 (by kernel_rfl) view_ro) ?_
  rintro v _ hv
  rw [if_neg (by omega), List.nil_append] at hv
  obtain ⟨a, c, rfl, rfl⟩ := hv
  refine wpr_fact (fun w h => row_addr h 0 rfl (by omega)) ?_
  rintro ⟨g, o, rfl⟩
  have hw : IntKind.u64.wrap (8 * ((frameL l0).length : Int) - 8 * (((frameL l0).length : Int) - (l0.length : Int) - 4)) = ((8 * (l0.length + 4) : Nat) : Int) := by rw [u64_wrap]; omega
  obtain ⟨m, hm, hml⟩ : ∃ m : Nat, IntKind.i64.wrap ((IntKind.u64.wrap z).tmod (IntKind.u64.wrap (8 * ((frameL l0).length : Int) - 8 * (((frameL l0).length : Int) - (l0.length : Int) - 4)))) = m ∧ m < 8 * (l0.length + 4) := by
    rw [hw]
    have hz0 : 0 ≤ IntKind.u64.wrap z := by rw [u64_wrap]; omega
    rw [Int.tmod_eq_emod_of_nonneg hz0]
    have a1 : 0 ≤ IntKind.u64.wrap z % ((8 * (l0.length + 4) : Nat) : Int) := Int.emod_nonneg _ (by omega)
    have a2 : IntKind.u64.wrap z % ((8 * (l0.length + 4) : Nat) : Int) < ((8 * (l0.length + 4) : Nat) : Int) := Int.emod_lt_of_pos _ (by omega)
    refine ⟨(IntKind.u64.wrap z % ((8 * (l0.length + 4) : Nat) : Int)).toNat, ?_, by omega⟩
    rw [i64_wrap]
    split <;> omega
  refine wpr_run (l₂ := []) true [2, 3, 4, 5, 6] [] [(8, Value.int IntKind.i64 0), (7, Value.slice (some { block := g, off := o }) (frameL l0).length c), (6, Value.bool false), (0, Value.slice a0 l0.length k0), (1, Value.int IntKind.i64 z), (2, Value.int IntKind.u32 p)] [row 5 1 (some { block := g, off := o }) (frameL l0).length c (u8s (frameL l0)), ro none (u8s []), ro a0 (u8s l0)] [] (by kernel_rfl) (by kernel_rfl) trivial ?_
  refine wpr_nil ?_
  refine nx_then ?_
  refine wpc_seq ?_
  refine wpc_seq ?_
  refine wpc_region [0, 1, 2, 3, 4, 5, 6, 7, 8, 9] (by kernel_rfl) ?_
  refine wpr_run (l₂ := []) true [0, 1, 2, 3, 4, 5, 6, 7, 8, 9] [] ([(38, Value.bool (decide ((↑(frameL l0).length : Int) < (↑l0.length : Int) + 5))), (7, Value.slice (some { block := g, off := o }) (frameL l0).length c), (6, Value.bool false), (0, Value.slice a0 l0.length k0), (1, Value.int IntKind.i64 z), (2, Value.int IntKind.u32 p)]) [row 5 1 (some { block := g, off := o }) (frameL l0).length c (u8s (frameL l0)), ro none (u8s []), ro a0 (u8s l0)] ([inI64 ((↑l0.length : Int) + (5 : Int))]) (by kernel_rfl) (by kernel_rfl) ⟨by unfold inI64; omega, trivial⟩ ?_
  refine wpr_nil ?_
  refine nx_then ?_
  refine wpc_ent (ent_set 38 (Value.bool (decide ((↑(frameL l0).length : Int) < (↑l0.length : Int) + 5))) (Value.bool false) (by kernel_rfl) (congrArg _ (decide_eq_false (by omega)))) ?_
  refine wpc_false (by kernel_rfl) ?_
  refine wpc_skip ?_
  refine nx_then ?_
  refine wpc_seq ?_
  refine wpc_region [0, 1, 2, 3, 4, 5, 6, 7] (by kernel_rfl) ?_
  refine wpr_run (l₂ := []) true [0, 1, 2, 3, 4, 5, 6, 7] [] [(9, Value.int IntKind.i64 (8 * ((↑(frameL l0).length : Int) - (↑l0.length : Int) - 4))), (7, Value.slice (some { block := g, off := o }) (frameL l0).length c), (6, Value.bool false), (0, Value.slice a0 l0.length k0), (1, Value.int IntKind.i64 z), (2, Value.int IntKind.u32 p)] [row 5 1 (some { block := g, off := o }) (frameL l0).length c (u8s (frameL l0)), ro none (u8s []), ro a0 (u8s l0)] [inI64 ((↑(frameL l0).length : Int) - (↑l0.length : Int)), inI64 ((↑(frameL l0).length : Int) - (↑l0.length : Int) - (4 : Int)), inI64 ((8 : Int) * ((↑(frameL l0).length : Int) - (↑l0.length : Int) - (4 : Int)))] (by kernel_rfl) (by kernel_rfl) ⟨by unfold inI64; omega, by unfold inI64; omega, by unfold inI64; omega, trivial⟩ ?_
  refine wpr_nil ?_
  refine nx_then ?_
  refine wpc_seq ?_
  refine wpc_region [0, 1, 2, 3, 4, 5, 6, 7, 8, 9, 10, 11, 12] (by kernel_rfl) ?_
  refine wpr_run (l₂ := []) true [0, 1, 2, 3, 4, 5, 6, 7, 8, 9, 10, 11, 12] [] ([(10, Value.int IntKind.i64 (8 * ((↑(frameL l0).length : Int) - (↑l0.length : Int) - 4) + IntKind.i64.wrap ((IntKind.u64.wrap z).tmod (IntKind.u64.wrap (8 * (↑(frameL l0).length : Int) - 8 * ((↑(frameL l0).length : Int) - (↑l0.length : Int) - 4)))))), (7, Value.slice (some { block := g, off := o }) (frameL l0).length c), (6, Value.bool false), (0, Value.slice a0 l0.length k0), (2, Value.int IntKind.u32 p)]) [row 5 1 (some { block := g, off := o }) (frameL l0).length c (u8s (frameL l0)), ro none (u8s []), ro a0 (u8s l0)] ([inI64 ((8 : Int) * (↑(frameL l0).length : Int)), inI64 ((8 : Int) * (↑(frameL l0).length : Int) - (8 : Int) * ((↑(frameL l0).length : Int) - (↑l0.length : Int) - (4 : Int))), IntKind.u64.wrap ((8 : Int) * (↑(frameL l0).length : Int) - (8 : Int) * ((↑(frameL l0).length : Int) - (↑l0.length : Int) - (4 : Int))) ≠ (0 : Int), inI64 ((8 : Int) * ((↑(frameL l0).length : Int) - (↑l0.length : Int) - (4 : Int)) + IntKind.i64.wrap ((IntKind.u64.wrap z).tmod (IntKind.u64.wrap ((8 : Int) * (↑(frameL l0).length : Int) - (8 : Int) * ((↑(frameL l0).length : Int) - (↑l0.length : Int) - (4 : Int))))))]) (by kernel_rfl) (by kernel_rfl) ⟨by unfold inI64; omega, by unfold inI64; omega, by omega, by unfold inI64; omega, trivial⟩ ?_
  refine wpr_nil ?_
  refine nx_then ?_
  refine wpc_seq ?_
  refine wpc_region [0] (by kernel_rfl) ?_
  refine wpr_run (l₂ := []) true [0] [] ([(11, Value.bool false), (10, Value.int IntKind.i64 (8 * ((↑(frameL l0).length : Int) - (↑l0.length : Int) - 4) + IntKind.i64.wrap ((IntKind.u64.wrap z).tmod (IntKind.u64.wrap (8 * (↑(frameL l0).length : Int) - 8 * ((↑(frameL l0).length : Int) - (↑l0.length : Int) - 4)))))), (7, Value.slice (some { block := g, off := o }) (frameL l0).length c), (6, Value.bool false), (0, Value.slice a0 l0.length k0), (2, Value.int IntKind.u32 p)]) [row 5 1 (some { block := g, off := o }) (frameL l0).length c (u8s (frameL l0)), ro none (u8s []), ro a0 (u8s l0)] [] (by kernel_rfl) (by kernel_rfl) trivial ?_
  refine wpr_nil ?_
  refine nx_then ?_
  refine wpc_seq ?_
  refine wpc_seq ?_
  refine wpc_region [0] (by kernel_rfl) ?_
  refine wpr_run (l₂ := []) true [0] [] ([(12, Value.int IntKind.i64 0), (11, Value.bool false), (10, Value.int IntKind.i64 (8 * ((↑(frameL l0).length : Int) - (↑l0.length : Int) - 4) + IntKind.i64.wrap ((IntKind.u64.wrap z).tmod (IntKind.u64.wrap (8 * (↑(frameL l0).length : Int) - 8 * ((↑(frameL l0).length : Int) - (↑l0.length : Int) - 4)))))), (7, Value.slice (some { block := g, off := o }) (frameL l0).length c), (6, Value.bool false), (0, Value.slice a0 l0.length k0), (2, Value.int IntKind.u32 p)]) [row 5 1 (some { block := g, off := o }) (frameL l0).length c (u8s (frameL l0)), ro none (u8s []), ro a0 (u8s l0)] [] (by kernel_rfl) (by kernel_rfl) trivial ?_
  refine wpr_nil ?_
  refine nx_then ?_
  refine wpc_block ?_
  refine wpc_ent (ent_set 10 (Value.int IntKind.i64 (8 * ((↑(frameL l0).length : Int) - (↑l0.length : Int) - 4) + IntKind.i64.wrap ((IntKind.u64.wrap z).tmod (IntKind.u64.wrap (8 * (↑(frameL l0).length : Int) - 8 * ((↑(frameL l0).length : Int) - (↑l0.length : Int) - 4)))))) (Value.int .i64 ((8 * (encI l0.length).length + m : Nat) : Int)) (by kernel_rfl) (by rw [hm]; congr 1; omega)) ?_
  obtain ⟨K, hK⟩ : ∃ K, K = (encI l0.length).length := ⟨_, rfl⟩
  rw [← hK] at hF hE hP ⊢
  obtain ⟨k, hk⟩ : ∃ k, k = 8 * K + m := ⟨_, rfl⟩
  rw [← hk]
  obtain ⟨pn, rfl⟩ : ∃ n : Nat, p = n := ⟨p.toNat, by omega⟩
  obtain ⟨F, hFF⟩ : ∃ F, F = frameL l0 := ⟨_, rfl⟩
  rw [← hFF] at hF ⊢
  have hkF : k < 8 * F.length := by omega
  refine wpc_loop (X := {x : Nat × Bool // x.1 ≤ 32 ∧ k + x.1 ≤ 8 * F.length ∧ (x.2 = true ↔ ∃ j, j < x.1 ∧ pn.testBit j = true)}) (fun x => St.mk [(12, .int .i64 (x.1.1 : Int)), (11, .bool x.1.2), (10, .int .i64 (k : Int)), (7, .slice (some ⟨g, o, none⟩) F.length c), (6, .bool false), (0, .slice a0 l0.length k0), (2, .int .u32 (pn : Int))] [row 5 1 (some ⟨g, o, none⟩) F.length c (u8s (burst pn k F x.1.1)), ro a0 (u8s l0)]) (fun x => 32 - x.1.1) ⟨(0, false), by decide, by omega, by simp⟩ (Ent.trans (ent_hp [0, 1] rfl) (ent_fr (by kernel_rfl))) ?_
  rintro ⟨⟨i, tu⟩, hi, hki, htu⟩
  dsimp only at hi hki htu ⊢
  refine wpc_seq ?_
  refine wpc_seq ?_
  refine wpc_region [0, 1, 2, 3, 4, 5, 6, 7, 8, 9, 10] (by kernel_rfl) ?_
  refine wpr_run (l₂ := [3, 4, 5, 6, 7, 8, 9, 10]) true [0, 1, 2] [] [(60, Value.bool (decide ((↑i : Int) < 32))), (12, Value.int IntKind.i64 (↑i : Int)), (11, Value.bool tu), (10, Value.int IntKind.i64 (↑k : Int)), (7, Value.slice (some { block := g, off := o }) F.length c), (6, Value.bool false), (0, Value.slice a0 l0.length k0), (2, Value.int IntKind.u32 (↑pn : Int))] [row 5 1 (some { block := g, off := o }) F.length c (u8s (burst pn k F i)), ro a0 (u8s l0)] [] (by kernel_rfl) (by kernel_rfl) trivial ?_
  refine wpr_join ⟨[(68, Value.bool (decide (i < 32 ∧ k + i < 8 * F.length))), (12, (Value.int IntKind.i64 (↑i : Int))), (11, (Value.bool tu)), (10, (Value.int IntKind.i64 (↑k : Int))), (7, (Value.slice (some { block := g, off := o }) F.length c)), (6, (Value.bool false)), (0, (Value.slice a0 l0.length k0)), (2, (Value.int IntKind.u32 (↑pn : Int)))], [row 5 1 (some { block := g, off := o }) F.length c (u8s (burst pn k F i)), ro a0 (u8s l0)]⟩ (fun Q1 hQ1 hk2 => ?_) ?_
  · refine wpr_casep 60 (((↑i : Int) < 32)) (by kernel_rfl) (fun h => ?_) (fun h => ?_)
    · refine wpr_run (l₂ := []) true [3, 4, 5, 6, 7, 8, 9, 10] [] ([(68, Value.bool (decide ((↑k : Int) + (↑i : Int) < 8 * (↑F.length : Int)))), (12, Value.int IntKind.i64 (↑i : Int)), (11, Value.bool tu), (10, Value.int IntKind.i64 (↑k : Int)), (7, Value.slice (some { block := g, off := o }) F.length c), (6, Value.bool false), (0, Value.slice a0 l0.length k0), (2, Value.int IntKind.u32 (↑pn : Int))]) [row 5 1 (some { block := g, off := o }) F.length c (u8s (burst pn k F i)), ro a0 (u8s l0)] ([inI64 ((↑k : Int) + (↑i : Int)), inI64 ((8 : Int) * (↑F.length : Int))]) (by kernel_rfl) (by kernel_rfl) ⟨by unfold inI64; omega, by unfold inI64; omega, trivial⟩ ?_
      refine wpr_nil ?_
      refine nx_ent (ent_set 68 (Value.bool (decide ((↑k : Int) + (↑i : Int) < 8 * (↑F.length : Int)))) (Value.bool (decide (i < 32 ∧ k + i < 8 * F.length))) (by kernel_rfl) (congrArg _ (decide_eq_decide.2 (by omega)))) ?_
      exact nx_ent (ent_fr (by kernel_rfl)) hk2
    · refine wpr_run (l₂ := []) true [3, 4, 5, 6, 7, 8, 9, 10] [] [(68, Value.bool false), (12, Value.int IntKind.i64 (↑i : Int)), (11, Value.bool tu), (10, Value.int IntKind.i64 (↑k : Int)), (7, Value.slice (some { block := g, off := o }) F.length c), (6, Value.bool false), (0, Value.slice a0 l0.length k0), (2, Value.int IntKind.u32 (↑pn : Int))] [row 5 1 (some { block := g, off := o }) F.length c (u8s (burst pn k F i)), ro a0 (u8s l0)] [] (by kernel_rfl) (by kernel_rfl) trivial ?_
      refine wpr_nil ?_
      refine nx_ent (ent_set 68 (Value.bool false) (Value.bool (decide (i < 32 ∧ k + i < 8 * F.length))) (by kernel_rfl) (congrArg _ (decide_eq_false (by omega)).symm)) ?_
      exact nx_ent (ent_fr (by kernel_rfl)) hk2
  refine nx_then ?_
  refine wpc_if ((i < 32 ∧ k + i < 8 * F.length)) (by kernel_rfl) (fun hlt => ?_) (fun hlt => ?_)
  · have wi : IntKind.u64.wrap (i : Int) = i := by rw [u64_wrap]; omega
    refine wpc_skip ?_
    refine nx_then ?_
    refine wpc_seq ?_
    refine wpc_block ?_
    refine wpc_seq ?_
    refine wpc_region [0, 1, 2, 3, 4, 5] (by kernel_rfl) ?_
    refine wpr_run (l₂ := []) true [0, 1, 2, 3, 4, 5] [] [(76, Value.bool (IntKind.u32.wrap (↑(BitVec.ofInt IntKind.u32.bits ((↑pn : Int).fdiv (2 ^ min (IntKind.u64.wrap (↑i : Int)).toNat IntKind.u32.bits)) &&& BitVec.ofInt IntKind.u32.bits 1).toNat : Int) == 1)), (12, Value.int IntKind.i64 (↑i : Int)), (11, Value.bool tu), (10, Value.int IntKind.i64 (↑k : Int)), (7, Value.slice (some { block := g, off := o }) F.length c), (6, Value.bool false), (0, Value.slice a0 l0.length k0), (2, Value.int IntKind.u32 (↑pn : Int))] [row 5 1 (some { block := g, off := o }) F.length c (u8s (burst pn k F i)), ro a0 (u8s l0)] [(0 : Int) ≤ IntKind.u64.wrap (↑i : Int)] (by kernel_rfl) (by kernel_rfl) ⟨by omega, trivial⟩ ?_
    refine wpr_nil ?_
    refine nx_then ?_
    refine wpc_ent (ent_set 76 (Value.bool (IntKind.u32.wrap (↑(BitVec.ofInt IntKind.u32.bits ((↑pn : Int).fdiv (2 ^ min (IntKind.u64.wrap (↑i : Int)).toNat IntKind.u32.bits)) &&& BitVec.ofInt IntKind.u32.bits 1).toNat : Int) == 1)) (Value.bool (pn.testBit i)) (by kernel_rfl) (congrArg _ (bit_of pn i hlt.1 (by omega)))) ?_
    have td : ((k : Int) + (i : Int)).tdiv 8 = (((k + i) / 8 : Nat) : Int) := by rw [Int.tdiv_eq_ediv_of_nonneg (by omega)]; omega
    have tm : ((k : Int) + (i : Int)).tmod 8 = (((k + i) % 8 : Nat) : Int) := by rw [Int.tmod_eq_emod_of_nonneg (by omega)]; omega
    have hq : (k + i) / 8 < (burst pn k F i).length := by rw [burst_len]; omega
    have wm : IntKind.u64.wrap (((k : Int) + (i : Int)).tmod 8) = (((k + i) % 8 : Nat) : Int) := by rw [tm, u64_wrap]; omega
    refine wpc_cond ((pn.testBit i)) (by kernel_rfl) (fun hb => ?_) (fun hb => ?_)
    · refine wpc_seq ?_
      refine wpc_region [0, 1, 2, 3, 4, 5, 6, 7, 8, 9, 10, 11, 12, 13, 14, 15] (by kernel_rfl) ?_
      refine wpr_run (l₂ := [6, 7, 8, 9, 10, 11, 12, 13, 14, 15]) true [0, 1, 2, 3, 4, 5] [] ([(82, Value.pointer (some { block := g, off := o + (((↑k : Int) + (↑i : Int)).tdiv 8).toNat * 1 })), (81, Value.int IntKind.i64 (((↑k : Int) + (↑i : Int)).tdiv 8)), (77, Value.slice (some { block := g, off := o }) F.length c), (12, Value.int IntKind.i64 (↑i : Int)), (11, Value.bool tu), (10, Value.int IntKind.i64 (↑k : Int)), (7, Value.slice (some { block := g, off := o }) F.length c), (6, Value.bool false), (0, Value.slice a0 l0.length k0), (2, Value.int IntKind.u32 (↑pn : Int))]) [row 5 1 (some { block := g, off := o }) F.length c (u8s (burst pn k F i)), ro a0 (u8s l0)] ([inI64 ((↑k : Int) + (↑i : Int)), (8 : Int) ≠ (0 : Int) ∧ inI64 (((↑k : Int) + (↑i : Int)).tdiv (8 : Int)), (0 : Int) ≤ ((↑k : Int) + (↑i : Int)).tdiv (8 : Int) ∧ ((↑k : Int) + (↑i : Int)).tdiv (8 : Int) < (↑F.length : Int)]) (by kernel_rfl) (by kernel_rfl) ⟨by unfold inI64; omega, by unfold inI64; omega, by omega, trivial⟩ ?_
      rw [td, Int.toNat_natCast]
      refine wpr_eq (ld (t := 5) (a := ({ block := g, off := o + (k + i) / 8 * 1 })) (dst := some 83) (by kernel_rfl) false 1 (by kernel_rfl) (by simp) [.int .u8 ((burst pn k F i)[(k + i) / 8]).toNat] rfl (fun w h => ld_row h 0 rfl ((k + i) / 8 * 1) (u8_at1 hq))) ?_
      refine wpr_run (l₂ := [15]) true [7, 8, 9, 10, 11, 12, 13, 14] [] ([(91, Value.pointer (some { block := g, off := o + (k + i) / 8 * 1 })), (90, Value.int IntKind.u8 (IntKind.u8.wrap (↑(BitVec.ofInt IntKind.u8.bits (↑(burst pn k F i)[(k + i) / 8].toNat : Int) ^^^ BitVec.ofInt IntKind.u8.bits (IntKind.u8.wrap (1 * 2 ^ min (IntKind.u64.wrap (((↑k : Int) + (↑i : Int)).tmod 8)).toNat IntKind.u8.bits))).toNat : Int))), (12, Value.int IntKind.i64 (↑i : Int)), (11, Value.bool tu), (10, Value.int IntKind.i64 (↑k : Int)), (7, Value.slice (some { block := g, off := o }) F.length c), (6, Value.bool false), (0, Value.slice a0 l0.length k0), (2, Value.int IntKind.u32 (↑pn : Int))]) [row 5 1 (some { block := g, off := o }) F.length c (u8s (burst pn k F i)), ro a0 (u8s l0)] ([inI64 ((↑k : Int) + (↑i : Int)), (8 : Int) ≠ (0 : Int), (0 : Int) ≤ IntKind.u64.wrap (((↑k : Int) + (↑i : Int)).tmod (8 : Int)), (0 : Int) ≤ (↑((k + i) / (8 : Nat)) : Int) ∧ (↑((k + i) / (8 : Nat)) : Int) < (↑F.length : Int)]) (by kernel_rfl) (by kernel_rfl) ⟨by unfold inI64; omega, by omega, by omega, by omega, trivial⟩ ?_
      have hfl : (burst pn k F i).set ((k + i) / 8) ((burst pn k F i)[(k + i) / 8] ^^^ oneB ((k + i) % 8)) = burst pn k F (i + 1) := by
        show _ = if pn.testBit i then flipB (burst pn k F i) (k + i) else burst pn k F i
        rw [if_pos hb]
        have hgd : (burst pn k F i).getD ((k + i) / 8) 0 = (burst pn k F i)[(k + i) / 8] := by simp [List.getD, hq]
        unfold flipB
        rw [hgd]
      refine wpr_ent (ent_set 90 (Value.int IntKind.u8 (IntKind.u8.wrap (↑(BitVec.ofInt IntKind.u8.bits (↑(burst pn k F i)[(k + i) / 8].toNat : Int) ^^^ BitVec.ofInt IntKind.u8.bits (IntKind.u8.wrap (1 * 2 ^ min (IntKind.u64.wrap (((↑k : Int) + (↑i : Int)).tmod 8)).toNat IntKind.u8.bits))).toNat : Int))) (Value.int .u8 (((burst pn k F i)[(k + i) / 8] ^^^ oneB ((k + i) % 8)).toNat : Int)) (by kernel_rfl) (by rw [wm, one_shl (Nat.mod_lt _ (by decide)), xor_u8])) ?_
      refine wpr_eq (stq' (t := 5) (g := g) (off := o) (q := ((k + i) / 8 * 1)) (v := (Value.int IntKind.u8 (↑((burst pn k F i)[(k + i) / 8] ^^^ oneB ((k + i) % 8)).toNat : Int))) (dst := none) (by kernel_rfl) 0 (T := 5) (sz := 1) (n := F.length) (cap := c) (xs := (u8s (burst pn k F i))) (by kernel_rfl) [.int .u8 (((burst pn k F i)[(k + i) / 8] ^^^ oneB ((k + i) % 8)).toNat : Int)] (by kernel_rfl) (by kernel_rfl) (by simp [Go.Sx.One, Value.oneCell']) (by rw [u8s_len, burst_len]; simp; omega) (xs' := (u8s (burst pn k F (i + 1)))) ((u8_set1 hq _).trans (congrArg u8s hfl))) ?_
      refine wpr_nil ?_
      refine nx_then ?_
      refine wpc_region [0] (by kernel_rfl) ?_
      refine wpr_run (l₂ := []) true [0] [] [(11, Value.bool true), (12, Value.int IntKind.i64 (↑i : Int)), (10, Value.int IntKind.i64 (↑k : Int)), (7, Value.slice (some { block := g, off := o }) F.length c), (6, Value.bool false), (0, Value.slice a0 l0.length k0), (2, Value.int IntKind.u32 (↑pn : Int))] ([row 5 1 (some { block := g, off := o }) F.length c (u8s (burst pn k F (i + 1))), ro a0 (u8s l0)]) [] (by kernel_rfl) (by kernel_rfl) trivial ?_
      refine wpr_nil ?_
      refine nx_block ?_
      refine nx_then ?_
      refine wpc_region [0, 1, 2] (by kernel_rfl) ?_
      refine wpr_run (l₂ := []) true [0, 1, 2] [] ([(12, Value.int IntKind.i64 ((↑i : Int) + 1)), (11, Value.bool true), (10, Value.int IntKind.i64 (↑k : Int)), (7, Value.slice (some { block := g, off := o }) F.length c), (6, Value.bool false), (0, Value.slice a0 l0.length k0), (2, Value.int IntKind.u32 (↑pn : Int))]) ([row 5 1 (some { block := g, off := o }) F.length c (u8s (burst pn k F (i + 1))), ro a0 (u8s l0)]) ([inI64 ((↑i : Int) + (1 : Int))]) (by kernel_rfl) (by kernel_rfl) ⟨by unfold inI64; omega, trivial⟩ ?_
      refine wpr_nil ?_
      exact fun a' w' hS' => ⟨⟨(i + 1, true), by omega, by omega, ⟨fun _ => ⟨i, Nat.lt_succ_self i, hb⟩, fun _ => rfl⟩⟩, by dsimp only; omega, ent_fr (by kernel_rfl) _ _ (ent_hp [0, 0] rfl _ _ hS')⟩
    · have hbu : burst pn k F (i + 1) = burst pn k F i := by
        show (if pn.testBit i then flipB (burst pn k F i) (k + i) else burst pn k F i) = _
        rw [hb]; rfl
      rw [← hbu]
      refine wpc_skip ?_
      refine nx_block ?_
      refine nx_then ?_
      refine wpc_region [0, 1, 2] (by kernel_rfl) ?_
      refine wpr_run (l₂ := []) true [0, 1, 2] [] ([(12, Value.int IntKind.i64 ((↑i : Int) + 1)), (11, Value.bool tu), (10, Value.int IntKind.i64 (↑k : Int)), (7, Value.slice (some { block := g, off := o }) F.length c), (6, Value.bool false), (0, Value.slice a0 l0.length k0), (2, Value.int IntKind.u32 (↑pn : Int))]) ([row 5 1 (some { block := g, off := o }) F.length c (u8s (burst pn k F (i + 1))), ro a0 (u8s l0)]) ([inI64 ((↑i : Int) + (1 : Int))]) (by kernel_rfl) (by kernel_rfl) ⟨by unfold inI64; omega, trivial⟩ ?_
      refine wpr_nil ?_
      exact fun a' w' hS' => ⟨⟨(i + 1, tu), by omega, by omega, htu.trans ⟨fun ⟨j, h1, h2⟩ => ⟨j, by omega, h2⟩, fun ⟨j, h1, h2⟩ => ⟨j, Nat.lt_of_le_of_ne (by omega) (fun e => by subst e; rw [hb] at h2; cases h2), h2⟩⟩⟩, by dsimp only; omega, ent_fr (by kernel_rfl) _ _ (ent_hp [0, 0] rfl _ _ hS')⟩
  · refine wpc_exit ?_
    refine nx_then_exit ?_
    refine nx_then_exit ?_
    refine nx_block_here ?_
    refine nx_then ?_
    refine wpc_seq ?_
    refine wpc_region [0, 1, 2, 3, 4, 5, 6, 7, 8] (by kernel_rfl) ?_
    refine wpr_run (l₂ := [1, 2, 3, 4, 5, 6, 7, 8]) true [0] [] [(93, Value.slice (some { block := g, off := o }) F.length c), (11, Value.bool tu), (6, Value.bool false), (0, Value.slice a0 l0.length k0)] [row 5 1 (some { block := g, off := o }) F.length c (u8s (burst pn k F i)), ro a0 (u8s l0)] [] (by kernel_rfl) (by kernel_rfl) trivial ?_
    refine wpr_fact (fun w h => row_cap h 0 rfl) fun hcap => ?_
    refine wpr_ent (ent_turn 0 (ro (some ⟨g, o, none⟩) (u8s (burst pn k F i))) rfl (turn_view view_row) rfl) ?_
    refine wpr_ent (ent_set 93 (Value.slice (some { block := g, off := o }) F.length c) (Value.slice (some ⟨g, o, none⟩) (burst pn k F i).length c) (by kernel_rfl) (by rw [burst_len])) ?_
    have hbl := burst_len pn k F i
    refine wpr_call (dst := some 94) (rest := [ro (some { block := g, off := o }) (u8s (burst pn k F i)), ro a0 (u8s l0)]) (by kernel_rfl) (Get_spec (some ⟨g, o, none⟩) c (burst pn k F i) 0 (by decide) (by decide) (by intro e; cases e) (by intro ad h; cases h; rfl) (by omega) (by omega)) (Give.view (c := (ro (some { block := g, off := o }) (u8s (burst pn k F i)))) (give (pre := []) (rest := [ro (some { block := g, off := o }) (u8s (burst pn k F i)), ro a0 (u8s l0)]) [] (by kernel_rfl)) 0 (by kernel_rfl) view_ro) ?_
    rintro v _ ⟨a2, c2, hn2, rfl, rfl⟩
    cases tu with
    | false =>
      have hsame : burst pn k F i = F := burst_same pn k F i (fun j hj => by
        cases hb : pn.testBit j with
        | false => rfl
        | true => exact absurd (htu.2 ⟨j, hj, hb⟩) (by simp))
      have hG : getL (burst pn k F i) 0 = (l0, (F.length : Int), 0) := by
        have h := getL_back [] l0 [] (by omega)
        rw [List.append_nil, List.nil_append, ← hFF] at h
        rw [hsame]; exact h
      rw [hG] at hn2 ⊢
      dsimp only at hn2 ⊢
      refine wpr_run (l₂ := []) true [2, 3, 4, 5, 6, 7, 8] [] [(15, Value.int IntKind.i64 0), (14, Value.int IntKind.i64 (↑F.length : Int)), (13, Value.slice a2 l0.length c2), (11, Value.bool false), (6, Value.bool false), (0, Value.slice a0 l0.length k0)] [row 5 1 a2 l0.length c2 (u8s l0), ro (some { block := g, off := o }) (u8s (burst pn k F i)), ro a0 (u8s l0)] [] (by kernel_rfl) (by kernel_rfl) trivial ?_
      refine wpr_nil ?_
      refine nx_then ?_
      refine wpc_seq ?_
      refine wpc_seq ?_
      refine wpc_region [0, 1] (by kernel_rfl) ?_
      refine wpr_run (l₂ := []) true [0, 1] [] [(99, Value.bool true), (15, Value.int IntKind.i64 0), (14, Value.int IntKind.i64 (↑F.length : Int)), (13, Value.slice a2 l0.length c2), (6, Value.bool false), (0, Value.slice a0 l0.length k0)] [row 5 1 a2 l0.length c2 (u8s l0), ro (some { block := g, off := o }) (u8s (burst pn k F i)), ro a0 (u8s l0)] [] (by kernel_rfl) (by kernel_rfl) trivial ?_
      refine wpr_nil ?_
      refine nx_then ?_
      refine wpc_true (by kernel_rfl) ?_
      refine wpc_seq ?_
      refine wpc_region [0, 1, 2, 3, 4, 5, 6, 7, 8, 9, 10, 11, 12] (by kernel_rfl) ?_
      refine wpr_run (l₂ := [4, 5, 6, 7, 8, 9, 10, 11, 12]) true [0, 1, 2, 3] [] [(103, Value.slice a2 l0.length c2), (102, Value.bool true), (15, Value.int IntKind.i64 0), (14, Value.int IntKind.i64 (↑F.length : Int)), (13, Value.slice a2 l0.length c2), (6, Value.bool false), (0, Value.slice a0 l0.length k0)] [row 5 1 a2 l0.length c2 (u8s l0), ro (some { block := g, off := o }) (u8s (burst pn k F i)), ro a0 (u8s l0)] [] (by kernel_rfl) (by kernel_rfl) trivial ?_
      refine wpr_eq (b2s (a := 22) (b := 9) (ad := a2) (n := l0.length) (c := c2) (dst := some 104) (by kernel_rfl) (by kernel_rfl) l0 (by first | rfl | simp) (fun w h => b2s_row h 0 rfl)) ?_
      refine wpr_run (l₂ := [6, 7, 8, 9, 10, 11, 12]) true [5] [] [(105, Value.slice a0 l0.length k0), (104, Value.string (mkS l0)), (102, Value.bool true), (15, Value.int IntKind.i64 0), (14, Value.int IntKind.i64 (↑F.length : Int)), (13, Value.slice a2 l0.length c2), (6, Value.bool false)] [row 5 1 a2 l0.length c2 (u8s l0), ro (some { block := g, off := o }) (u8s (burst pn k F i)), ro a0 (u8s l0)] [] (by kernel_rfl) (by kernel_rfl) trivial ?_
      refine wpr_eq (b2s (a := 22) (b := 9) (ad := a0) (n := l0.length) (c := k0) (dst := some 106) (by kernel_rfl) (by kernel_rfl) l0 (by first | rfl | simp) (fun w h => b2s_ro h 2 rfl)) ?_
      refine wpr_run (l₂ := [10, 11, 12]) true [7, 8, 9] [] [(109, Value.bool (decide (l0 = l0))), (15, Value.int IntKind.i64 0), (14, Value.int IntKind.i64 (↑F.length : Int)), (13, Value.slice a2 l0.length c2), (6, Value.bool false)] [row 5 1 a2 l0.length c2 (u8s l0), ro (some { block := g, off := o }) (u8s (burst pn k F i)), ro a0 (u8s l0)] [] (by kernel_rfl) (by kernel_rfl) trivial ?_
      refine wpr_ent (ent_set 109 (Value.bool (decide (l0 = l0))) (Value.bool true) (by kernel_rfl) (congrArg _ (by simp))) ?_
      refine wpr_call (dst := some 110) (rest := [row 5 1 a2 l0.length c2 (u8s l0), ro (some { block := g, off := o }) (u8s (burst pn k F i)), ro a0 (u8s l0)]) (by kernel_rfl) (lives_spec) (give [] (by kernel_rfl)) ?_
      rintro v _ ⟨rfl, rfl⟩
      refine wpr_run (l₂ := []) true [11, 12] [] [(6, Value.bool true), (15, Value.int IntKind.i64 0), (14, Value.int IntKind.i64 (↑F.length : Int)), (13, Value.slice a2 l0.length c2)] [row 5 1 a2 l0.length c2 (u8s l0), ro (some { block := g, off := o }) (u8s (burst pn k F i)), ro a0 (u8s l0)] [] (by kernel_rfl) (by kernel_rfl) trivial ?_
      refine wpr_nil ?_
      refine nx_then ?_
      refine wpc_ret ?_
      refine nx_then_ret ?_
      refine nx_end (hp' := []) (rest := [row 5 1 a2 l0.length c2 (u8s l0), ro (some { block := g, off := o }) (u8s (burst pn k F i)), ro a0 (u8s l0)]) [] ((Value.bool true)) (by kernel_rfl) (by kernel_rfl) (give [] (by kernel_rfl)) (by first | ((repeat (first | exact trivial | refine ⟨trivial, ?_⟩)); done) | assumption) ?_ (.inr rfl)
      exact ⟨rfl, rfl⟩
    | true =>
      obtain ⟨j, hj, hb⟩ := htu.1 rfl
      have hG : getL (burst pn k F i) 0 = ([], 0, 4) := by
        refine getL_turned l0 _ (by omega) (by rw [burst_len, hFF]) ?_ ?_
        · rw [burst_take _ _ _ _ (by omega), hFF, frameL_eq, List.append_assoc, List.take_left]
        · rw [← hFF]; exact burst_crc_ne hi hki hj hb _
      rw [hG] at hn2 ⊢
      dsimp only at hn2 ⊢
      refine wpr_run (l₂ := []) true [2, 3, 4, 5, 6, 7, 8] [] [(15, Value.int IntKind.i64 4), (14, Value.int IntKind.i64 0), (13, Value.slice a2 0 c2), (11, Value.bool true), (6, Value.bool false), (0, Value.slice a0 l0.length k0)] [row 5 1 a2 0 c2 (u8s []), ro (some { block := g, off := o }) (u8s (burst pn k F i)), ro a0 (u8s l0)] [] (by kernel_rfl) (by kernel_rfl) trivial ?_
      refine wpr_nil ?_
      refine nx_then ?_
      refine wpc_seq ?_
      refine wpc_seq ?_
      refine wpc_region [0, 1] (by kernel_rfl) ?_
      refine wpr_run (l₂ := []) true [0, 1] [] [(99, Value.bool false), (15, Value.int IntKind.i64 4), (14, Value.int IntKind.i64 0), (13, Value.slice a2 0 c2), (6, Value.bool false), (0, Value.slice a0 l0.length k0)] [row 5 1 a2 0 c2 (u8s []), ro (some { block := g, off := o }) (u8s (burst pn k F i)), ro a0 (u8s l0)] [] (by kernel_rfl) (by kernel_rfl) trivial ?_
      refine wpr_nil ?_
      refine nx_then ?_
      refine wpc_false (by kernel_rfl) ?_
      refine wpc_skip ?_
      refine nx_then ?_
      refine wpc_seq ?_
      refine wpc_region [0, 1, 2, 3, 4, 5, 6, 7, 8, 9, 10, 11, 12, 13, 14] (by kernel_rfl) ?_
      refine wpr_run (l₂ := [12, 13, 14]) true [0, 1, 2, 3, 4, 5, 6, 7, 8, 9, 10, 11] [] [(123, Value.bool true), (6, Value.bool false)] [row 5 1 a2 0 c2 (u8s []), ro (some { block := g, off := o }) (u8s (burst pn k F i)), ro a0 (u8s l0)] [] (by kernel_rfl) (by kernel_rfl) trivial ?_
      refine wpr_call (dst := some 124) (rest := [row 5 1 a2 0 c2 (u8s []), ro (some { block := g, off := o }) (u8s (burst pn k F i)), ro a0 (u8s l0)]) (by kernel_rfl) (lives_spec) (give [] (by kernel_rfl)) ?_
      rintro v _ ⟨rfl, rfl⟩
      refine wpr_run (l₂ := []) true [13, 14] [] [(6, Value.bool true)] [row 5 1 a2 0 c2 (u8s []), ro (some { block := g, off := o }) (u8s (burst pn k F i)), ro a0 (u8s l0)] [] (by kernel_rfl) (by kernel_rfl) trivial ?_
      refine wpr_nil ?_
      refine nx_then ?_
      refine wpc_ret ?_
      refine nx_end (hp' := []) (rest := [row 5 1 a2 0 c2 (u8s []), ro (some { block := g, off := o }) (u8s (burst pn k F i)), ro a0 (u8s l0)]) [] ((Value.bool true)) (by kernel_rfl) (by kernel_rfl) (give [] (by kernel_rfl)) (by first | ((repeat (first | exact trivial | refine ⟨trivial, ?_⟩)); done) | assumption) ?_ (.inr rfl)
      exact ⟨rfl, rfl⟩
end Go.Proofs.Ytmjhcadciblcdaa
