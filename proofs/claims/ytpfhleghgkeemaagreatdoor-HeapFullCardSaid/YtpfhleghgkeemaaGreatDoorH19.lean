import Derived.Test.YtpfhleghgkeemaaGreatDoorH9
import Derived.Test.YtpfhleghgkeemaaGreatDoorI1
import Derived.Test.YtpfhleghgkeemaaGreatDoorX16
namespace Go.Proofs.YtpfhleghgkeemaaGreatDoor
open Go Go.Sx
set_option linter.unusedSimpArgs false

theorem FormatBool0_spec (b : Bool) : Does Tryz.prog 131 [.bool b] [] (fun v hp' => v = .string (mkS (if b then [116, 114, 117, 101] else [102, 97, 108, 115, 101])) ∧ hp' = []) := by
  cases b with
  | true =>
    refine fn_enter Tryz.func131 rfl 4 rfl fun w0 h0 => ?_
    refine wpc_seq ?_
    refine wpc_region [0] (by kernel_rfl) ?_
    refine wpr_run (l₂ := []) true [0] [] [(2, .string ⟨#[]⟩), (0, .bool true)] [] [] (by kernel_rfl) (by kernel_rfl) trivial ?_
    refine wpr_nil (nx_then (wpc_seq (wpc_seq ?_)))
    refine wpc_region [0] (by kernel_rfl) ?_
    refine wpr_run (l₂ := []) true [0] [] [(3, .bool true), (2, .string ⟨#[]⟩)] [] [] (by kernel_rfl) (by kernel_rfl) trivial ?_
    refine wpr_nil (nx_then ?_)
    refine wpc_true (by kernel_rfl) ?_
    refine wpc_seq ?_
    refine wpc_region [0] (by kernel_rfl) ?_
    refine wpr_run (l₂ := []) true [0] [] [(2, .string (ByteArray.mk #[116, 114, 117, 101]))] [] [] (by kernel_rfl) (by kernel_rfl) trivial ?_
    refine wpr_nil (nx_then ?_)
    refine wpc_ret ?_
    refine nx_then_ret ?_
    refine nx_end (hp' := []) (rest := []) [] ((.string (ByteArray.mk #[116, 114, 117, 101]))) (by kernel_rfl) (by kernel_rfl) give_all (by first | ((repeat (first | exact trivial | refine ⟨trivial, ?_⟩)); done) | assumption) ?_ (.inr rfl)
    exact ⟨rfl, rfl⟩
  | false =>
    refine fn_enter Tryz.func131 rfl 4 rfl fun w0 h0 => ?_
    refine wpc_seq ?_
    refine wpc_region [0] (by kernel_rfl) ?_
    refine wpr_run (l₂ := []) true [0] [] [(2, .string ⟨#[]⟩), (0, .bool false)] [] [] (by kernel_rfl) (by kernel_rfl) trivial ?_
    refine wpr_nil (nx_then (wpc_seq (wpc_seq ?_)))
    refine wpc_region [0] (by kernel_rfl) ?_
    refine wpr_run (l₂ := []) true [0] [] [(3, .bool false), (2, .string ⟨#[]⟩)] [] [] (by kernel_rfl) (by kernel_rfl) trivial ?_
    refine wpr_nil (nx_then ?_)
    refine wpc_false (by kernel_rfl) ?_
    refine wpc_skip ?_
    refine nx_then (wpc_seq ?_)
    refine wpc_region [0] (by kernel_rfl) ?_
    refine wpr_run (l₂ := []) true [0] [] [(2, .string (ByteArray.mk #[102, 97, 108, 115, 101]))] [] [] (by kernel_rfl) (by kernel_rfl) trivial ?_
    refine wpr_nil (nx_then ?_)
    refine wpc_ret ?_
    refine nx_end (hp' := []) (rest := []) [] ((.string (ByteArray.mk #[102, 97, 108, 115, 101]))) (by kernel_rfl) (by kernel_rfl) give_all (by first | ((repeat (first | exact trivial | refine ⟨trivial, ?_⟩)); done) | assumption) ?_ (.inr rfl)
    exact ⟨rfl, rfl⟩
theorem FormatBool_spec (b : Bool) : Does Tryz.prog 94 [.bool b] [] (fun v hp' => v = .string (mkS (if b then [116, 114, 117, 101] else [102, 97, 108, 115, 101])) ∧ hp' = []) := by
  refine fn_enter Tryz.func94 rfl 5 rfl fun w0 h0 => ?_
  refine wpc_seq ?_
  refine wpc_region [0] (by kernel_rfl) ?_
  refine wpr_run (l₂ := []) true [0] [] [(2, .string ⟨#[]⟩), (0, .bool b)] [] [] (by kernel_rfl) (by kernel_rfl) trivial ?_
  refine wpr_nil (nx_then (wpc_seq ?_))
  refine wpc_region [0, 1, 2] (by kernel_rfl) ?_
  refine wpr_run (l₂ := [1, 2]) true [0] [] [(3, .bool b), (2, .string ⟨#[]⟩)] [] [] (by kernel_rfl) (by kernel_rfl) trivial ?_
  refine wpr_call_all (dst := some 4) (by kernel_rfl) (FormatBool0_spec b) give_all ?_
  rintro v _ ⟨rfl, rfl⟩
  refine wpr_run (l₂ := []) true [2] [] [(2, .string (mkS (if b = true then [116, 114, 117, 101] else [102, 97, 108, 115, 101])))] [] [] (by kernel_rfl) (by kernel_rfl) trivial ?_
  refine wpr_nil (nx_then ?_)
  refine wpc_ret ?_
  refine nx_end (hp' := []) (rest := []) [] ((.string (mkS (if b = true then [116, 114, 117, 101] else [102, 97, 108, 115, 101])))) (by kernel_rfl) (by kernel_rfl) give_all (by first | ((repeat (first | exact trivial | refine ⟨trivial, ?_⟩)); done) | assumption) ?_ (.inr rfl)
  exact ⟨rfl, rfl⟩
theorem dec_len (n : Nat) (k : Nat) (h : n < 10 ^ k) : (Lib.decDigits n).length ≤ max k 1 := by
  induction k generalizing n with
  | zero => simp at h; subst h; rw [Lib.decDigits]; simp
  | succ k ih =>
    rw [Lib.decDigits]
    split
    · simp
    · rw [List.length_append]
      have h2 := ih (n / 10) (by rw [Nat.pow_succ] at h; omega)
      have hk : 1 ≤ k := by
        rcases Nat.eq_zero_or_pos k with rfl | h3
        · simp at h; omega
        · exact h3
      simp only [List.length_singleton]; omega
theorem rDigits_spec (n : Nat) (h : n < 9223372036854775808) : Does Tryz.prog 143 [.int .i64 n] [] (fun v hp' => v = .string (mkS (Lib.decDigits n)) ∧ hp' = []) := by
  induction n using Nat.strongRecOn with
  | _ n ih =>
    by_cases h10 : n < 10
    · have hd : Lib.decDigits n = [UInt8.ofNat (48 + n)] := by rw [Lib.decDigits, dif_pos h10]
      rw [hd]
      refine fn_enter Tryz.func143 rfl 20 rfl fun w0 h0 => ?_
      refine wpc_seq ?_
      refine wpc_region [0] (by kernel_rfl) ?_
      refine wpr_run (l₂ := []) true [0] [] [(2, .string ⟨#[]⟩), (0, .int .i64 (↑n : Int))] [] [] (by kernel_rfl) (by kernel_rfl) trivial ?_
      refine wpr_nil (nx_then (wpc_seq (wpc_seq ?_)))
      refine wpc_region [0, 1] (by kernel_rfl) ?_
      refine wpr_run (l₂ := []) true [0, 1] [] [(4, .bool (decide ((↑n : Int) < 10))), (2, .string ⟨#[]⟩), (0, .int .i64 (↑n : Int))] [] [] (by kernel_rfl) (by kernel_rfl) trivial ?_
      refine wpr_nil (nx_then ?_)
      refine wpc_ent (ent_set 4 (.bool (decide ((↑n : Int) < 10))) (.bool true) (by kernel_rfl) (congrArg _ (decide_eq_true (by omega)))) ?_
      refine wpc_true (by kernel_rfl) ?_
      refine wpc_seq ?_
      refine wpc_region [0, 1, 2, 3, 4, 5] (by kernel_rfl) ?_
      refine wpr_new (l₂ := [4, 5]) true [0, 1, 2, 3] [] (fun g1 => [(8, .slice (some ⟨g1, 0, none⟩) 1 1), (2, .string ⟨#[]⟩), (0, .int .i64 (↑n : Int))]) (fun g1 => ([.blk g1 5 [.int .u8 (IntKind.u8.wrap (48 + (↑n : Int)))]])) (fun g1 => ([inI64 ((48 : Int) + (↑n : Int))])) (fun g1 => by kernel_rfl) (fun g1 => by kernel_rfl) (fun g1 => ⟨by unfold inI64; omega, trivial⟩) fun g1 => ?_
      refine wpr_run (l₂ := []) true [4, 5] [0] ([(2, .string (ByteArray.empty.push (UInt8.ofNat (IntKind.u8.wrap (48 + (↑n : Int))).toNat))), (0, .int .i64 (↑n : Int))]) ([.blk g1 5 [.int .u8 (IntKind.u8.wrap (48 + (↑n : Int)))]]) [] (by kernel_rfl) (by kernel_rfl) trivial ?_
      refine wpr_nil (nx_then ?_)
      refine wpc_ret ?_
      refine nx_then_ret ?_
      refine nx_end (hp' := []) (rest := ([.blk g1 5 [.int .u8 (IntKind.u8.wrap (48 + (↑n : Int)))]])) [] ((.string (ByteArray.empty.push (UInt8.ofNat (IntKind.u8.wrap (48 + (↑n : Int))).toNat)))) (by kernel_rfl) (by kernel_rfl) (give [] (by kernel_rfl)) (by first | ((repeat (first | exact trivial | refine ⟨trivial, ?_⟩)); done) | assumption) ?_ (.inr rfl)
      have hw : IntKind.u8.wrap (48 + (n : Int)) = ((48 + n : Nat) : Int) := by rw [IntKind.wrap_u8]; omega
      refine ⟨?_, rfl⟩
      rw [hw, Int.toNat_natCast]; rfl
    · have hd : Lib.decDigits n = Lib.decDigits (n / 10) ++ [UInt8.ofNat (48 + n % 10)] := by rw [Lib.decDigits, dif_neg h10]
      have hlen : (Lib.decDigits (n / 10)).length ≤ 19 := by have := dec_len (n / 10) 19 (by omega); omega
      have hsz : (mkS (Lib.decDigits (n / 10))).size = (Lib.decDigits (n / 10)).length := mkS_size _
      rw [hd]
      have hq : ((n : Int)).tdiv 10 = ((n / 10 : Nat) : Int) := by rw [Int.tdiv_eq_ediv_of_nonneg (by omega)]; omega
      have hm : ((n : Int)).tmod 10 = ((n % 10 : Nat) : Int) := by rw [Int.tmod_eq_emod_of_nonneg (by omega)]; omega
      have hs1 : (ByteArray.empty.push (UInt8.ofNat (IntKind.u8.wrap (48 + (n : Int).tmod 10)).toNat)).size = 1 := rfl
      have hih := ih (n / 10) (by omega) (by omega)
      rw [← hq] at hih
      have hw : IntKind.u8.wrap (48 + ((n % 10 : Nat) : Int)) = ((48 + n % 10 : Nat) : Int) := by rw [IntKind.wrap_u8]; omega
      refine fn_enter Tryz.func143 rfl 20 rfl fun w0 h0 => ?_
      refine wpc_seq ?_
      refine wpc_region [0] (by kernel_rfl) ?_
      refine wpr_run (l₂ := []) true [0] [] [(2, .string ⟨#[]⟩), (0, .int .i64 (↑n : Int))] [] [] (by kernel_rfl) (by kernel_rfl) trivial ?_
      refine wpr_nil (nx_then (wpc_seq (wpc_seq ?_)))
      refine wpc_region [0, 1] (by kernel_rfl) ?_
      refine wpr_run (l₂ := []) true [0, 1] [] [(4, .bool (decide ((↑n : Int) < 10))), (2, .string ⟨#[]⟩), (0, .int .i64 (↑n : Int))] [] [] (by kernel_rfl) (by kernel_rfl) trivial ?_
      refine wpr_nil (nx_then ?_)
      refine wpc_ent (ent_set 4 (.bool (decide ((↑n : Int) < 10))) (.bool false) (by kernel_rfl) (congrArg _ (decide_eq_false (by omega)))) ?_
      refine wpc_false (by kernel_rfl) ?_
      refine wpc_skip ?_
      refine nx_then (wpc_seq ?_)
      refine wpc_draw (by kernel_rfl) [] (sub_of [] (by kernel_rfl)) 11 (by kernel_rfl) ?_
      refine wpa_take true [(0, []), (1, []), (3, []), (4, []), (5, []), (6, [])] ([(16, .int .u8 (IntKind.u8.wrap (48 + (↑n : Int).tmod 10))), (11, .int .i64 ((↑n : Int).tdiv 10)), (2, .string ⟨#[]⟩)]) (#[true, true, false, true, true, true, true, false, false, false, false]) ([(10 : Int) ≠ (0 : Int) ∧ inI64 ((↑n : Int).tdiv (10 : Int)), (10 : Int) ≠ (0 : Int), inI64 ((48 : Int) + (↑n : Int).tmod (10 : Int))]) (n := 5) (by kernel_rfl) (by kernel_rfl) (by kernel_rfl) ⟨by unfold inI64; omega, by first | omega | decide | (simp; done), by unfold inI64; omega, trivial⟩ ?_
      refine wpa_two (i := 2) (j := 7) (n := 4) (by kernel_rfl) ?_ ?_
      · refine wpi_call (i := 2) (dst := some 12) (rest := []) (by kernel_rfl) (hih) give_all (sub_of [] (by kernel_rfl)) ?_
        rintro v _ ⟨rfl, rfl⟩
        refine wpa_new (n := 3) true 7 [] (fun g1 => [(17, .slice (some ⟨g1, 0, none⟩) 1 1), (12, .string (mkS (Lib.decDigits (n / 10)))), (2, .string ⟨#[]⟩)]) (fun g1 => ([.blk g1 5 [.int .u8 (IntKind.u8.wrap (48 + (↑n : Int).tmod 10))]])) (fun g1 => []) (by kernel_rfl) (fun g1 => by kernel_rfl) (fun g1 => by kernel_rfl) (fun g1 => trivial) (fun g1 => sub_of [] (by kernel_rfl)) fun g1 => ?_
        refine wpa_one (n := 2) true 8 [0] ([(18, .string (ByteArray.empty.push (UInt8.ofNat (IntKind.u8.wrap (48 + (↑n : Int).tmod 10)).toNat))), (12, .string (mkS (Lib.decDigits (n / 10)))), (2, .string ⟨#[]⟩)]) ([.blk g1 5 [.int .u8 (IntKind.u8.wrap (48 + (↑n : Int).tmod 10))]]) [] (by kernel_rfl) (by kernel_rfl) (by kernel_rfl) trivial (sub_of [] (by kernel_rfl)) ?_
        refine wpa_take true [(9, []), (10, [])] ([(2, .string (mkS (Lib.decDigits (n / 10) ++ (ByteArray.empty.push (UInt8.ofNat (IntKind.u8.wrap (48 + (↑n : Int).tmod 10)).toNat)).data.toList)))]) (#[true, true, true, true, true, true, true, true, true, true, true]) ([(Lib.decDigits (n / (10 : Nat))).length + (ByteArray.empty.push (UInt8.ofNat (IntKind.u8.wrap ((48 : Int) + (↑n : Int).tmod (10 : Int))).toNat)).size ≤ (9223372036854775807 : Nat)]) (n := 0) (by kernel_rfl) (by kernel_rfl) (by kernel_rfl) ⟨by first | omega | decide | (simp; done), trivial⟩ ?_
        refine wpa_done 0 (by kernel_rfl) ?_
        refine nx_then ?_
        refine wpc_ret ?_
        refine nx_end (hp' := []) (rest := ([.blk g1 5 [.int .u8 (IntKind.u8.wrap (48 + (↑n : Int).tmod 10))]])) [] ((.string (mkS (Lib.decDigits (n / 10) ++ (ByteArray.empty.push (UInt8.ofNat (IntKind.u8.wrap (48 + (↑n : Int).tmod 10)).toNat)).data.toList)))) (by kernel_rfl) (by kernel_rfl) (give [] (by kernel_rfl)) (by first | ((repeat (first | exact trivial | refine ⟨trivial, ?_⟩)); done) | assumption) ?_ (.inr rfl)
        refine ⟨?_, rfl⟩
        rw [hm, hw, Int.toNat_natCast]; first | done | rfl
      · refine wpi_new (n := 4) true 7 [] (fun g1 => [(17, .slice (some ⟨g1, 0, none⟩) 1 1), (11, .int .i64 ((↑n : Int).tdiv 10)), (2, .string ⟨#[]⟩)]) (fun g1 => ([.blk g1 5 [.int .u8 (IntKind.u8.wrap (48 + (↑n : Int).tmod 10))]])) (fun g1 => []) (fun g1 => by kernel_rfl) (fun g1 => by kernel_rfl) (fun g1 => trivial) (fun g1 => sub_of [] (by kernel_rfl)) fun g1 => ?_
        refine wpa_two (i := 2) (j := 8) (n := 3) (by kernel_rfl) ?_ ?_
        · refine wpi_call (i := 2) (dst := some 12) (rest := ([.blk g1 5 [.int .u8 (IntKind.u8.wrap (48 + (↑n : Int).tmod 10))]])) (by kernel_rfl) (hih) (give [] (by kernel_rfl)) (sub_of [] (by kernel_rfl)) ?_
          rintro v _ ⟨rfl, rfl⟩
          refine wpa_one (n := 2) true 8 [0] ([(18, .string (ByteArray.empty.push (UInt8.ofNat (IntKind.u8.wrap (48 + (↑n : Int).tmod 10)).toNat))), (12, .string (mkS (Lib.decDigits (n / 10)))), (2, .string ⟨#[]⟩)]) ([.blk g1 5 [.int .u8 (IntKind.u8.wrap (48 + (↑n : Int).tmod 10))]]) [] (by kernel_rfl) (by kernel_rfl) (by kernel_rfl) trivial (sub_of [] (by kernel_rfl)) ?_
          refine wpa_take true [(9, []), (10, [])] ([(2, .string (mkS (Lib.decDigits (n / 10) ++ (ByteArray.empty.push (UInt8.ofNat (IntKind.u8.wrap (48 + (↑n : Int).tmod 10)).toNat)).data.toList)))]) (#[true, true, true, true, true, true, true, true, true, true, true]) ([(Lib.decDigits (n / (10 : Nat))).length + (ByteArray.empty.push (UInt8.ofNat (IntKind.u8.wrap ((48 : Int) + (↑n : Int).tmod (10 : Int))).toNat)).size ≤ (9223372036854775807 : Nat)]) (n := 0) (by kernel_rfl) (by kernel_rfl) (by kernel_rfl) ⟨by first | omega | decide | (simp; done), trivial⟩ ?_
          refine wpa_done 0 (by kernel_rfl) ?_
          refine nx_then ?_
          refine wpc_ret ?_
          refine nx_end (hp' := []) (rest := ([.blk g1 5 [.int .u8 (IntKind.u8.wrap (48 + (↑n : Int).tmod 10))]])) [] ((.string (mkS (Lib.decDigits (n / 10) ++ (ByteArray.empty.push (UInt8.ofNat (IntKind.u8.wrap (48 + (↑n : Int).tmod 10)).toNat)).data.toList)))) (by kernel_rfl) (by kernel_rfl) (give [] (by kernel_rfl)) (by first | ((repeat (first | exact trivial | refine ⟨trivial, ?_⟩)); done) | assumption) ?_ (.inr rfl)
          refine ⟨?_, rfl⟩
          rw [hm, hw, Int.toNat_natCast]; first | done | rfl
        · refine wpi_one (n := 3) true 8 [0] ([(18, .string (ByteArray.empty.push (UInt8.ofNat (IntKind.u8.wrap (48 + (↑n : Int).tmod 10)).toNat))), (11, .int .i64 ((↑n : Int).tdiv 10)), (2, .string ⟨#[]⟩)]) ([.blk g1 5 [.int .u8 (IntKind.u8.wrap (48 + (↑n : Int).tmod 10))]]) [] (by kernel_rfl) (by kernel_rfl) trivial (sub_of [] (by kernel_rfl)) ?_
          refine wpa_call (i := 2) (n := 2) (dst := some 12) (rest := ([.blk g1 5 [.int .u8 (IntKind.u8.wrap (48 + (↑n : Int).tmod 10))]])) (by kernel_rfl) (by kernel_rfl) (hih) (give [] (by kernel_rfl)) (sub_of [] (by kernel_rfl)) ?_
          rintro v _ ⟨rfl, rfl⟩
          refine wpa_take true [(9, []), (10, [])] ([(2, .string (mkS (Lib.decDigits (n / 10) ++ (ByteArray.empty.push (UInt8.ofNat (IntKind.u8.wrap (48 + (↑n : Int).tmod 10)).toNat)).data.toList)))]) (#[true, true, true, true, true, true, true, true, true, true, true]) ([(Lib.decDigits (n / (10 : Nat))).length + (ByteArray.empty.push (UInt8.ofNat (IntKind.u8.wrap ((48 : Int) + (↑n : Int).tmod (10 : Int))).toNat)).size ≤ (9223372036854775807 : Nat)]) (n := 0) (by kernel_rfl) (by kernel_rfl) (by kernel_rfl) ⟨by first | omega | decide | (simp; done), trivial⟩ ?_
          refine wpa_done 0 (by kernel_rfl) ?_
          refine nx_then ?_
          refine wpc_ret ?_
          refine nx_end (hp' := []) (rest := ([.blk g1 5 [.int .u8 (IntKind.u8.wrap (48 + (↑n : Int).tmod 10))]])) [] ((.string (mkS (Lib.decDigits (n / 10) ++ (ByteArray.empty.push (UInt8.ofNat (IntKind.u8.wrap (48 + (↑n : Int).tmod 10)).toNat)).data.toList)))) (by kernel_rfl) (by kernel_rfl) (give [] (by kernel_rfl)) (by first | ((repeat (first | exact trivial | refine ⟨trivial, ?_⟩)); done) | assumption) ?_ (.inr rfl)
          refine ⟨?_, rfl⟩
          rw [hm, hw, Int.toNat_natCast]; first | done | rfl
theorem rDigits6_spec (n : Int) (h0 : -9223372036854775808 ≤ n) (h1 : n ≤ 9223372036854775807) : Does Tryz.prog 103 [.int .i64 n] [] (fun v hp' => v = .string (mkS (Lib.itoa n)) ∧ hp' = []) := by
  by_cases hn : n < 0
  · by_cases hm : n = -9223372036854775808
    · subst hm
      refine fn_enter Tryz.func103 rfl 13 rfl fun w0 h0 => ?_
      refine wpc_seq ?_
      refine wpc_region [0] (by kernel_rfl) ?_
      refine wpr_run (l₂ := []) true [0] [] [(2, .string ⟨#[]⟩), (0, .int .i64 (-9223372036854775808))] [] [] (by kernel_rfl) (by kernel_rfl) trivial ?_
      refine wpr_nil (nx_then (wpc_seq (wpc_seq ?_)))
      refine wpc_region [0, 1] (by kernel_rfl) ?_
      refine wpr_run (l₂ := []) true [0, 1] [] [(4, .bool true), (2, .string ⟨#[]⟩), (0, .int .i64 (-9223372036854775808))] [] [] (by kernel_rfl) (by kernel_rfl) trivial ?_
      refine wpr_nil (nx_then ?_)
      refine wpc_true (by kernel_rfl) ?_
      refine wpc_seq (wpc_seq ?_)
      refine wpc_region [0, 1] (by kernel_rfl) ?_
      refine wpr_run (l₂ := []) true [0, 1] [] [(6, .bool true), (2, .string ⟨#[]⟩), (0, .int .i64 (-9223372036854775808))] [] [] (by kernel_rfl) (by kernel_rfl) trivial ?_
      refine wpr_nil (nx_then ?_)
      refine wpc_true (by kernel_rfl) ?_
      refine wpc_seq ?_
      refine wpc_region [0] (by kernel_rfl) ?_
      refine wpr_run (l₂ := []) true [0] [] [(2, .string (ByteArray.mk #[45, 57, 50, 50, 51, 51, 55, 50, 48, 51, 54, 56, 53, 52, 55, 55, 53, 56, 48, 56])), (0, .int .i64 (-9223372036854775808))] [] [] (by kernel_rfl) (by kernel_rfl) trivial ?_
      refine wpr_nil (nx_then ?_)
      refine wpc_ret ?_
      refine nx_then_ret ?_
      refine nx_then_ret ?_
      refine nx_end (hp' := []) (rest := []) [] ((.string (ByteArray.mk #[45, 57, 50, 50, 51, 51, 55, 50, 48, 51, 54, 56, 53, 52, 55, 55, 53, 56, 48, 56]))) (by kernel_rfl) (by kernel_rfl) give_all (by first | ((repeat (first | exact trivial | refine ⟨trivial, ?_⟩)); done) | assumption) ?_ (.inr rfl)
      exact ⟨by rw [show Lib.itoa (-9223372036854775808) = [45, 57, 50, 50, 51, 51, 55, 50, 48, 51, 54, 56, 53, 52, 55, 55, 53, 56, 48, 56] by unfold Lib.itoa; rw [if_pos (by decide)]; simp [Lib.decDigits]]; rfl, rfl⟩
    · obtain ⟨m, rfl⟩ : ∃ m : Nat, n = -(m : Int) := ⟨n.natAbs, by omega⟩
      have hd := rDigits_spec m (by omega)
      have hlen : (Lib.decDigits m).length ≤ 19 := by have := dec_len m 19 (by omega); omega
      have hsz : (mkS (Lib.decDigits m)).size = (Lib.decDigits m).length := mkS_size _
      have hs45 : (ByteArray.mk #[45]).size = 1 := rfl
      have hnn : IntKind.i64.wrap (0 - -(m : Int)) = m := by rw [IntKind.wrap_i64]; omega
      have hit : Lib.itoa (-(m : Int)) = 45 :: Lib.decDigits m := by
        unfold Lib.itoa; rw [if_pos hn, Int.natAbs_neg, Int.natAbs_natCast]
      rw [hit]
      rw [← hnn] at hd
      refine fn_enter Tryz.func103 rfl 13 rfl fun w0 h0 => ?_
      refine wpc_seq ?_
      refine wpc_region [0] (by kernel_rfl) ?_
      refine wpr_run (l₂ := []) true [0] [] [(2, .string ⟨#[]⟩), (0, .int .i64 (-(↑m : Int)))] [] [] (by kernel_rfl) (by kernel_rfl) trivial ?_
      refine wpr_nil (nx_then (wpc_seq (wpc_seq ?_)))
      refine wpc_region [0, 1] (by kernel_rfl) ?_
      refine wpr_run (l₂ := []) true [0, 1] [] [(4, .bool (decide (-(↑m : Int) < 0))), (2, .string ⟨#[]⟩), (0, .int .i64 (-(↑m : Int)))] [] [] (by kernel_rfl) (by kernel_rfl) trivial ?_
      refine wpr_nil (nx_then ?_)
      refine wpc_ent (ent_set 4 (.bool (decide (-(↑m : Int) < 0))) (.bool true) (by kernel_rfl) (congrArg _ (decide_eq_true (by omega)))) ?_
      refine wpc_true (by kernel_rfl) ?_
      refine wpc_seq (wpc_seq ?_)
      refine wpc_region [0, 1] (by kernel_rfl) ?_
      refine wpr_run (l₂ := []) true [0, 1] [] [(6, .bool (-(↑m : Int) == -9223372036854775808)), (2, .string ⟨#[]⟩), (0, .int .i64 (-(↑m : Int)))] [] [] (by kernel_rfl) (by kernel_rfl) trivial ?_
      refine wpr_nil (nx_then ?_)
      refine wpc_ent (ent_set 6 (.bool (-(↑m : Int) == -9223372036854775808)) (.bool false) (by kernel_rfl) (congrArg _ (by simp only [bne_eq_false_iff_eq, beq_eq_false_iff_ne, ne_eq]; omega))) ?_
      refine wpc_false (by kernel_rfl) ?_
      refine wpc_skip ?_
      refine nx_then (wpc_seq ?_)
      refine wpc_region [0, 1, 2, 3, 4] (by kernel_rfl) ?_
      refine wpr_run (l₂ := [2, 3, 4]) true [0, 1] [] [(8, .int .i64 (IntKind.i64.wrap (0 - -(↑m : Int)))), (2, .string ⟨#[]⟩), (0, .int .i64 (-(↑m : Int)))] [] [] (by kernel_rfl) (by kernel_rfl) trivial ?_
      refine wpr_call_all (dst := some 9) (by kernel_rfl) (hd) give_all ?_
      rintro v _ ⟨rfl, rfl⟩
      refine wpr_run (l₂ := []) true [3, 4] [] ([(2, .string (mkS ([45] ++ Lib.decDigits m))), (0, .int .i64 (-(↑m : Int)))]) [] ([(ByteArray.mk #[(45 : UInt8)]).size + (Lib.decDigits m).length ≤ (9223372036854775807 : Nat)]) (by kernel_rfl) (by kernel_rfl) ⟨by first | omega | decide | (simp; done), trivial⟩ ?_
      refine wpr_nil (nx_then ?_)
      refine wpc_ret ?_
      refine nx_then_ret ?_
      refine nx_end (hp' := []) (rest := []) [] ((.string (mkS ([45] ++ Lib.decDigits m)))) (by kernel_rfl) (by kernel_rfl) give_all (by first | ((repeat (first | exact trivial | refine ⟨trivial, ?_⟩)); done) | assumption) ?_ (.inr rfl)
      exact ⟨rfl, rfl⟩
  · obtain ⟨m, rfl⟩ : ∃ m : Nat, n = (m : Int) := ⟨n.natAbs, by omega⟩
    have hd := rDigits_spec m (by omega)
    have hit : Lib.itoa (m : Int) = Lib.decDigits m := by
      unfold Lib.itoa; rw [if_neg hn, Int.toNat_natCast]
    rw [hit]
    refine fn_enter Tryz.func103 rfl 13 rfl fun w0 h0 => ?_
    refine wpc_seq ?_
    refine wpc_region [0] (by kernel_rfl) ?_
    refine wpr_run (l₂ := []) true [0] [] [(2, .string ⟨#[]⟩), (0, .int .i64 (↑m : Int))] [] [] (by kernel_rfl) (by kernel_rfl) trivial ?_
    refine wpr_nil (nx_then (wpc_seq (wpc_seq ?_)))
    refine wpc_region [0, 1] (by kernel_rfl) ?_
    refine wpr_run (l₂ := []) true [0, 1] [] [(4, .bool false), (2, .string ⟨#[]⟩), (0, .int .i64 (↑m : Int))] [] [] (by kernel_rfl) (by kernel_rfl) trivial ?_
    refine wpr_nil (nx_then ?_)
    refine wpc_false (by kernel_rfl) ?_
    refine wpc_skip ?_
    refine nx_then (wpc_seq ?_)
    refine wpc_region [0, 1, 2] (by kernel_rfl) ?_
    refine wpr_run (l₂ := [1, 2]) true [0] [] [(11, .int .i64 (↑m : Int)), (2, .string ⟨#[]⟩)] [] [] (by kernel_rfl) (by kernel_rfl) trivial ?_
    refine wpr_call_all (dst := some 12) (by kernel_rfl) (hd) give_all ?_
    rintro v _ ⟨rfl, rfl⟩
    refine wpr_run (l₂ := []) true [2] [] [(2, .string (mkS (Lib.decDigits m)))] [] [] (by kernel_rfl) (by kernel_rfl) trivial ?_
    refine wpr_nil (nx_then ?_)
    refine wpc_ret ?_
    refine nx_end (hp' := []) (rest := []) [] ((.string (mkS (Lib.decDigits m)))) (by kernel_rfl) (by kernel_rfl) give_all (by first | ((repeat (first | exact trivial | refine ⟨trivial, ?_⟩)); done) | assumption) ?_ (.inr rfl)
    exact ⟨rfl, rfl⟩
end Go.Proofs.YtpfhleghgkeemaaGreatDoor
