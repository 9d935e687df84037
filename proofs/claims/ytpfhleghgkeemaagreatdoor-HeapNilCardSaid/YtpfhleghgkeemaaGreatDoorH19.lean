import Derived.Test.YtpfhleghgkeemaaGreatDoorH9
import Derived.Test.YtpfhleghgkeemaaGreatDoorI1
import Derived.Test.YtpfhleghgkeemaaGreatDoorY2
namespace Go.Proofs.YtpfhleghgkeemaaGreatDoor
open Go Go.Sx
set_option linter.unusedVariables false
set_option linter.unusedSimpArgs false

theorem FormatBool0_spec (b : Bool) : Does Tryz.prog 131 [.bool b] [] (fun v hp' => v = .string (mkS (if b then [116, 114, 117, 101] else [102, 97, 108, 115, 101])) ∧ hp' = []) := by
  cases b with
  | true =>
    refine fn_enter Tryz.func131 rfl 4 rfl fun w0 h0 => ?_
    refine SQ (RG ?_)
    refine RR [] .z (.i 2 (.string ⟨#[]⟩) .a) .a ?_
    refine RZ (NT (SQ (SQ (RG ?_))))
    refine RR [] .z (.i 3 (.bool true) (.k .z)) .a ?_
    refine RZ (NT (CT (SQ (RG ?_))))
    refine RR [] .z (.i 2 (.string (ByteArray.mk #[116, 114, 117, 101])) .z) .a ?_
    refine RZ (NT (RE (TR ?_)))
    refine NE [] .a .a [] (.string (ByteArray.mk #[116, 114, 117, 101])) ?_
    exact ⟨rfl, rfl⟩
  | false =>
    refine fn_enter Tryz.func131 rfl 4 rfl fun w0 h0 => ?_
    refine SQ (RG ?_)
    refine RR [] .z (.i 2 (.string ⟨#[]⟩) .a) .a ?_
    refine RZ (NT (SQ (SQ (RG ?_))))
    refine RR [] .z (.i 3 (.bool false) (.k .z)) .a ?_
    refine RZ (NT (CF (SK (NT (SQ (RG ?_))))))
    refine RR [] .z (.i 2 (.string (ByteArray.mk #[102, 97, 108, 115, 101])) .z) .a ?_
    refine RZ (NT (RE ?_))
    refine NE [] .a .a [] (.string (ByteArray.mk #[102, 97, 108, 115, 101])) ?_
    exact ⟨rfl, rfl⟩
theorem FormatBool_spec (b : Bool) : Does Tryz.prog 94 [.bool b] [] (fun v hp' => v = .string (mkS (if b then [116, 114, 117, 101] else [102, 97, 108, 115, 101])) ∧ hp' = []) := by
  refine fn_enter Tryz.func94 rfl 5 rfl fun w0 h0 => ?_
  refine SQ (RG ?_)
  refine RR [] .z (.i 2 (.string ⟨#[]⟩) .a) .a ?_
  refine RZ (NT (SQ (RG ?_)))
  refine RR [] (.d .a) (.i 3 (.bool b) (.k .z)) .a ?_
  refine RCA (dst := some 4) (FormatBool0_spec b) ?_
  rintro v _ ⟨rfl, rfl⟩
  refine RR [] .z (.i 2 (.string (mkS (if b = true then [116, 114, 117, 101] else [102, 97, 108, 115, 101]))) .z) .a ?_
  refine RZ (NT (RE ?_))
  refine NE [] .a .a [] (.string (mkS (if b = true then [116, 114, 117, 101] else [102, 97, 108, 115, 101]))) ?_
  exact ⟨rfl, rfl⟩
theorem dec_len (n : Nat) (k : Nat) (h : n < 10 ^ k) : (Lib.decDigits n).length ≤ max k 1 := by
  induction k generalizing n with
  | zero => simp at h; subst h; rw [Lib.decDigits]; simp
  | succ k ih =>
    rw [Lib.decDigits]
    split
    · simp
    · rw [List.length_append]
      have h2 := ih (n / 10) (by rw [Nat.pow_succ] at h; omega)
      have hk : 1 ≤ k := by
        rcases Nat.eq_zero_or_pos k with rfl | h3
        · simp at h; omega
        · exact h3
      simp only [List.length_singleton]; omega
theorem rDigits_spec (n : Nat) (h : n < 9223372036854775808) : Does Tryz.prog 143 [.int .i64 n] [] (fun v hp' => v = .string (mkS (Lib.decDigits n)) ∧ hp' = []) := by
  induction n using Nat.strongRecOn with
  | _ n ih =>
    by_cases h10 : n < 10
    · have hd : Lib.decDigits n = [UInt8.ofNat (48 + n)] := by rw [Lib.decDigits, dif_pos h10]
      rw [hd]
      refine fn_enter Tryz.func143 rfl 20 rfl fun w0 h0 => ?_
      refine SQ (RG ?_)
      refine RR [] .z (.i 2 (.string ⟨#[]⟩) .a) .a ?_
      refine RZ (NT (SQ (SQ (RG ?_))))
      refine RR [] .z (.i 4 (.bool (decide ((↑n : Int) < 10))) .a) .a ?_
      refine RZ (NT ?_)
      refine SC 4 (decide ((↑n : Int) < 10)) true (decide_eq_true (by omega)) ?_
      refine CT (SQ (RG ?_))
      refine wpr_new (l₂ := [4, 5]) true [0, 1, 2, 3] [] (fun g1 => [(8, .slice (some ⟨g1, 0, none⟩) 1 1), (2, .string ⟨#[]⟩), (0, .int .i64 (↑n : Int))]) (fun g1 => ([.blk g1 5 [.int .u8 (IntKind.u8.wrap (48 + (↑n : Int)))]])) (fun g1 => ([inI64 ((48 : Int) + (↑n : Int))])) (fun g1 => by kernel_rfl) (fun g1 => by kernel_rfl) (fun g1 => ⟨by unfold inI64; omega, trivial⟩) fun g1 => ?_
      refine RR [0] .z (.i 2 (.string (ByteArray.empty.push (UInt8.ofNat (IntKind.u8.wrap (48 + (↑n : Int))).toNat))) (.d (.d (.k .a)))) (.i (.blk g1 5 [.int .u8 (IntKind.u8.wrap (48 + (↑n : Int)))]) .z) ?_
      refine RZ (NT (RE (TR ?_)))
      refine NE [] .z (.i (.blk g1 5 [.int .u8 (IntKind.u8.wrap (48 + (↑n : Int)))]) .z) [] (.string (ByteArray.empty.push (UInt8.ofNat (IntKind.u8.wrap (48 + (↑n : Int))).toNat))) ?_
      have hw : IntKind.u8.wrap (48 + (n : Int)) = ((48 + n : Nat) : Int) := by rw [IntKind.wrap_u8]; omega
      refine ⟨?_, rfl⟩
      rw [hw, Int.toNat_natCast]; rfl
    · have hd : Lib.decDigits n = Lib.decDigits (n / 10) ++ [UInt8.ofNat (48 + n % 10)] := by rw [Lib.decDigits, dif_neg h10]
      have hlen : (Lib.decDigits (n / 10)).length ≤ 19 := by have := dec_len (n / 10) 19 (by omega); omega
      have hsz : (mkS (Lib.decDigits (n / 10))).size = (Lib.decDigits (n / 10)).length := mkS_size _
      rw [hd]
      have hq : ((n : Int)).tdiv 10 = ((n / 10 : Nat) : Int) := by rw [Int.tdiv_eq_ediv_of_nonneg (by omega)]; omega
      have hm : ((n : Int)).tmod 10 = ((n % 10 : Nat) : Int) := by rw [Int.tmod_eq_emod_of_nonneg (by omega)]; omega
      have hs1 : (ByteArray.empty.push (UInt8.ofNat (IntKind.u8.wrap (48 + (n : Int).tmod 10)).toNat)).size = 1 := rfl
      have hih := ih (n / 10) (by omega) (by omega)
      rw [← hq] at hih
      have hw : IntKind.u8.wrap (48 + ((n % 10 : Nat) : Int)) = ((48 + n % 10 : Nat) : Int) := by rw [IntKind.wrap_u8]; omega
      refine fn_enter Tryz.func143 rfl 20 rfl fun w0 h0 => ?_
      refine SQ (RG ?_)
      refine RR [] .z (.i 2 (.string ⟨#[]⟩) .a) .a ?_
      refine RZ (NT (SQ (SQ (RG ?_))))
      refine RR [] .z (.i 4 (.bool (decide ((↑n : Int) < 10))) .a) .a ?_
      refine RZ (NT ?_)
      refine SC 4 (decide ((↑n : Int) < 10)) false (decide_eq_false (by omega)) ?_
      refine CF (SK (NT (SQ ?_)))
      refine wpc_draw (by kernel_rfl) [] (sub_of [] (by kernel_rfl)) 11 (by kernel_rfl) ?_
      refine wpa_take true [(0, []), (1, []), (3, []), (4, []), (5, []), (6, [])] ([(16, .int .u8 (IntKind.u8.wrap (48 + (↑n : Int).tmod 10))), (11, .int .i64 ((↑n : Int).tdiv 10)), (2, .string ⟨#[]⟩)]) (#[true, true, false, true, true, true, true, false, false, false, false]) ([(10 : Int) ≠ (0 : Int) ∧ inI64 ((↑n : Int).tdiv (10 : Int)), (10 : Int) ≠ (0 : Int), inI64 ((48 : Int) + (↑n : Int).tmod (10 : Int))]) (n := 5) (by kernel_rfl) (by kernel_rfl) (by kernel_rfl) ⟨by unfold inI64; omega, by first | omega | decide | (simp; done), by unfold inI64; omega, trivial⟩ ?_
      refine wpa_two (i := 2) (j := 7) (n := 4) (by kernel_rfl) ?_ ?_
      · refine wpi_call (i := 2) (dst := some 12) (rest := []) (by kernel_rfl) (hih) give_all (sub_of [] (by kernel_rfl)) ?_
        rintro v _ ⟨rfl, rfl⟩
        refine wpa_new (n := 3) true 7 [] (fun g1 => [(17, .slice (some ⟨g1, 0, none⟩) 1 1), (12, .string (mkS (Lib.decDigits (n / 10)))), (2, .string ⟨#[]⟩)]) (fun g1 => ([.blk g1 5 [.int .u8 (IntKind.u8.wrap (48 + (↑n : Int).tmod 10))]])) (fun g1 => []) (by kernel_rfl) (fun g1 => by kernel_rfl) (fun g1 => by kernel_rfl) (fun g1 => trivial) (fun g1 => sub_of [] (by kernel_rfl)) fun g1 => ?_
        refine AO 2 8 [0] (.i 18 (.string (ByteArray.empty.push (UInt8.ofNat (IntKind.u8.wrap (48 + (↑n : Int).tmod 10)).toNat))) (.d (.k .a))) (.i (.blk g1 5 [.int .u8 (IntKind.u8.wrap (48 + (↑n : Int).tmod 10))]) .z) [] ?_
        refine wpa_take true [(9, []), (10, [])] ([(2, .string (mkS (Lib.decDigits (n / 10) ++ (ByteArray.empty.push (UInt8.ofNat (IntKind.u8.wrap (48 + (↑n : Int).tmod 10)).toNat)).data.toList)))]) (#[true, true, true, true, true, true, true, true, true, true, true]) ([(Lib.decDigits (n / (10 : Nat))).length + (ByteArray.empty.push (UInt8.ofNat (IntKind.u8.wrap ((48 : Int) + (↑n : Int).tmod (10 : Int))).toNat)).size ≤ (9223372036854775807 : Nat)]) (n := 0) (by kernel_rfl) (by kernel_rfl) (by kernel_rfl) ⟨by first | omega | decide | (simp; done), trivial⟩ ?_
        refine wpa_done 0 (by kernel_rfl) ?_
        refine NT (RE ?_)
        refine NE [] .z (.i (.blk g1 5 [.int .u8 (IntKind.u8.wrap (48 + (↑n : Int).tmod 10))]) .z) [] (.string (mkS (Lib.decDigits (n / 10) ++ (ByteArray.empty.push (UInt8.ofNat (IntKind.u8.wrap (48 + (↑n : Int).tmod 10)).toNat)).data.toList))) ?_
        refine ⟨?_, rfl⟩
        rw [hm, hw, Int.toNat_natCast]; first | done | rfl
      · refine wpi_new (n := 4) true 7 [] (fun g1 => [(17, .slice (some ⟨g1, 0, none⟩) 1 1), (11, .int .i64 ((↑n : Int).tdiv 10)), (2, .string ⟨#[]⟩)]) (fun g1 => ([.blk g1 5 [.int .u8 (IntKind.u8.wrap (48 + (↑n : Int).tmod 10))]])) (fun g1 => []) (fun g1 => by kernel_rfl) (fun g1 => by kernel_rfl) (fun g1 => trivial) (fun g1 => sub_of [] (by kernel_rfl)) fun g1 => ?_
        refine wpa_two (i := 2) (j := 8) (n := 3) (by kernel_rfl) ?_ ?_
        · refine wpi_call (i := 2) (dst := some 12) (rest := ([.blk g1 5 [.int .u8 (IntKind.u8.wrap (48 + (↑n : Int).tmod 10))]])) (by kernel_rfl) (hih) (give [] (by kernel_rfl)) (sub_of [] (by kernel_rfl)) ?_
          rintro v _ ⟨rfl, rfl⟩
          refine AO 2 8 [0] (.i 18 (.string (ByteArray.empty.push (UInt8.ofNat (IntKind.u8.wrap (48 + (↑n : Int).tmod 10)).toNat))) (.k (.d (.d (.k .a))))) (.i (.blk g1 5 [.int .u8 (IntKind.u8.wrap (48 + (↑n : Int).tmod 10))]) .z) [] ?_
          refine wpa_take true [(9, []), (10, [])] ([(2, .string (mkS (Lib.decDigits (n / 10) ++ (ByteArray.empty.push (UInt8.ofNat (IntKind.u8.wrap (48 + (↑n : Int).tmod 10)).toNat)).data.toList)))]) (#[true, true, true, true, true, true, true, true, true, true, true]) ([(Lib.decDigits (n / (10 : Nat))).length + (ByteArray.empty.push (UInt8.ofNat (IntKind.u8.wrap ((48 : Int) + (↑n : Int).tmod (10 : Int))).toNat)).size ≤ (9223372036854775807 : Nat)]) (n := 0) (by kernel_rfl) (by kernel_rfl) (by kernel_rfl) ⟨by first | omega | decide | (simp; done), trivial⟩ ?_
          refine wpa_done 0 (by kernel_rfl) ?_
          refine NT (RE ?_)
          refine NE [] .z (.i (.blk g1 5 [.int .u8 (IntKind.u8.wrap (48 + (↑n : Int).tmod 10))]) .z) [] (.string (mkS (Lib.decDigits (n / 10) ++ (ByteArray.empty.push (UInt8.ofNat (IntKind.u8.wrap (48 + (↑n : Int).tmod 10)).toNat)).data.toList))) ?_
          refine ⟨?_, rfl⟩
          rw [hm, hw, Int.toNat_natCast]; first | done | rfl
        · refine wpi_one (n := 3) true 8 [0] ([(18, .string (ByteArray.empty.push (UInt8.ofNat (IntKind.u8.wrap (48 + (↑n : Int).tmod 10)).toNat))), (11, .int .i64 ((↑n : Int).tdiv 10)), (2, .string ⟨#[]⟩)]) ([.blk g1 5 [.int .u8 (IntKind.u8.wrap (48 + (↑n : Int).tmod 10))]]) [] (by kernel_rfl) (by kernel_rfl) trivial (sub_of [] (by kernel_rfl)) ?_
          refine AC (dst := some 12) 2 2 (.i (.blk g1 5 [.int .u8 (IntKind.u8.wrap (48 + (↑n : Int).tmod 10))]) .z) (hih) (GI []) [] ?_
          rintro v _ ⟨rfl, rfl⟩
          refine wpa_take true [(9, []), (10, [])] ([(2, .string (mkS (Lib.decDigits (n / 10) ++ (ByteArray.empty.push (UInt8.ofNat (IntKind.u8.wrap (48 + (↑n : Int).tmod 10)).toNat)).data.toList)))]) (#[true, true, true, true, true, true, true, true, true, true, true]) ([(Lib.decDigits (n / (10 : Nat))).length + (ByteArray.empty.push (UInt8.ofNat (IntKind.u8.wrap ((48 : Int) + (↑n : Int).tmod (10 : Int))).toNat)).size ≤ (9223372036854775807 : Nat)]) (n := 0) (by kernel_rfl) (by kernel_rfl) (by kernel_rfl) ⟨by first | omega | decide | (simp; done), trivial⟩ ?_
          refine wpa_done 0 (by kernel_rfl) ?_
          refine NT (RE ?_)
          refine NE [] .z (.i (.blk g1 5 [.int .u8 (IntKind.u8.wrap (48 + (↑n : Int).tmod 10))]) .z) [] (.string (mkS (Lib.decDigits (n / 10) ++ (ByteArray.empty.push (UInt8.ofNat (IntKind.u8.wrap (48 + (↑n : Int).tmod 10)).toNat)).data.toList))) ?_
          refine ⟨?_, rfl⟩
          rw [hm, hw, Int.toNat_natCast]; first | done | rfl
theorem rDigits6_spec (n : Int) (h0 : -9223372036854775808 ≤ n) (h1 : n ≤ 9223372036854775807) : Does Tryz.prog 103 [.int .i64 n] [] (fun v hp' => v = .string (mkS (Lib.itoa n)) ∧ hp' = []) := by
  by_cases hn : n < 0
  · by_cases hm : n = -9223372036854775808
    · subst hm
      refine fn_enter Tryz.func103 rfl 13 rfl fun w0 h0 => ?_
      refine SQ (RG ?_)
      refine RR [] .z (.i 2 (.string ⟨#[]⟩) .a) .a ?_
      refine RZ (NT (SQ (SQ (RG ?_))))
      refine RR [] .z (.i 4 (.bool true) .a) .a ?_
      refine RZ (NT (CT (SQ (SQ (RG ?_)))))
      refine RR [] .z (.i 6 (.bool true) (.d (.k .a))) .a ?_
      refine RZ (NT (CT (SQ (RG ?_))))
      refine RR [] .z (.i 2 (.string (ByteArray.mk #[45, 57, 50, 50, 51, 51, 55, 50, 48, 51, 54, 56, 53, 52, 55, 55, 53, 56, 48, 56])) (.d (.d (.k .a)))) .a ?_
      refine RZ (NT (RE (TR (TR ?_))))
      refine NE [] .a .a [] (.string (ByteArray.mk #[45, 57, 50, 50, 51, 51, 55, 50, 48, 51, 54, 56, 53, 52, 55, 55, 53, 56, 48, 56])) ?_
      exact ⟨by rw [show Lib.itoa (-9223372036854775808) = [45, 57, 50, 50, 51, 51, 55, 50, 48, 51, 54, 56, 53, 52, 55, 55, 53, 56, 48, 56] by unfold Lib.itoa; rw [if_pos (by decide)]; simp [Lib.decDigits]]; rfl, rfl⟩
    · obtain ⟨m, rfl⟩ : ∃ m : Nat, n = -(m : Int) := ⟨n.natAbs, by omega⟩
      have hd := rDigits_spec m (by omega)
      have hlen : (Lib.decDigits m).length ≤ 19 := by have := dec_len m 19 (by omega); omega
      have hsz : (mkS (Lib.decDigits m)).size = (Lib.decDigits m).length := mkS_size _
      have hs45 : (ByteArray.mk #[45]).size = 1 := rfl
      have hnn : IntKind.i64.wrap (0 - -(m : Int)) = m := by rw [IntKind.wrap_i64]; omega
      have hit : Lib.itoa (-(m : Int)) = 45 :: Lib.decDigits m := by
        unfold Lib.itoa; rw [if_pos hn, Int.natAbs_neg, Int.natAbs_natCast]
      rw [hit]
      rw [← hnn] at hd
      refine fn_enter Tryz.func103 rfl 13 rfl fun w0 h0 => ?_
      refine SQ (RG ?_)
      refine RR [] .z (.i 2 (.string ⟨#[]⟩) .a) .a ?_
      refine RZ (NT (SQ (SQ (RG ?_))))
      refine RR [] .z (.i 4 (.bool (decide (-(↑m : Int) < 0))) .a) .a ?_
      refine RZ (NT ?_)
      refine SC 4 (decide (-(↑m : Int) < 0)) true (decide_eq_true (by omega)) ?_
      refine CT (SQ (SQ (RG ?_)))
      refine RR [] .z (.i 6 (.bool (-(↑m : Int) == -9223372036854775808)) (.d (.d (.k .a)))) .a ?_
      refine RZ (NT ?_)
      refine SC 6 (-(↑m : Int) == -9223372036854775808) false (by simp only [bne_eq_false_iff_eq, beq_eq_false_iff_ne, ne_eq]; omega) ?_
      refine CF (SK (NT (SQ (RG ?_))))
      refine RR [] (.d (.d .a)) (.i 8 (.int .i64 (IntKind.i64.wrap (0 - -(↑m : Int)))) (.d (.d (.k .a)))) .a ?_
      refine RCA (dst := some 9) (hd) ?_
      rintro v _ ⟨rfl, rfl⟩
      refine RV true [] .z (.i 2 (.string (mkS ([45] ++ Lib.decDigits m))) (.d (.d (.d (.k .a))))) .a ([(ByteArray.mk #[(45 : UInt8)]).size + (Lib.decDigits m).length ≤ (9223372036854775807 : Nat)]) ⟨by first | omega | decide | (simp; done), trivial⟩ ?_
      refine RZ (NT (RE (TR ?_)))
      refine NE [] .a .a [] (.string (mkS ([45] ++ Lib.decDigits m))) ?_
      exact ⟨rfl, rfl⟩
  · obtain ⟨m, rfl⟩ : ∃ m : Nat, n = (m : Int) := ⟨n.natAbs, by omega⟩
    have hd := rDigits_spec m (by omega)
    have hit : Lib.itoa (m : Int) = Lib.decDigits m := by
      unfold Lib.itoa; rw [if_neg hn, Int.toNat_natCast]
    rw [hit]
    refine fn_enter Tryz.func103 rfl 13 rfl fun w0 h0 => ?_
    refine SQ (RG ?_)
    refine RR [] .z (.i 2 (.string ⟨#[]⟩) .a) .a ?_
    refine RZ (NT (SQ (SQ (RG ?_))))
    refine RR [] .z (.i 4 (.bool false) .a) .a ?_
    refine RZ (NT (CF (SK (NT (SQ (RG ?_))))))
    refine RR [] (.d .a) (.i 11 (.int .i64 (↑m : Int)) (.d (.k .z))) .a ?_
    refine RCA (dst := some 12) (hd) ?_
    rintro v _ ⟨rfl, rfl⟩
    refine RR [] .z (.i 2 (.string (mkS (Lib.decDigits m))) .z) .a ?_
    refine RZ (NT (RE ?_))
    refine NE [] .a .a [] (.string (mkS (Lib.decDigits m))) ?_
    exact ⟨rfl, rfl⟩
end Go.Proofs.YtpfhleghgkeemaaGreatDoor
