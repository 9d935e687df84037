import Derived.Lib.LaidTab
import Derived.Stop.LaidErr
import Derived.Lib.Strings
import Derived.Lib.Walk
import Derived.Lib.BufferWrite
import Derived.Lib.Hide
import Derived.WalkKit
import Derived.Test.YtpfhleghgkeemaaGreatDoorSp2
set_option linter.unusedVariables false
set_option linter.unusedSimpArgs false
namespace Go.Proofs.YtpfhleghgkeemaaGreatDoor
open Go Go.Sx
def rightB (v : V) (m : Int) : Bool :=
  if v.k = 0 then decide (v.n = 0) && decide (v.s = [])
  else if v.k = 1 then decide (v.s = [])
  else if v.k = 2 then decide (v.s = []) && (decide (v.n = 0) || decide (v.n = 1))
  else if v.k = 3 then decide (v.n = 0) && plainB v.s
  else if v.k = 4 then decide (v.s = []) && decide (0 ≤ v.n) && decide (v.n < m)
  else false
theorem Check_spec (v : V) (m : Int) (hl : v.s.length ≤ 1048576) : Does Tryz.prog 27 [valV v, .int .i64 m] [] (fun u hp' => u = .int .i64 (if rightB v m then 0 else 2) ∧ hp' = []) := by
  obtain ⟨k, n, s⟩ := v
  unfold valV
  dsimp only at hl ⊢
  by_cases k0 : k = 0
  · subst k0
    by_cases hn : n = 0
    · subst hn
      cases s with
      | nil =>
        refine fn_enter Tryz.func27 rfl 74 rfl fun w0 h0 => ?_
        refine SQ (RG ?_)
        refine RP [] (.d .a) 2 (.d (.k .a)) .a 28 [.int .i64 0, .int .i64 0, .string (mkS [])] fun g1 => ?_
        refine RR [] .z (.i 4 (.int .i64 0) .a) (.i (.blk g1 28 [.int .i64 0, .int .i64 0, .string (mkS [])]) .z) ?_
        refine RZ (NT (SQ (RG ?_)))
        refine RR [] .z (.i 5 (.bool false) .a) (.i (.blk g1 28 [.int .i64 0, .int .i64 0, .string (mkS [])]) .z) ?_
        refine RZ (NT (SQ (SQ (RG ?_))))
        refine RR [0] .z (.i 9 (.int .i64 0) .a) (.i (.blk g1 28 [.int .i64 0, .int .i64 0, .string (mkS [])]) .z) ?_
        refine RZ (NT (BK (SQ (RG ?_))))
        refine RR [] .z (.i 10 (.bool true) .a) (.i (.blk g1 28 [.int .i64 0, .int .i64 0, .string (mkS [])]) .z) ?_
        refine RZ (NT (CT (RG ?_)))
        refine RR [0, 0] .z (.i 5 (.bool true) (.d (.d (.d (.k .z))))) (.i (.blk g1 28 [.int .i64 0, .int .i64 0, .string (mkS [])]) .z) ?_
        refine RZ (BN (NT (SQ (SQ (RG ?_)))))
        refine RR [] .z (.i 73 (.bool false) (.d (.k .a))) (.i (.blk g1 28 [.int .i64 0, .int .i64 0, .string (mkS [])]) .z) ?_
        refine RZ (NT (CF (SK (NT (SQ (RG ?_))))))
        refine RR [] .z (.d (.k .a)) (.i (.blk g1 28 [.int .i64 0, .int .i64 0, .string (mkS [])]) .z) ?_
        refine RZ (NT (RE ?_))
        refine NE [] .z (.i (.blk g1 28 [.int .i64 0, .int .i64 0, .string (mkS [])]) .z) [] (.int .i64 0) ?_
        exact ⟨by simp [rightB, *], rfl⟩
      | cons c r =>
        refine fn_enter Tryz.func27 rfl 74 rfl fun w0 h0 => ?_
        refine SQ (RG ?_)
        refine RP [] (.d .a) 2 (.d (.k .a)) .a 28 [.int .i64 0, .int .i64 0, .string (mkS (c :: r))] fun g1 => ?_
        refine RR [] .z (.i 4 (.int .i64 0) .a) (.i (.blk g1 28 [.int .i64 0, .int .i64 0, .string (mkS (c :: r))]) .z) ?_
        refine RZ (NT (SQ (RG ?_)))
        refine RR [] .z (.i 5 (.bool false) .a) (.i (.blk g1 28 [.int .i64 0, .int .i64 0, .string (mkS (c :: r))]) .z) ?_
        refine RZ (NT (SQ (SQ (RG ?_))))
        refine RR [0] .z (.i 9 (.int .i64 0) .a) (.i (.blk g1 28 [.int .i64 0, .int .i64 0, .string (mkS (c :: r))]) .z) ?_
        refine RZ (NT (BK (SQ (RG ?_))))
        refine RR [] .z (.i 10 (.bool true) .a) (.i (.blk g1 28 [.int .i64 0, .int .i64 0, .string (mkS (c :: r))]) .z) ?_
        refine RZ (NT (CT (RG ?_)))
        refine RR [0, 0] .z (.d (.d (.k (.k .z)))) (.i (.blk g1 28 [.int .i64 0, .int .i64 0, .string (mkS (c :: r))]) .z) ?_
        refine RZ (BN (NT (SQ (SQ (RG ?_)))))
        refine RR [] .z (.i 73 (.bool true) (.d (.k .a))) (.i (.blk g1 28 [.int .i64 0, .int .i64 0, .string (mkS (c :: r))]) .z) ?_
        refine RZ (NT (CT (SQ (RG ?_))))
        refine RR [] .z (.i 4 (.int .i64 2) .z) (.i (.blk g1 28 [.int .i64 0, .int .i64 0, .string (mkS (c :: r))]) .z) ?_
        refine RZ (NT (RE (TR ?_)))
        refine NE [] .z (.i (.blk g1 28 [.int .i64 0, .int .i64 0, .string (mkS (c :: r))]) .z) [] (.int .i64 2) ?_
        exact ⟨by simp [rightB, *], rfl⟩
    · refine fn_enter Tryz.func27 rfl 74 rfl fun w0 h0 => ?_
      refine SQ (RG ?_)
      refine RP [] (.d .a) 2 (.d (.k .a)) .a 28 [.int .i64 0, .int .i64 n, .string (mkS s)] fun g1 => ?_
      refine RR [] .z (.i 4 (.int .i64 0) .a) (.i (.blk g1 28 [.int .i64 0, .int .i64 n, .string (mkS s)]) .z) ?_
      refine RZ (NT (SQ (RG ?_)))
      refine RR [] .z (.i 5 (.bool false) .a) (.i (.blk g1 28 [.int .i64 0, .int .i64 n, .string (mkS s)]) .z) ?_
      refine RZ (NT (SQ (SQ (RG ?_))))
      refine RR [0] .z (.i 9 (.int .i64 0) .a) (.i (.blk g1 28 [.int .i64 0, .int .i64 n, .string (mkS s)]) .z) ?_
      refine RZ (NT (BK (SQ (RG ?_))))
      refine RR [] .z (.i 10 (.bool true) .a) (.i (.blk g1 28 [.int .i64 0, .int .i64 n, .string (mkS s)]) .z) ?_
      refine RZ (NT (CT (RG ?_)))
      refine RR [0] (.d (.d (.d (.d .a)))) (.i 15 (.bool (n == 0)) (.d (.d (.k (.k (.k .z)))))) (.i (.blk g1 28 [.int .i64 0, .int .i64 n, .string (mkS s)]) .z) ?_
      refine SR 15 (n == 0) false (by simp only [bne_eq_false_iff_eq, beq_eq_false_iff_ne, ne_eq]; omega) ?_
      refine RR [] .z (.d (.d (.k (.k .z)))) (.i (.blk g1 28 [.int .i64 0, .int .i64 n, .string (mkS s)]) .z) ?_
      refine RZ (BN (NT (SQ (SQ (RG ?_)))))
      refine RR [] .z (.i 73 (.bool true) (.d (.k .a))) (.i (.blk g1 28 [.int .i64 0, .int .i64 n, .string (mkS s)]) .z) ?_
      refine RZ (NT (CT (SQ (RG ?_))))
      refine RR [] .z (.i 4 (.int .i64 2) .z) (.i (.blk g1 28 [.int .i64 0, .int .i64 n, .string (mkS s)]) .z) ?_
      refine RZ (NT (RE (TR ?_)))
      refine NE [] .z (.i (.blk g1 28 [.int .i64 0, .int .i64 n, .string (mkS s)]) .z) [] (.int .i64 2) ?_
      exact ⟨by simp [rightB, *], rfl⟩
  by_cases k1 : k = 1
  · subst k1
    cases s with
    | nil =>
      refine fn_enter Tryz.func27 rfl 74 rfl fun w0 h0 => ?_
      refine SQ (RG ?_)
      refine RP [] (.d .a) 2 (.d (.k .a)) .a 28 [.int .i64 1, .int .i64 n, .string (mkS [])] fun g1 => ?_
      refine RR [] .z (.i 4 (.int .i64 0) .a) (.i (.blk g1 28 [.int .i64 1, .int .i64 n, .string (mkS [])]) .z) ?_
      refine RZ (NT (SQ (RG ?_)))
      refine RR [] .z (.i 5 (.bool false) .a) (.i (.blk g1 28 [.int .i64 1, .int .i64 n, .string (mkS [])]) .z) ?_
      refine RZ (NT (SQ (SQ (RG ?_))))
      refine RR [0] .z (.i 9 (.int .i64 1) .a) (.i (.blk g1 28 [.int .i64 1, .int .i64 n, .string (mkS [])]) .z) ?_
      refine RZ (NT (BK (SQ (RG ?_))))
      refine RR [] .z (.i 10 (.bool false) .a) (.i (.blk g1 28 [.int .i64 1, .int .i64 n, .string (mkS [])]) .z) ?_
      refine RZ (NT (CF (SQ (RG ?_))))
      refine RR [] .z (.i 20 (.bool true) (.d (.k .a))) (.i (.blk g1 28 [.int .i64 1, .int .i64 n, .string (mkS [])]) .z) ?_
      refine RZ (NT (CT (RG ?_)))
      refine RR [0] .z (.i 5 (.bool true) (.d (.d (.d (.k .z))))) (.i (.blk g1 28 [.int .i64 1, .int .i64 n, .string (mkS [])]) .z) ?_
      refine RZ (BN (NT (SQ (SQ (RG ?_)))))
      refine RR [] .z (.i 73 (.bool false) (.d (.k .a))) (.i (.blk g1 28 [.int .i64 1, .int .i64 n, .string (mkS [])]) .z) ?_
      refine RZ (NT (CF (SK (NT (SQ (RG ?_))))))
      refine RR [] .z (.d (.k .a)) (.i (.blk g1 28 [.int .i64 1, .int .i64 n, .string (mkS [])]) .z) ?_
      refine RZ (NT (RE ?_))
      refine NE [] .z (.i (.blk g1 28 [.int .i64 1, .int .i64 n, .string (mkS [])]) .z) [] (.int .i64 0) ?_
      exact ⟨by simp [rightB, *], rfl⟩
    | cons c r =>
      refine fn_enter Tryz.func27 rfl 74 rfl fun w0 h0 => ?_
      refine SQ (RG ?_)
      refine RP [] (.d .a) 2 (.d (.k .a)) .a 28 [.int .i64 1, .int .i64 n, .string (mkS (c :: r))] fun g1 => ?_
      refine RR [] .z (.i 4 (.int .i64 0) .a) (.i (.blk g1 28 [.int .i64 1, .int .i64 n, .string (mkS (c :: r))]) .z) ?_
      refine RZ (NT (SQ (RG ?_)))
      refine RR [] .z (.i 5 (.bool false) .a) (.i (.blk g1 28 [.int .i64 1, .int .i64 n, .string (mkS (c :: r))]) .z) ?_
      refine RZ (NT (SQ (SQ (RG ?_))))
      refine RR [0] .z (.i 9 (.int .i64 1) .a) (.i (.blk g1 28 [.int .i64 1, .int .i64 n, .string (mkS (c :: r))]) .z) ?_
      refine RZ (NT (BK (SQ (RG ?_))))
      refine RR [] .z (.i 10 (.bool false) .a) (.i (.blk g1 28 [.int .i64 1, .int .i64 n, .string (mkS (c :: r))]) .z) ?_
      refine RZ (NT (CF (SQ (RG ?_))))
      refine RR [] .z (.i 20 (.bool true) (.d (.k .a))) (.i (.blk g1 28 [.int .i64 1, .int .i64 n, .string (mkS (c :: r))]) .z) ?_
      refine RZ (NT (CT (RG ?_)))
      refine RR [0] .z (.d (.d (.k (.k .z)))) (.i (.blk g1 28 [.int .i64 1, .int .i64 n, .string (mkS (c :: r))]) .z) ?_
      refine RZ (BN (NT (SQ (SQ (RG ?_)))))
      refine RR [] .z (.i 73 (.bool true) (.d (.k .a))) (.i (.blk g1 28 [.int .i64 1, .int .i64 n, .string (mkS (c :: r))]) .z) ?_
      refine RZ (NT (CT (SQ (RG ?_))))
      refine RR [] .z (.i 4 (.int .i64 2) .z) (.i (.blk g1 28 [.int .i64 1, .int .i64 n, .string (mkS (c :: r))]) .z) ?_
      refine RZ (NT (RE (TR ?_)))
      refine NE [] .z (.i (.blk g1 28 [.int .i64 1, .int .i64 n, .string (mkS (c :: r))]) .z) [] (.int .i64 2) ?_
      exact ⟨by simp [rightB, *], rfl⟩
  by_cases k2 : k = 2
  · subst k2
    cases s with
    | nil =>
      by_cases hn : n = 0
      · subst hn
        refine fn_enter Tryz.func27 rfl 74 rfl fun w0 h0 => ?_
        refine SQ (RG ?_)
        refine RP [] (.d .a) 2 (.d (.k .a)) .a 28 [.int .i64 2, .int .i64 0, .string (mkS [])] fun g1 => ?_
        refine RR [] .z (.i 4 (.int .i64 0) .a) (.i (.blk g1 28 [.int .i64 2, .int .i64 0, .string (mkS [])]) .z) ?_
        refine RZ (NT (SQ (RG ?_)))
        refine RR [] .z (.i 5 (.bool false) .a) (.i (.blk g1 28 [.int .i64 2, .int .i64 0, .string (mkS [])]) .z) ?_
        refine RZ (NT (SQ (SQ (RG ?_))))
        refine RR [0] .z (.i 9 (.int .i64 2) .a) (.i (.blk g1 28 [.int .i64 2, .int .i64 0, .string (mkS [])]) .z) ?_
        refine RZ (NT (BK (SQ (RG ?_))))
        refine RR [] .z (.i 10 (.bool false) .a) (.i (.blk g1 28 [.int .i64 2, .int .i64 0, .string (mkS [])]) .z) ?_
        refine RZ (NT (CF (SQ (RG ?_))))
        refine RR [] .z (.i 20 (.bool false) (.d (.k .a))) (.i (.blk g1 28 [.int .i64 2, .int .i64 0, .string (mkS [])]) .z) ?_
        refine RZ (NT (CF (SQ (RG ?_))))
        refine RR [] .z (.i 25 (.bool true) (.d (.k .a))) (.i (.blk g1 28 [.int .i64 2, .int .i64 0, .string (mkS [])]) .z) ?_
        refine RZ (NT (CT (RG ?_)))
        refine RR [0, 0] .z (.i 5 (.bool true) (.d (.d (.d (.k .z))))) (.i (.blk g1 28 [.int .i64 2, .int .i64 0, .string (mkS [])]) .z) ?_
        refine RZ (BN (NT (SQ (SQ (RG ?_)))))
        refine RR [] .z (.i 73 (.bool false) (.d (.k .a))) (.i (.blk g1 28 [.int .i64 2, .int .i64 0, .string (mkS [])]) .z) ?_
        refine RZ (NT (CF (SK (NT (SQ (RG ?_))))))
        refine RR [] .z (.d (.k .a)) (.i (.blk g1 28 [.int .i64 2, .int .i64 0, .string (mkS [])]) .z) ?_
        refine RZ (NT (RE ?_))
        refine NE [] .z (.i (.blk g1 28 [.int .i64 2, .int .i64 0, .string (mkS [])]) .z) [] (.int .i64 0) ?_
        exact ⟨by simp [rightB, *], rfl⟩
      · by_cases hn1 : n = 1
        · subst hn1
          refine fn_enter Tryz.func27 rfl 74 rfl fun w0 h0 => ?_
          refine SQ (RG ?_)
          refine RP [] (.d .a) 2 (.d (.k .a)) .a 28 [.int .i64 2, .int .i64 1, .string (mkS [])] fun g1 => ?_
          refine RR [] .z (.i 4 (.int .i64 0) .a) (.i (.blk g1 28 [.int .i64 2, .int .i64 1, .string (mkS [])]) .z) ?_
          refine RZ (NT (SQ (RG ?_)))
          refine RR [] .z (.i 5 (.bool false) .a) (.i (.blk g1 28 [.int .i64 2, .int .i64 1, .string (mkS [])]) .z) ?_
          refine RZ (NT (SQ (SQ (RG ?_))))
          refine RR [0] .z (.i 9 (.int .i64 2) .a) (.i (.blk g1 28 [.int .i64 2, .int .i64 1, .string (mkS [])]) .z) ?_
          refine RZ (NT (BK (SQ (RG ?_))))
          refine RR [] .z (.i 10 (.bool false) .a) (.i (.blk g1 28 [.int .i64 2, .int .i64 1, .string (mkS [])]) .z) ?_
          refine RZ (NT (CF (SQ (RG ?_))))
          refine RR [] .z (.i 20 (.bool false) (.d (.k .a))) (.i (.blk g1 28 [.int .i64 2, .int .i64 1, .string (mkS [])]) .z) ?_
          refine RZ (NT (CF (SQ (RG ?_))))
          refine RR [] .z (.i 25 (.bool true) (.d (.k .a))) (.i (.blk g1 28 [.int .i64 2, .int .i64 1, .string (mkS [])]) .z) ?_
          refine RZ (NT (CT (RG ?_)))
          refine RR [0, 0, 0] .z (.i 5 (.bool true) (.d (.d (.d (.k .z))))) (.i (.blk g1 28 [.int .i64 2, .int .i64 1, .string (mkS [])]) .z) ?_
          refine RZ (BN (NT (SQ (SQ (RG ?_)))))
          refine RR [] .z (.i 73 (.bool false) (.d (.k .a))) (.i (.blk g1 28 [.int .i64 2, .int .i64 1, .string (mkS [])]) .z) ?_
          refine RZ (NT (CF (SK (NT (SQ (RG ?_))))))
          refine RR [] .z (.d (.k .a)) (.i (.blk g1 28 [.int .i64 2, .int .i64 1, .string (mkS [])]) .z) ?_
          refine RZ (NT (RE ?_))
          refine NE [] .z (.i (.blk g1 28 [.int .i64 2, .int .i64 1, .string (mkS [])]) .z) [] (.int .i64 0) ?_
          exact ⟨by simp [rightB, *], rfl⟩
        · refine fn_enter Tryz.func27 rfl 74 rfl fun w0 h0 => ?_
          refine SQ (RG ?_)
          refine RP [] (.d .a) 2 (.d (.k .a)) .a 28 [.int .i64 2, .int .i64 n, .string (mkS [])] fun g1 => ?_
          refine RR [] .z (.i 4 (.int .i64 0) .a) (.i (.blk g1 28 [.int .i64 2, .int .i64 n, .string (mkS [])]) .z) ?_
          refine RZ (NT (SQ (RG ?_)))
          refine RR [] .z (.i 5 (.bool false) .a) (.i (.blk g1 28 [.int .i64 2, .int .i64 n, .string (mkS [])]) .z) ?_
          refine RZ (NT (SQ (SQ (RG ?_))))
          refine RR [0] .z (.i 9 (.int .i64 2) .a) (.i (.blk g1 28 [.int .i64 2, .int .i64 n, .string (mkS [])]) .z) ?_
          refine RZ (NT (BK (SQ (RG ?_))))
          refine RR [] .z (.i 10 (.bool false) .a) (.i (.blk g1 28 [.int .i64 2, .int .i64 n, .string (mkS [])]) .z) ?_
          refine RZ (NT (CF (SQ (RG ?_))))
          refine RR [] .z (.i 20 (.bool false) (.d (.k .a))) (.i (.blk g1 28 [.int .i64 2, .int .i64 n, .string (mkS [])]) .z) ?_
          refine RZ (NT (CF (SQ (RG ?_))))
          refine RR [] .z (.i 25 (.bool true) (.d (.k .a))) (.i (.blk g1 28 [.int .i64 2, .int .i64 n, .string (mkS [])]) .z) ?_
          refine RZ (NT (CT (RG ?_)))
          refine RR [0, 0] (.d (.d (.d (.d (.d (.d (.d (.d .a)))))))) (.i 34 (.bool (n == 0)) (.i 30 (.bool true) (.d (.d (.k (.k (.k .z))))))) (.i (.blk g1 28 [.int .i64 2, .int .i64 n, .string (mkS [])]) .z) ?_
          refine SR 34 (n == 0) false (by simp only [bne_eq_false_iff_eq, beq_eq_false_iff_ne, ne_eq]; omega) ?_
          refine RR [0] .z (.i 5 (.bool (n == 1)) (.d (.d (.d (.d (.k .z)))))) (.i (.blk g1 28 [.int .i64 2, .int .i64 n, .string (mkS [])]) .z) ?_
          refine RZ (BN (NT (SQ (SQ (RG ?_)))))
          refine RR [] .z (.i 73 (.bool !n == 1) (.d (.k .a))) (.i (.blk g1 28 [.int .i64 2, .int .i64 n, .string (mkS [])]) .z) ?_
          refine RZ (NT ?_)
          refine SC 73 (!n == 1) true (by simp; omega) ?_
          refine CT (SQ (RG ?_))
          refine RR [] .z (.i 4 (.int .i64 2) .z) (.i (.blk g1 28 [.int .i64 2, .int .i64 n, .string (mkS [])]) .z) ?_
          refine RZ (NT (RE (TR ?_)))
          refine NE [] .z (.i (.blk g1 28 [.int .i64 2, .int .i64 n, .string (mkS [])]) .z) [] (.int .i64 2) ?_
          exact ⟨by simp [rightB, *], rfl⟩
    | cons c r =>
      refine fn_enter Tryz.func27 rfl 74 rfl fun w0 h0 => ?_
      refine SQ (RG ?_)
      refine RP [] (.d .a) 2 (.d (.k .a)) .a 28 [.int .i64 2, .int .i64 n, .string (mkS (c :: r))] fun g1 => ?_
      refine RR [] .z (.i 4 (.int .i64 0) .a) (.i (.blk g1 28 [.int .i64 2, .int .i64 n, .string (mkS (c :: r))]) .z) ?_
      refine RZ (NT (SQ (RG ?_)))
      refine RR [] .z (.i 5 (.bool false) .a) (.i (.blk g1 28 [.int .i64 2, .int .i64 n, .string (mkS (c :: r))]) .z) ?_
      refine RZ (NT (SQ (SQ (RG ?_))))
      refine RR [0] .z (.i 9 (.int .i64 2) .a) (.i (.blk g1 28 [.int .i64 2, .int .i64 n, .string (mkS (c :: r))]) .z) ?_
      refine RZ (NT (BK (SQ (RG ?_))))
      refine RR [] .z (.i 10 (.bool false) .a) (.i (.blk g1 28 [.int .i64 2, .int .i64 n, .string (mkS (c :: r))]) .z) ?_
      refine RZ (NT (CF (SQ (RG ?_))))
      refine RR [] .z (.i 20 (.bool false) (.d (.k .a))) (.i (.blk g1 28 [.int .i64 2, .int .i64 n, .string (mkS (c :: r))]) .z) ?_
      refine RZ (NT (CF (SQ (RG ?_))))
      refine RR [] .z (.i 25 (.bool true) (.d (.k .a))) (.i (.blk g1 28 [.int .i64 2, .int .i64 n, .string (mkS (c :: r))]) .z) ?_
      refine RZ (NT (CT (RG ?_)))
      refine RR [0] .z (.d (.d (.k (.k .z)))) (.i (.blk g1 28 [.int .i64 2, .int .i64 n, .string (mkS (c :: r))]) .z) ?_
      refine RZ (BN (NT (SQ (SQ (RG ?_)))))
      refine RR [] .z (.i 73 (.bool true) (.d (.k .a))) (.i (.blk g1 28 [.int .i64 2, .int .i64 n, .string (mkS (c :: r))]) .z) ?_
      refine RZ (NT (CT (SQ (RG ?_))))
      refine RR [] .z (.i 4 (.int .i64 2) .z) (.i (.blk g1 28 [.int .i64 2, .int .i64 n, .string (mkS (c :: r))]) .z) ?_
      refine RZ (NT (RE (TR ?_)))
      refine NE [] .z (.i (.blk g1 28 [.int .i64 2, .int .i64 n, .string (mkS (c :: r))]) .z) [] (.int .i64 2) ?_
      exact ⟨by simp [rightB, *], rfl⟩
  by_cases k3 : k = 3
  · subst k3
    by_cases hn : n = 0
    · subst hn
      cases hp : plainB s with
      | true =>
        refine fn_enter Tryz.func27 rfl 74 rfl fun w0 h0 => ?_
        refine SQ (RG ?_)
        refine RP [] (.d .a) 2 (.d (.k .a)) .a 28 [.int .i64 3, .int .i64 0, .string (mkS s)] fun g1 => ?_
        refine RR [] .z (.i 4 (.int .i64 0) .a) (.i (.blk g1 28 [.int .i64 3, .int .i64 0, .string (mkS s)]) .z) ?_
        refine RZ (NT (SQ (RG ?_)))
        refine RR [] .z (.i 5 (.bool false) .a) (.i (.blk g1 28 [.int .i64 3, .int .i64 0, .string (mkS s)]) .z) ?_
        refine RZ (NT (SQ (SQ (RG ?_))))
        refine RR [0] .z (.i 9 (.int .i64 3) .a) (.i (.blk g1 28 [.int .i64 3, .int .i64 0, .string (mkS s)]) .z) ?_
        refine RZ (NT (BK (SQ (RG ?_))))
        refine RR [] .z (.i 10 (.bool false) .a) (.i (.blk g1 28 [.int .i64 3, .int .i64 0, .string (mkS s)]) .z) ?_
        refine RZ (NT (CF (SQ (RG ?_))))
        refine RR [] .z (.i 20 (.bool false) (.d (.k .a))) (.i (.blk g1 28 [.int .i64 3, .int .i64 0, .string (mkS s)]) .z) ?_
        refine RZ (NT (CF (SQ (RG ?_))))
        refine RR [] .z (.i 25 (.bool false) (.d (.k .a))) (.i (.blk g1 28 [.int .i64 3, .int .i64 0, .string (mkS s)]) .z) ?_
        refine RZ (NT (CF (SQ (RG ?_))))
        refine RR [] .z (.i 40 (.bool true) (.d (.k .a))) (.i (.blk g1 28 [.int .i64 3, .int .i64 0, .string (mkS s)]) .z) ?_
        refine RZ (NT (CT (SQ (RG ?_))))
        refine RR [0] (.d (.d (.d .a))) (.i 45 (.agg #[.int .i64 3, .string (mkS s), .int .i64 0, .int .i64 0, .int .i64 0]) (.d (.d (.k (.k (.k .z)))))) (.i (.blk g1 28 [.int .i64 3, .int .i64 0, .string (mkS s)]) .z) ?_
        refine RC (dst := some 46) [] (.i (.blk g1 28 [.int .i64 3, .int .i64 0, .string (mkS s)]) .z) (TextStr_spec s hl) ?_
        rintro v _ ⟨rfl, rfl⟩
        rw [hp]
        refine RR [] .z (.i 7 (.int .i64 0) (.d (.d (.k .a)))) (.i (.blk g1 28 [.int .i64 3, .int .i64 0, .string (mkS s)]) .z) ?_
        refine RZ (NT (RG ?_))
        refine RR [0] .z (.i 5 (.bool true) (.d (.d (.k .z)))) (.i (.blk g1 28 [.int .i64 3, .int .i64 0, .string (mkS s)]) .z) ?_
        refine RZ (BN (NT (SQ (SQ (RG ?_)))))
        refine RR [] .z (.i 73 (.bool false) (.d (.k .a))) (.i (.blk g1 28 [.int .i64 3, .int .i64 0, .string (mkS s)]) .z) ?_
        refine RZ (NT (CF (SK (NT (SQ (RG ?_))))))
        refine RR [] .z (.d (.k .a)) (.i (.blk g1 28 [.int .i64 3, .int .i64 0, .string (mkS s)]) .z) ?_
        refine RZ (NT (RE ?_))
        refine NE [] .z (.i (.blk g1 28 [.int .i64 3, .int .i64 0, .string (mkS s)]) .z) [] (.int .i64 0) ?_
        exact ⟨by simp [rightB, *], rfl⟩
      | false =>
        refine fn_enter Tryz.func27 rfl 74 rfl fun w0 h0 => ?_
        refine SQ (RG ?_)
        refine RP [] (.d .a) 2 (.d (.k .a)) .a 28 [.int .i64 3, .int .i64 0, .string (mkS s)] fun g1 => ?_
        refine RR [] .z (.i 4 (.int .i64 0) .a) (.i (.blk g1 28 [.int .i64 3, .int .i64 0, .string (mkS s)]) .z) ?_
        refine RZ (NT (SQ (RG ?_)))
        refine RR [] .z (.i 5 (.bool false) .a) (.i (.blk g1 28 [.int .i64 3, .int .i64 0, .string (mkS s)]) .z) ?_
        refine RZ (NT (SQ (SQ (RG ?_))))
        refine RR [0] .z (.i 9 (.int .i64 3) .a) (.i (.blk g1 28 [.int .i64 3, .int .i64 0, .string (mkS s)]) .z) ?_
        refine RZ (NT (BK (SQ (RG ?_))))
        refine RR [] .z (.i 10 (.bool false) .a) (.i (.blk g1 28 [.int .i64 3, .int .i64 0, .string (mkS s)]) .z) ?_
        refine RZ (NT (CF (SQ (RG ?_))))
        refine RR [] .z (.i 20 (.bool false) (.d (.k .a))) (.i (.blk g1 28 [.int .i64 3, .int .i64 0, .string (mkS s)]) .z) ?_
        refine RZ (NT (CF (SQ (RG ?_))))
        refine RR [] .z (.i 25 (.bool false) (.d (.k .a))) (.i (.blk g1 28 [.int .i64 3, .int .i64 0, .string (mkS s)]) .z) ?_
        refine RZ (NT (CF (SQ (RG ?_))))
        refine RR [] .z (.i 40 (.bool true) (.d (.k .a))) (.i (.blk g1 28 [.int .i64 3, .int .i64 0, .string (mkS s)]) .z) ?_
        refine RZ (NT (CT (SQ (RG ?_))))
        refine RR [0] (.d (.d (.d .a))) (.i 45 (.agg #[.int .i64 3, .string (mkS s), .int .i64 0, .int .i64 0, .int .i64 0]) (.d (.d (.k (.k (.k .z)))))) (.i (.blk g1 28 [.int .i64 3, .int .i64 0, .string (mkS s)]) .z) ?_
        refine RC (dst := some 46) [] (.i (.blk g1 28 [.int .i64 3, .int .i64 0, .string (mkS s)]) .z) (TextStr_spec s hl) ?_
        rintro v _ ⟨rfl, rfl⟩
        rw [hp]
        refine RR [] .z (.i 7 (.int .i64 2) (.d (.d (.k .a)))) (.i (.blk g1 28 [.int .i64 3, .int .i64 0, .string (mkS s)]) .z) ?_
        refine RZ (NT (RG ?_))
        refine RR [0] .z (.d (.k (.k .z))) (.i (.blk g1 28 [.int .i64 3, .int .i64 0, .string (mkS s)]) .z) ?_
        refine RZ (BN (NT (SQ (SQ (RG ?_)))))
        refine RR [] .z (.i 73 (.bool true) (.d (.k .a))) (.i (.blk g1 28 [.int .i64 3, .int .i64 0, .string (mkS s)]) .z) ?_
        refine RZ (NT (CT (SQ (RG ?_))))
        refine RR [] .z (.i 4 (.int .i64 2) .z) (.i (.blk g1 28 [.int .i64 3, .int .i64 0, .string (mkS s)]) .z) ?_
        refine RZ (NT (RE (TR ?_)))
        refine NE [] .z (.i (.blk g1 28 [.int .i64 3, .int .i64 0, .string (mkS s)]) .z) [] (.int .i64 2) ?_
        exact ⟨by simp [rightB, *], rfl⟩
    · cases hp : plainB s with
      | true =>
        refine fn_enter Tryz.func27 rfl 74 rfl fun w0 h0 => ?_
        refine SQ (RG ?_)
        refine RP [] (.d .a) 2 (.d (.k .a)) .a 28 [.int .i64 3, .int .i64 n, .string (mkS s)] fun g1 => ?_
        refine RR [] .z (.i 4 (.int .i64 0) .a) (.i (.blk g1 28 [.int .i64 3, .int .i64 n, .string (mkS s)]) .z) ?_
        refine RZ (NT (SQ (RG ?_)))
        refine RR [] .z (.i 5 (.bool false) .a) (.i (.blk g1 28 [.int .i64 3, .int .i64 n, .string (mkS s)]) .z) ?_
        refine RZ (NT (SQ (SQ (RG ?_))))
        refine RR [0] .z (.i 9 (.int .i64 3) .a) (.i (.blk g1 28 [.int .i64 3, .int .i64 n, .string (mkS s)]) .z) ?_
        refine RZ (NT (BK (SQ (RG ?_))))
        refine RR [] .z (.i 10 (.bool false) .a) (.i (.blk g1 28 [.int .i64 3, .int .i64 n, .string (mkS s)]) .z) ?_
        refine RZ (NT (CF (SQ (RG ?_))))
        refine RR [] .z (.i 20 (.bool false) (.d (.k .a))) (.i (.blk g1 28 [.int .i64 3, .int .i64 n, .string (mkS s)]) .z) ?_
        refine RZ (NT (CF (SQ (RG ?_))))
        refine RR [] .z (.i 25 (.bool false) (.d (.k .a))) (.i (.blk g1 28 [.int .i64 3, .int .i64 n, .string (mkS s)]) .z) ?_
        refine RZ (NT (CF (SQ (RG ?_))))
        refine RR [] .z (.i 40 (.bool true) (.d (.k .a))) (.i (.blk g1 28 [.int .i64 3, .int .i64 n, .string (mkS s)]) .z) ?_
        refine RZ (NT (CT (SQ (RG ?_))))
        refine RR [0] (.d (.d (.d .a))) (.i 45 (.agg #[.int .i64 3, .string (mkS s), .int .i64 0, .int .i64 0, .int .i64 0]) (.d (.d (.k (.k (.k .z)))))) (.i (.blk g1 28 [.int .i64 3, .int .i64 n, .string (mkS s)]) .z) ?_
        refine RC (dst := some 46) [] (.i (.blk g1 28 [.int .i64 3, .int .i64 n, .string (mkS s)]) .z) (TextStr_spec s hl) ?_
        rintro v _ ⟨rfl, rfl⟩
        rw [hp]
        refine RR [] .z (.i 7 (.int .i64 0) (.d (.d (.k .a)))) (.i (.blk g1 28 [.int .i64 3, .int .i64 n, .string (mkS s)]) .z) ?_
        refine RZ (NT (RG ?_))
        refine RR [0] (.d (.d (.d (.d .a)))) (.i 52 (.bool (n == 0)) (.k (.k (.k .z)))) (.i (.blk g1 28 [.int .i64 3, .int .i64 n, .string (mkS s)]) .z) ?_
        refine SR 52 (n == 0) false (by simp only [bne_eq_false_iff_eq, beq_eq_false_iff_ne, ne_eq]; omega) ?_
        refine RR [] .z (.d (.d (.d (.k .a)))) (.i (.blk g1 28 [.int .i64 3, .int .i64 n, .string (mkS s)]) .z) ?_
        refine RZ (BN (NT (SQ (SQ (RG ?_)))))
        refine RR [] .z (.i 73 (.bool true) (.d (.k .a))) (.i (.blk g1 28 [.int .i64 3, .int .i64 n, .string (mkS s)]) .z) ?_
        refine RZ (NT (CT (SQ (RG ?_))))
        refine RR [] .z (.i 4 (.int .i64 2) .z) (.i (.blk g1 28 [.int .i64 3, .int .i64 n, .string (mkS s)]) .z) ?_
        refine RZ (NT (RE (TR ?_)))
        refine NE [] .z (.i (.blk g1 28 [.int .i64 3, .int .i64 n, .string (mkS s)]) .z) [] (.int .i64 2) ?_
        exact ⟨by simp [rightB, *], rfl⟩
      | false =>
        refine fn_enter Tryz.func27 rfl 74 rfl fun w0 h0 => ?_
        refine SQ (RG ?_)
        refine RP [] (.d .a) 2 (.d (.k .a)) .a 28 [.int .i64 3, .int .i64 n, .string (mkS s)] fun g1 => ?_
        refine RR [] .z (.i 4 (.int .i64 0) .a) (.i (.blk g1 28 [.int .i64 3, .int .i64 n, .string (mkS s)]) .z) ?_
        refine RZ (NT (SQ (RG ?_)))
        refine RR [] .z (.i 5 (.bool false) .a) (.i (.blk g1 28 [.int .i64 3, .int .i64 n, .string (mkS s)]) .z) ?_
        refine RZ (NT (SQ (SQ (RG ?_))))
        refine RR [0] .z (.i 9 (.int .i64 3) .a) (.i (.blk g1 28 [.int .i64 3, .int .i64 n, .string (mkS s)]) .z) ?_
        refine RZ (NT (BK (SQ (RG ?_))))
        refine RR [] .z (.i 10 (.bool false) .a) (.i (.blk g1 28 [.int .i64 3, .int .i64 n, .string (mkS s)]) .z) ?_
        refine RZ (NT (CF (SQ (RG ?_))))
        refine RR [] .z (.i 20 (.bool false) (.d (.k .a))) (.i (.blk g1 28 [.int .i64 3, .int .i64 n, .string (mkS s)]) .z) ?_
        refine RZ (NT (CF (SQ (RG ?_))))
        refine RR [] .z (.i 25 (.bool false) (.d (.k .a))) (.i (.blk g1 28 [.int .i64 3, .int .i64 n, .string (mkS s)]) .z) ?_
        refine RZ (NT (CF (SQ (RG ?_))))
        refine RR [] .z (.i 40 (.bool true) (.d (.k .a))) (.i (.blk g1 28 [.int .i64 3, .int .i64 n, .string (mkS s)]) .z) ?_
        refine RZ (NT (CT (SQ (RG ?_))))
        refine RR [0] (.d (.d (.d .a))) (.i 45 (.agg #[.int .i64 3, .string (mkS s), .int .i64 0, .int .i64 0, .int .i64 0]) (.d (.d (.k (.k (.k .z)))))) (.i (.blk g1 28 [.int .i64 3, .int .i64 n, .string (mkS s)]) .z) ?_
        refine RC (dst := some 46) [] (.i (.blk g1 28 [.int .i64 3, .int .i64 n, .string (mkS s)]) .z) (TextStr_spec s hl) ?_
        rintro v _ ⟨rfl, rfl⟩
        rw [hp]
        refine RR [] .z (.i 7 (.int .i64 2) (.d (.d (.k .a)))) (.i (.blk g1 28 [.int .i64 3, .int .i64 n, .string (mkS s)]) .z) ?_
        refine RZ (NT (RG ?_))
        refine RR [0] (.d (.d (.d (.d .a)))) (.i 52 (.bool (n == 0)) (.k (.k (.k .z)))) (.i (.blk g1 28 [.int .i64 3, .int .i64 n, .string (mkS s)]) .z) ?_
        refine SR 52 (n == 0) false (by simp only [bne_eq_false_iff_eq, beq_eq_false_iff_ne, ne_eq]; omega) ?_
        refine RR [] .z (.d (.d (.d (.k .a)))) (.i (.blk g1 28 [.int .i64 3, .int .i64 n, .string (mkS s)]) .z) ?_
        refine RZ (BN (NT (SQ (SQ (RG ?_)))))
        refine RR [] .z (.i 73 (.bool true) (.d (.k .a))) (.i (.blk g1 28 [.int .i64 3, .int .i64 n, .string (mkS s)]) .z) ?_
        refine RZ (NT (CT (SQ (RG ?_))))
        refine RR [] .z (.i 4 (.int .i64 2) .z) (.i (.blk g1 28 [.int .i64 3, .int .i64 n, .string (mkS s)]) .z) ?_
        refine RZ (NT (RE (TR ?_)))
        refine NE [] .z (.i (.blk g1 28 [.int .i64 3, .int .i64 n, .string (mkS s)]) .z) [] (.int .i64 2) ?_
        exact ⟨by simp [rightB, *], rfl⟩
  by_cases k4 : k = 4
  · subst k4
    cases s with
    | nil =>
      by_cases h0 : 0 ≤ n
      · by_cases hm : n < m
        · refine fn_enter Tryz.func27 rfl 74 rfl fun w0 h0 => ?_
          refine SQ (RG ?_)
          refine RP [] (.d .a) 2 (.d (.k .a)) .a 28 [.int .i64 4, .int .i64 n, .string (mkS [])] fun g1 => ?_
          refine RR [] .z (.i 4 (.int .i64 0) .a) (.i (.blk g1 28 [.int .i64 4, .int .i64 n, .string (mkS [])]) .z) ?_
          refine RZ (NT (SQ (RG ?_)))
          refine RR [] .z (.i 5 (.bool false) .a) (.i (.blk g1 28 [.int .i64 4, .int .i64 n, .string (mkS [])]) .z) ?_
          refine RZ (NT (SQ (SQ (RG ?_))))
          refine RR [0] .z (.i 9 (.int .i64 4) .a) (.i (.blk g1 28 [.int .i64 4, .int .i64 n, .string (mkS [])]) .z) ?_
          refine RZ (NT (BK (SQ (RG ?_))))
          refine RR [] .z (.i 10 (.bool false) .a) (.i (.blk g1 28 [.int .i64 4, .int .i64 n, .string (mkS [])]) .z) ?_
          refine RZ (NT (CF (SQ (RG ?_))))
          refine RR [] .z (.i 20 (.bool false) (.d (.k .a))) (.i (.blk g1 28 [.int .i64 4, .int .i64 n, .string (mkS [])]) .z) ?_
          refine RZ (NT (CF (SQ (RG ?_))))
          refine RR [] .z (.i 25 (.bool false) (.d (.k .a))) (.i (.blk g1 28 [.int .i64 4, .int .i64 n, .string (mkS [])]) .z) ?_
          refine RZ (NT (CF (SQ (RG ?_))))
          refine RR [] .z (.i 40 (.bool false) (.d (.k .a))) (.i (.blk g1 28 [.int .i64 4, .int .i64 n, .string (mkS [])]) .z) ?_
          refine RZ (NT (CF (SQ (RG ?_))))
          refine RR [] .z (.i 56 (.bool true) (.d (.d (.k .a)))) (.i (.blk g1 28 [.int .i64 4, .int .i64 n, .string (mkS [])]) .z) ?_
          refine RZ (NT (CT (RG ?_)))
          refine RR [0, 0] (.d (.d (.d (.d (.d (.d (.d (.d (.d .a))))))))) (.i 66 (.bool (decide (n ≥ 0))) (.d (.k .a))) (.i (.blk g1 28 [.int .i64 4, .int .i64 n, .string (mkS [])]) .z) ?_
          refine SR 66 (decide (n ≥ 0)) true (decide_eq_true (by omega)) ?_
          refine RR [0] .z (.i 5 (.bool (decide (n < m))) (.d (.d (.d (.k .z))))) (.i (.blk g1 28 [.int .i64 4, .int .i64 n, .string (mkS [])]) .z) ?_
          refine RZ (BN (NT (SQ (SQ (RG ?_)))))
          refine RR [] .z (.i 73 (.bool !decide (n < m)) (.d (.k .a))) (.i (.blk g1 28 [.int .i64 4, .int .i64 n, .string (mkS [])]) .z) ?_
          refine RZ (NT ?_)
          refine SC 73 (!decide (n < m)) false (by simp; omega) ?_
          refine CF (SK (NT (SQ (RG ?_))))
          refine RR [] .z (.d (.d (.k .a))) (.i (.blk g1 28 [.int .i64 4, .int .i64 n, .string (mkS [])]) .z) ?_
          refine RZ (NT (RE ?_))
          refine NE [] .z (.i (.blk g1 28 [.int .i64 4, .int .i64 n, .string (mkS [])]) .z) [] (.int .i64 0) ?_
          exact ⟨by simp [rightB, *], rfl⟩
        · refine fn_enter Tryz.func27 rfl 74 rfl fun w0 h0 => ?_
          refine SQ (RG ?_)
          refine RP [] (.d .a) 2 (.d (.k .a)) .a 28 [.int .i64 4, .int .i64 n, .string (mkS [])] fun g1 => ?_
          refine RR [] .z (.i 4 (.int .i64 0) .a) (.i (.blk g1 28 [.int .i64 4, .int .i64 n, .string (mkS [])]) .z) ?_
          refine RZ (NT (SQ (RG ?_)))
          refine RR [] .z (.i 5 (.bool false) .a) (.i (.blk g1 28 [.int .i64 4, .int .i64 n, .string (mkS [])]) .z) ?_
          refine RZ (NT (SQ (SQ (RG ?_))))
          refine RR [0] .z (.i 9 (.int .i64 4) .a) (.i (.blk g1 28 [.int .i64 4, .int .i64 n, .string (mkS [])]) .z) ?_
          refine RZ (NT (BK (SQ (RG ?_))))
          refine RR [] .z (.i 10 (.bool false) .a) (.i (.blk g1 28 [.int .i64 4, .int .i64 n, .string (mkS [])]) .z) ?_
          refine RZ (NT (CF (SQ (RG ?_))))
          refine RR [] .z (.i 20 (.bool false) (.d (.k .a))) (.i (.blk g1 28 [.int .i64 4, .int .i64 n, .string (mkS [])]) .z) ?_
          refine RZ (NT (CF (SQ (RG ?_))))
          refine RR [] .z (.i 25 (.bool false) (.d (.k .a))) (.i (.blk g1 28 [.int .i64 4, .int .i64 n, .string (mkS [])]) .z) ?_
          refine RZ (NT (CF (SQ (RG ?_))))
          refine RR [] .z (.i 40 (.bool false) (.d (.k .a))) (.i (.blk g1 28 [.int .i64 4, .int .i64 n, .string (mkS [])]) .z) ?_
          refine RZ (NT (CF (SQ (RG ?_))))
          refine RR [] .z (.i 56 (.bool true) (.d (.d (.k .a)))) (.i (.blk g1 28 [.int .i64 4, .int .i64 n, .string (mkS [])]) .z) ?_
          refine RZ (NT (CT (RG ?_)))
          refine RR [0, 0] (.d (.d (.d (.d (.d (.d (.d (.d (.d .a))))))))) (.i 66 (.bool (decide (n ≥ 0))) (.d (.k .a))) (.i (.blk g1 28 [.int .i64 4, .int .i64 n, .string (mkS [])]) .z) ?_
          refine SR 66 (decide (n ≥ 0)) true (decide_eq_true (by omega)) ?_
          refine RR [0] .z (.i 5 (.bool (decide (n < m))) (.d (.d (.d (.k .z))))) (.i (.blk g1 28 [.int .i64 4, .int .i64 n, .string (mkS [])]) .z) ?_
          refine RZ (BN (NT (SQ (SQ (RG ?_)))))
          refine RR [] .z (.i 73 (.bool !decide (n < m)) (.d (.k .a))) (.i (.blk g1 28 [.int .i64 4, .int .i64 n, .string (mkS [])]) .z) ?_
          refine RZ (NT ?_)
          refine SC 73 (!decide (n < m)) true (by simp; omega) ?_
          refine CT (SQ (RG ?_))
          refine RR [] .z (.i 4 (.int .i64 2) .z) (.i (.blk g1 28 [.int .i64 4, .int .i64 n, .string (mkS [])]) .z) ?_
          refine RZ (NT (RE (TR ?_)))
          refine NE [] .z (.i (.blk g1 28 [.int .i64 4, .int .i64 n, .string (mkS [])]) .z) [] (.int .i64 2) ?_
          exact ⟨by simp [rightB, *], rfl⟩
      · refine fn_enter Tryz.func27 rfl 74 rfl fun w0 h0 => ?_
        refine SQ (RG ?_)
        refine RP [] (.d .a) 2 (.d (.k .a)) .a 28 [.int .i64 4, .int .i64 n, .string (mkS [])] fun g1 => ?_
        refine RR [] .z (.i 4 (.int .i64 0) .a) (.i (.blk g1 28 [.int .i64 4, .int .i64 n, .string (mkS [])]) .z) ?_
        refine RZ (NT (SQ (RG ?_)))
        refine RR [] .z (.i 5 (.bool false) .a) (.i (.blk g1 28 [.int .i64 4, .int .i64 n, .string (mkS [])]) .z) ?_
        refine RZ (NT (SQ (SQ (RG ?_))))
        refine RR [0] .z (.i 9 (.int .i64 4) .a) (.i (.blk g1 28 [.int .i64 4, .int .i64 n, .string (mkS [])]) .z) ?_
        refine RZ (NT (BK (SQ (RG ?_))))
        refine RR [] .z (.i 10 (.bool false) .a) (.i (.blk g1 28 [.int .i64 4, .int .i64 n, .string (mkS [])]) .z) ?_
        refine RZ (NT (CF (SQ (RG ?_))))
        refine RR [] .z (.i 20 (.bool false) (.d (.k .a))) (.i (.blk g1 28 [.int .i64 4, .int .i64 n, .string (mkS [])]) .z) ?_
        refine RZ (NT (CF (SQ (RG ?_))))
        refine RR [] .z (.i 25 (.bool false) (.d (.k .a))) (.i (.blk g1 28 [.int .i64 4, .int .i64 n, .string (mkS [])]) .z) ?_
        refine RZ (NT (CF (SQ (RG ?_))))
        refine RR [] .z (.i 40 (.bool false) (.d (.k .a))) (.i (.blk g1 28 [.int .i64 4, .int .i64 n, .string (mkS [])]) .z) ?_
        refine RZ (NT (CF (SQ (RG ?_))))
        refine RR [] .z (.i 56 (.bool true) (.d (.d (.k .a)))) (.i (.blk g1 28 [.int .i64 4, .int .i64 n, .string (mkS [])]) .z) ?_
        refine RZ (NT (CT (RG ?_)))
        refine RR [0, 0] (.d (.d (.d (.d (.d (.d (.d (.d (.d .a))))))))) (.i 66 (.bool (decide (n ≥ 0))) (.d (.k .a))) (.i (.blk g1 28 [.int .i64 4, .int .i64 n, .string (mkS [])]) .z) ?_
        refine SR 66 (decide (n ≥ 0)) false (decide_eq_false (by omega)) ?_
        refine RR [] .z (.d (.d (.k (.k .z)))) (.i (.blk g1 28 [.int .i64 4, .int .i64 n, .string (mkS [])]) .z) ?_
        refine RZ (BN (NT (SQ (SQ (RG ?_)))))
        refine RR [] .z (.i 73 (.bool true) (.d (.k .a))) (.i (.blk g1 28 [.int .i64 4, .int .i64 n, .string (mkS [])]) .z) ?_
        refine RZ (NT (CT (SQ (RG ?_))))
        refine RR [] .z (.i 4 (.int .i64 2) .z) (.i (.blk g1 28 [.int .i64 4, .int .i64 n, .string (mkS [])]) .z) ?_
        refine RZ (NT (RE (TR ?_)))
        refine NE [] .z (.i (.blk g1 28 [.int .i64 4, .int .i64 n, .string (mkS [])]) .z) [] (.int .i64 2) ?_
        exact ⟨by simp [rightB, *], rfl⟩
    | cons c r =>
      refine fn_enter Tryz.func27 rfl 74 rfl fun w0 h0 => ?_
      refine SQ (RG ?_)
      refine RP [] (.d .a) 2 (.d (.k .a)) .a 28 [.int .i64 4, .int .i64 n, .string (mkS (c :: r))] fun g1 => ?_
      refine RR [] .z (.i 4 (.int .i64 0) .a) (.i (.blk g1 28 [.int .i64 4, .int .i64 n, .string (mkS (c :: r))]) .z) ?_
      refine RZ (NT (SQ (RG ?_)))
      refine RR [] .z (.i 5 (.bool false) .a) (.i (.blk g1 28 [.int .i64 4, .int .i64 n, .string (mkS (c :: r))]) .z) ?_
      refine RZ (NT (SQ (SQ (RG ?_))))
      refine RR [0] .z (.i 9 (.int .i64 4) .a) (.i (.blk g1 28 [.int .i64 4, .int .i64 n, .string (mkS (c :: r))]) .z) ?_
      refine RZ (NT (BK (SQ (RG ?_))))
      refine RR [] .z (.i 10 (.bool false) .a) (.i (.blk g1 28 [.int .i64 4, .int .i64 n, .string (mkS (c :: r))]) .z) ?_
      refine RZ (NT (CF (SQ (RG ?_))))
      refine RR [] .z (.i 20 (.bool false) (.d (.k .a))) (.i (.blk g1 28 [.int .i64 4, .int .i64 n, .string (mkS (c :: r))]) .z) ?_
      refine RZ (NT (CF (SQ (RG ?_))))
      refine RR [] .z (.i 25 (.bool false) (.d (.k .a))) (.i (.blk g1 28 [.int .i64 4, .int .i64 n, .string (mkS (c :: r))]) .z) ?_
      refine RZ (NT (CF (SQ (RG ?_))))
      refine RR [] .z (.i 40 (.bool false) (.d (.k .a))) (.i (.blk g1 28 [.int .i64 4, .int .i64 n, .string (mkS (c :: r))]) .z) ?_
      refine RZ (NT (CF (SQ (RG ?_))))
      refine RR [] .z (.i 56 (.bool true) (.d (.d (.k .a)))) (.i (.blk g1 28 [.int .i64 4, .int .i64 n, .string (mkS (c :: r))]) .z) ?_
      refine RZ (NT (CT (RG ?_)))
      refine RR [0] .z (.d (.k (.k .z))) (.i (.blk g1 28 [.int .i64 4, .int .i64 n, .string (mkS (c :: r))]) .z) ?_
      refine RZ (BN (NT (SQ (SQ (RG ?_)))))
      refine RR [] .z (.i 73 (.bool true) (.d (.k .a))) (.i (.blk g1 28 [.int .i64 4, .int .i64 n, .string (mkS (c :: r))]) .z) ?_
      refine RZ (NT (CT (SQ (RG ?_))))
      refine RR [] .z (.i 4 (.int .i64 2) .z) (.i (.blk g1 28 [.int .i64 4, .int .i64 n, .string (mkS (c :: r))]) .z) ?_
      refine RZ (NT (RE (TR ?_)))
      refine NE [] .z (.i (.blk g1 28 [.int .i64 4, .int .i64 n, .string (mkS (c :: r))]) .z) [] (.int .i64 2) ?_
      exact ⟨by simp [rightB, *], rfl⟩
  refine fn_enter Tryz.func27 rfl 74 rfl fun w0 h0 => ?_
  refine SQ (RG ?_)
  refine RP [] (.d .a) 2 (.d (.k .a)) .a 28 [.int .i64 k, .int .i64 n, .string (mkS s)] fun g1 => ?_
  refine RR [] .z (.i 4 (.int .i64 0) .a) (.i (.blk g1 28 [.int .i64 k, .int .i64 n, .string (mkS s)]) .z) ?_
  refine RZ (NT (SQ (RG ?_)))
  refine RR [] .z (.i 5 (.bool false) .a) (.i (.blk g1 28 [.int .i64 k, .int .i64 n, .string (mkS s)]) .z) ?_
  refine RZ (NT (SQ (SQ (RG ?_))))
  refine RR [0] .z (.i 9 (.int .i64 k) .a) (.i (.blk g1 28 [.int .i64 k, .int .i64 n, .string (mkS s)]) .z) ?_
  refine RZ (NT (BK (SQ (RG ?_))))
  refine RR [] .z (.i 10 (.bool (k == 0)) .a) (.i (.blk g1 28 [.int .i64 k, .int .i64 n, .string (mkS s)]) .z) ?_
  refine RZ (NT ?_)
  refine SC 10 (k == 0) false (by simp only [bne_eq_false_iff_eq, beq_eq_false_iff_ne, ne_eq]; omega) ?_
  refine CF (SQ (RG ?_))
  refine RR [] .z (.i 20 (.bool (k == 1)) (.d (.d (.k .a)))) (.i (.blk g1 28 [.int .i64 k, .int .i64 n, .string (mkS s)]) .z) ?_
  refine RZ (NT ?_)
  refine SC 20 (k == 1) false (by simp only [bne_eq_false_iff_eq, beq_eq_false_iff_ne, ne_eq]; omega) ?_
  refine CF (SQ (RG ?_))
  refine RR [] .z (.i 25 (.bool (k == 2)) (.d (.d (.k .a)))) (.i (.blk g1 28 [.int .i64 k, .int .i64 n, .string (mkS s)]) .z) ?_
  refine RZ (NT ?_)
  refine SC 25 (k == 2) false (by simp only [bne_eq_false_iff_eq, beq_eq_false_iff_ne, ne_eq]; omega) ?_
  refine CF (SQ (RG ?_))
  refine RR [] .z (.i 40 (.bool (k == 3)) (.d (.d (.k .a)))) (.i (.blk g1 28 [.int .i64 k, .int .i64 n, .string (mkS s)]) .z) ?_
  refine RZ (NT ?_)
  refine SC 40 (k == 3) false (by simp only [bne_eq_false_iff_eq, beq_eq_false_iff_ne, ne_eq]; omega) ?_
  refine CF (SQ (RG ?_))
  refine RR [] .z (.i 56 (.bool (k == 4)) (.d (.d (.d (.k .a))))) (.i (.blk g1 28 [.int .i64 k, .int .i64 n, .string (mkS s)]) .z) ?_
  refine RZ (NT ?_)
  refine SC 56 (k == 4) false (by simp only [bne_eq_false_iff_eq, beq_eq_false_iff_ne, ne_eq]; omega) ?_
  refine CF (SK (BN (NT (SQ (SQ (RG ?_))))))
  refine RR [] .z (.i 73 (.bool true) (.d (.d (.d (.k .z))))) (.i (.blk g1 28 [.int .i64 k, .int .i64 n, .string (mkS s)]) .z) ?_
  refine RZ (NT (CT (SQ (RG ?_))))
  refine RR [] .z (.i 4 (.int .i64 2) .z) (.i (.blk g1 28 [.int .i64 k, .int .i64 n, .string (mkS s)]) .z) ?_
  refine RZ (NT (RE (TR ?_)))
  refine NE [] .z (.i (.blk g1 28 [.int .i64 k, .int .i64 n, .string (mkS s)]) .z) [] (.int .i64 2) ?_
  exact ⟨by simp [rightB, *], rfl⟩
theorem Right_spec (v : V) (m : Int) (hl : v.s.length ≤ 1048576) : Does Tryz.prog 30 [valV v, .int .i64 m] [] (fun u hp' => u = .bool (rightB v m) ∧ hp' = []) := by
  obtain ⟨k, n, s⟩ := v
  unfold valV
  dsimp only at hl ⊢
  by_cases k0 : k = 0
  · subst k0
    by_cases hn : n = 0
    · subst hn
      cases s with
      | nil =>
        refine fn_enter Tryz.func30 rfl 63 rfl fun w0 h0 => ?_
        refine SQ (RG ?_)
        refine RP [] (.d .a) 2 (.d (.k .a)) .a 28 [.int .i64 0, .int .i64 0, .string (mkS [])] fun g1 => ?_
        refine RR [] .z (.i 4 (.bool false) .a) (.i (.blk g1 28 [.int .i64 0, .int .i64 0, .string (mkS [])]) .z) ?_
        refine RZ (NT (SQ (SQ (RG ?_))))
        refine RR [0] .z (.i 6 (.int .i64 0) .a) (.i (.blk g1 28 [.int .i64 0, .int .i64 0, .string (mkS [])]) .z) ?_
        refine RZ (NT (BK (SQ (RG ?_))))
        refine RR [] .z (.i 7 (.bool true) .a) (.i (.blk g1 28 [.int .i64 0, .int .i64 0, .string (mkS [])]) .z) ?_
        refine RZ (NT (CT (SQ (RG ?_))))
        refine RR [0, 0] .z (.i 4 (.bool true) .z) (.i (.blk g1 28 [.int .i64 0, .int .i64 0, .string (mkS [])]) .z) ?_
        refine RZ (NT (RE (BR (TR ?_))))
        refine NE [] .z (.i (.blk g1 28 [.int .i64 0, .int .i64 0, .string (mkS [])]) .z) [] (.bool true) ?_
        exact ⟨by simp [rightB, *], rfl⟩
      | cons c r =>
        refine fn_enter Tryz.func30 rfl 63 rfl fun w0 h0 => ?_
        refine SQ (RG ?_)
        refine RP [] (.d .a) 2 (.d (.k .a)) .a 28 [.int .i64 0, .int .i64 0, .string (mkS (c :: r))] fun g1 => ?_
        refine RR [] .z (.i 4 (.bool false) .a) (.i (.blk g1 28 [.int .i64 0, .int .i64 0, .string (mkS (c :: r))]) .z) ?_
        refine RZ (NT (SQ (SQ (RG ?_))))
        refine RR [0] .z (.i 6 (.int .i64 0) .a) (.i (.blk g1 28 [.int .i64 0, .int .i64 0, .string (mkS (c :: r))]) .z) ?_
        refine RZ (NT (BK (SQ (RG ?_))))
        refine RR [] .z (.i 7 (.bool true) .a) (.i (.blk g1 28 [.int .i64 0, .int .i64 0, .string (mkS (c :: r))]) .z) ?_
        refine RZ (NT (CT (SQ (RG ?_))))
        refine RR [0, 0] .z (.d (.d (.k .z))) (.i (.blk g1 28 [.int .i64 0, .int .i64 0, .string (mkS (c :: r))]) .z) ?_
        refine RZ (NT (RE (BR (TR ?_))))
        refine NE [] .z (.i (.blk g1 28 [.int .i64 0, .int .i64 0, .string (mkS (c :: r))]) .z) [] (.bool false) ?_
        exact ⟨by simp [rightB, *], rfl⟩
    · refine fn_enter Tryz.func30 rfl 63 rfl fun w0 h0 => ?_
      refine SQ (RG ?_)
      refine RP [] (.d .a) 2 (.d (.k .a)) .a 28 [.int .i64 0, .int .i64 n, .string (mkS s)] fun g1 => ?_
      refine RR [] .z (.i 4 (.bool false) .a) (.i (.blk g1 28 [.int .i64 0, .int .i64 n, .string (mkS s)]) .z) ?_
      refine RZ (NT (SQ (SQ (RG ?_))))
      refine RR [0] .z (.i 6 (.int .i64 0) .a) (.i (.blk g1 28 [.int .i64 0, .int .i64 n, .string (mkS s)]) .z) ?_
      refine RZ (NT (BK (SQ (RG ?_))))
      refine RR [] .z (.i 7 (.bool true) .a) (.i (.blk g1 28 [.int .i64 0, .int .i64 n, .string (mkS s)]) .z) ?_
      refine RZ (NT (CT (SQ (RG ?_))))
      refine RR [0] (.d (.d (.d (.d .a)))) (.i 12 (.bool (n == 0)) (.d (.d (.k (.k .z))))) (.i (.blk g1 28 [.int .i64 0, .int .i64 n, .string (mkS s)]) .z) ?_
      refine SR 12 (n == 0) false (by simp only [bne_eq_false_iff_eq, beq_eq_false_iff_ne, ne_eq]; omega) ?_
      refine RR [] .z (.d (.d (.k .z))) (.i (.blk g1 28 [.int .i64 0, .int .i64 n, .string (mkS s)]) .z) ?_
      refine RZ (NT (RE (BR (TR ?_))))
      refine NE [] .z (.i (.blk g1 28 [.int .i64 0, .int .i64 n, .string (mkS s)]) .z) [] (.bool false) ?_
      exact ⟨by simp [rightB, *], rfl⟩
  by_cases k1 : k = 1
  · subst k1
    cases s with
    | nil =>
      refine fn_enter Tryz.func30 rfl 63 rfl fun w0 h0 => ?_
      refine SQ (RG ?_)
      refine RP [] (.d .a) 2 (.d (.k .a)) .a 28 [.int .i64 1, .int .i64 n, .string (mkS [])] fun g1 => ?_
      refine RR [] .z (.i 4 (.bool false) .a) (.i (.blk g1 28 [.int .i64 1, .int .i64 n, .string (mkS [])]) .z) ?_
      refine RZ (NT (SQ (SQ (RG ?_))))
      refine RR [0] .z (.i 6 (.int .i64 1) .a) (.i (.blk g1 28 [.int .i64 1, .int .i64 n, .string (mkS [])]) .z) ?_
      refine RZ (NT (BK (SQ (RG ?_))))
      refine RR [] .z (.i 7 (.bool false) .a) (.i (.blk g1 28 [.int .i64 1, .int .i64 n, .string (mkS [])]) .z) ?_
      refine RZ (NT (CF (SQ (RG ?_))))
      refine RR [] .z (.i 17 (.bool true) (.d (.k .a))) (.i (.blk g1 28 [.int .i64 1, .int .i64 n, .string (mkS [])]) .z) ?_
      refine RZ (NT (CT (SQ (RG ?_))))
      refine RR [0] .z (.i 4 (.bool true) .z) (.i (.blk g1 28 [.int .i64 1, .int .i64 n, .string (mkS [])]) .z) ?_
      refine RZ (NT (RE (BR (TR ?_))))
      refine NE [] .z (.i (.blk g1 28 [.int .i64 1, .int .i64 n, .string (mkS [])]) .z) [] (.bool true) ?_
      exact ⟨by simp [rightB, *], rfl⟩
    | cons c r =>
      refine fn_enter Tryz.func30 rfl 63 rfl fun w0 h0 => ?_
      refine SQ (RG ?_)
      refine RP [] (.d .a) 2 (.d (.k .a)) .a 28 [.int .i64 1, .int .i64 n, .string (mkS (c :: r))] fun g1 => ?_
      refine RR [] .z (.i 4 (.bool false) .a) (.i (.blk g1 28 [.int .i64 1, .int .i64 n, .string (mkS (c :: r))]) .z) ?_
      refine RZ (NT (SQ (SQ (RG ?_))))
      refine RR [0] .z (.i 6 (.int .i64 1) .a) (.i (.blk g1 28 [.int .i64 1, .int .i64 n, .string (mkS (c :: r))]) .z) ?_
      refine RZ (NT (BK (SQ (RG ?_))))
      refine RR [] .z (.i 7 (.bool false) .a) (.i (.blk g1 28 [.int .i64 1, .int .i64 n, .string (mkS (c :: r))]) .z) ?_
      refine RZ (NT (CF (SQ (RG ?_))))
      refine RR [] .z (.i 17 (.bool true) (.d (.k .a))) (.i (.blk g1 28 [.int .i64 1, .int .i64 n, .string (mkS (c :: r))]) .z) ?_
      refine RZ (NT (CT (SQ (RG ?_))))
      refine RR [0] .z (.d (.d (.k .z))) (.i (.blk g1 28 [.int .i64 1, .int .i64 n, .string (mkS (c :: r))]) .z) ?_
      refine RZ (NT (RE (BR (TR ?_))))
      refine NE [] .z (.i (.blk g1 28 [.int .i64 1, .int .i64 n, .string (mkS (c :: r))]) .z) [] (.bool false) ?_
      exact ⟨by simp [rightB, *], rfl⟩
  by_cases k2 : k = 2
  · subst k2
    cases s with
    | nil =>
      by_cases hn : n = 0
      · subst hn
        refine fn_enter Tryz.func30 rfl 63 rfl fun w0 h0 => ?_
        refine SQ (RG ?_)
        refine RP [] (.d .a) 2 (.d (.k .a)) .a 28 [.int .i64 2, .int .i64 0, .string (mkS [])] fun g1 => ?_
        refine RR [] .z (.i 4 (.bool false) .a) (.i (.blk g1 28 [.int .i64 2, .int .i64 0, .string (mkS [])]) .z) ?_
        refine RZ (NT (SQ (SQ (RG ?_))))
        refine RR [0] .z (.i 6 (.int .i64 2) .a) (.i (.blk g1 28 [.int .i64 2, .int .i64 0, .string (mkS [])]) .z) ?_
        refine RZ (NT (BK (SQ (RG ?_))))
        refine RR [] .z (.i 7 (.bool false) .a) (.i (.blk g1 28 [.int .i64 2, .int .i64 0, .string (mkS [])]) .z) ?_
        refine RZ (NT (CF (SQ (RG ?_))))
        refine RR [] .z (.i 17 (.bool false) (.d (.k .a))) (.i (.blk g1 28 [.int .i64 2, .int .i64 0, .string (mkS [])]) .z) ?_
        refine RZ (NT (CF (SQ (RG ?_))))
        refine RR [] .z (.i 22 (.bool true) (.d (.k .a))) (.i (.blk g1 28 [.int .i64 2, .int .i64 0, .string (mkS [])]) .z) ?_
        refine RZ (NT (CT (SQ (RG ?_))))
        refine RR [0, 0] .z (.i 4 (.bool true) .z) (.i (.blk g1 28 [.int .i64 2, .int .i64 0, .string (mkS [])]) .z) ?_
        refine RZ (NT (RE (BR (TR ?_))))
        refine NE [] .z (.i (.blk g1 28 [.int .i64 2, .int .i64 0, .string (mkS [])]) .z) [] (.bool true) ?_
        exact ⟨by simp [rightB, *], rfl⟩
      · by_cases hn1 : n = 1
        · subst hn1
          refine fn_enter Tryz.func30 rfl 63 rfl fun w0 h0 => ?_
          refine SQ (RG ?_)
          refine RP [] (.d .a) 2 (.d (.k .a)) .a 28 [.int .i64 2, .int .i64 1, .string (mkS [])] fun g1 => ?_
          refine RR [] .z (.i 4 (.bool false) .a) (.i (.blk g1 28 [.int .i64 2, .int .i64 1, .string (mkS [])]) .z) ?_
          refine RZ (NT (SQ (SQ (RG ?_))))
          refine RR [0] .z (.i 6 (.int .i64 2) .a) (.i (.blk g1 28 [.int .i64 2, .int .i64 1, .string (mkS [])]) .z) ?_
          refine RZ (NT (BK (SQ (RG ?_))))
          refine RR [] .z (.i 7 (.bool false) .a) (.i (.blk g1 28 [.int .i64 2, .int .i64 1, .string (mkS [])]) .z) ?_
          refine RZ (NT (CF (SQ (RG ?_))))
          refine RR [] .z (.i 17 (.bool false) (.d (.k .a))) (.i (.blk g1 28 [.int .i64 2, .int .i64 1, .string (mkS [])]) .z) ?_
          refine RZ (NT (CF (SQ (RG ?_))))
          refine RR [] .z (.i 22 (.bool true) (.d (.k .a))) (.i (.blk g1 28 [.int .i64 2, .int .i64 1, .string (mkS [])]) .z) ?_
          refine RZ (NT (CT (SQ (RG ?_))))
          refine RR [0, 0, 0] .z (.i 4 (.bool true) .z) (.i (.blk g1 28 [.int .i64 2, .int .i64 1, .string (mkS [])]) .z) ?_
          refine RZ (NT (RE (BR (TR ?_))))
          refine NE [] .z (.i (.blk g1 28 [.int .i64 2, .int .i64 1, .string (mkS [])]) .z) [] (.bool true) ?_
          exact ⟨by simp [rightB, *], rfl⟩
        · refine fn_enter Tryz.func30 rfl 63 rfl fun w0 h0 => ?_
          refine SQ (RG ?_)
          refine RP [] (.d .a) 2 (.d (.k .a)) .a 28 [.int .i64 2, .int .i64 n, .string (mkS [])] fun g1 => ?_
          refine RR [] .z (.i 4 (.bool false) .a) (.i (.blk g1 28 [.int .i64 2, .int .i64 n, .string (mkS [])]) .z) ?_
          refine RZ (NT (SQ (SQ (RG ?_))))
          refine RR [0] .z (.i 6 (.int .i64 2) .a) (.i (.blk g1 28 [.int .i64 2, .int .i64 n, .string (mkS [])]) .z) ?_
          refine RZ (NT (BK (SQ (RG ?_))))
          refine RR [] .z (.i 7 (.bool false) .a) (.i (.blk g1 28 [.int .i64 2, .int .i64 n, .string (mkS [])]) .z) ?_
          refine RZ (NT (CF (SQ (RG ?_))))
          refine RR [] .z (.i 17 (.bool false) (.d (.k .a))) (.i (.blk g1 28 [.int .i64 2, .int .i64 n, .string (mkS [])]) .z) ?_
          refine RZ (NT (CF (SQ (RG ?_))))
          refine RR [] .z (.i 22 (.bool true) (.d (.k .a))) (.i (.blk g1 28 [.int .i64 2, .int .i64 n, .string (mkS [])]) .z) ?_
          refine RZ (NT (CT (SQ (RG ?_))))
          refine RR [0, 0] (.d (.d (.d (.d (.d (.d (.d (.d .a)))))))) (.i 31 (.bool (n == 0)) (.i 27 (.bool true) (.d (.d (.k (.k .z)))))) (.i (.blk g1 28 [.int .i64 2, .int .i64 n, .string (mkS [])]) .z) ?_
          refine SR 31 (n == 0) false (by simp only [bne_eq_false_iff_eq, beq_eq_false_iff_ne, ne_eq]; omega) ?_
          refine RR [0] .z (.i 4 (.bool (n == 1)) .z) (.i (.blk g1 28 [.int .i64 2, .int .i64 n, .string (mkS [])]) .z) ?_
          refine RZ (NT (RE (BR (TR ?_))))
          refine NE [] .z (.i (.blk g1 28 [.int .i64 2, .int .i64 n, .string (mkS [])]) .z) [] (.bool (n == 1)) ?_
          exact ⟨by simp [rightB, *], rfl⟩
    | cons c r =>
      refine fn_enter Tryz.func30 rfl 63 rfl fun w0 h0 => ?_
      refine SQ (RG ?_)
      refine RP [] (.d .a) 2 (.d (.k .a)) .a 28 [.int .i64 2, .int .i64 n, .string (mkS (c :: r))] fun g1 => ?_
      refine RR [] .z (.i 4 (.bool false) .a) (.i (.blk g1 28 [.int .i64 2, .int .i64 n, .string (mkS (c :: r))]) .z) ?_
      refine RZ (NT (SQ (SQ (RG ?_))))
      refine RR [0] .z (.i 6 (.int .i64 2) .a) (.i (.blk g1 28 [.int .i64 2, .int .i64 n, .string (mkS (c :: r))]) .z) ?_
      refine RZ (NT (BK (SQ (RG ?_))))
      refine RR [] .z (.i 7 (.bool false) .a) (.i (.blk g1 28 [.int .i64 2, .int .i64 n, .string (mkS (c :: r))]) .z) ?_
      refine RZ (NT (CF (SQ (RG ?_))))
      refine RR [] .z (.i 17 (.bool false) (.d (.k .a))) (.i (.blk g1 28 [.int .i64 2, .int .i64 n, .string (mkS (c :: r))]) .z) ?_
      refine RZ (NT (CF (SQ (RG ?_))))
      refine RR [] .z (.i 22 (.bool true) (.d (.k .a))) (.i (.blk g1 28 [.int .i64 2, .int .i64 n, .string (mkS (c :: r))]) .z) ?_
      refine RZ (NT (CT (SQ (RG ?_))))
      refine RR [0] .z (.d (.d (.k .z))) (.i (.blk g1 28 [.int .i64 2, .int .i64 n, .string (mkS (c :: r))]) .z) ?_
      refine RZ (NT (RE (BR (TR ?_))))
      refine NE [] .z (.i (.blk g1 28 [.int .i64 2, .int .i64 n, .string (mkS (c :: r))]) .z) [] (.bool false) ?_
      exact ⟨by simp [rightB, *], rfl⟩
  by_cases k3 : k = 3
  · subst k3
    by_cases hn : n = 0
    · subst hn
      cases hp : plainB s with
      | true =>
        refine fn_enter Tryz.func30 rfl 63 rfl fun w0 h0 => ?_
        refine SQ (RG ?_)
        refine RP [] (.d .a) 2 (.d (.k .a)) .a 28 [.int .i64 3, .int .i64 0, .string (mkS s)] fun g1 => ?_
        refine RR [] .z (.i 4 (.bool false) .a) (.i (.blk g1 28 [.int .i64 3, .int .i64 0, .string (mkS s)]) .z) ?_
        refine RZ (NT (SQ (SQ (RG ?_))))
        refine RR [0] .z (.i 6 (.int .i64 3) .a) (.i (.blk g1 28 [.int .i64 3, .int .i64 0, .string (mkS s)]) .z) ?_
        refine RZ (NT (BK (SQ (RG ?_))))
        refine RR [] .z (.i 7 (.bool false) .a) (.i (.blk g1 28 [.int .i64 3, .int .i64 0, .string (mkS s)]) .z) ?_
        refine RZ (NT (CF (SQ (RG ?_))))
        refine RR [] .z (.i 17 (.bool false) (.d (.k .a))) (.i (.blk g1 28 [.int .i64 3, .int .i64 0, .string (mkS s)]) .z) ?_
        refine RZ (NT (CF (SQ (RG ?_))))
        refine RR [] .z (.i 22 (.bool false) (.d (.k .a))) (.i (.blk g1 28 [.int .i64 3, .int .i64 0, .string (mkS s)]) .z) ?_
        refine RZ (NT (CF (SQ (RG ?_))))
        refine RR [] .z (.i 37 (.bool true) (.d (.k .a))) (.i (.blk g1 28 [.int .i64 3, .int .i64 0, .string (mkS s)]) .z) ?_
        refine RZ (NT (CT (SQ (RG ?_))))
        refine RR [0, 0] (.d (.d (.d (.d (.d (.d .a)))))) (.i 44 (.string (mkS s)) (.i 42 (.bool true) (.d (.d (.k .z))))) (.i (.blk g1 28 [.int .i64 3, .int .i64 0, .string (mkS s)]) .z) ?_
        refine RC (dst := some 45) [] (.i (.blk g1 28 [.int .i64 3, .int .i64 0, .string (mkS s)]) .z) (rPlain_spec s hl) ?_
        rintro v _ ⟨rfl, rfl⟩
        rw [hp]
        refine RR [] .z (.i 4 (.bool true) .z) (.i (.blk g1 28 [.int .i64 3, .int .i64 0, .string (mkS s)]) .z) ?_
        refine RZ (NT (RE (BR (TR ?_))))
        refine NE [] .z (.i (.blk g1 28 [.int .i64 3, .int .i64 0, .string (mkS s)]) .z) [] (.bool true) ?_
        exact ⟨by simp [rightB, *], rfl⟩
      | false =>
        refine fn_enter Tryz.func30 rfl 63 rfl fun w0 h0 => ?_
        refine SQ (RG ?_)
        refine RP [] (.d .a) 2 (.d (.k .a)) .a 28 [.int .i64 3, .int .i64 0, .string (mkS s)] fun g1 => ?_
        refine RR [] .z (.i 4 (.bool false) .a) (.i (.blk g1 28 [.int .i64 3, .int .i64 0, .string (mkS s)]) .z) ?_
        refine RZ (NT (SQ (SQ (RG ?_))))
        refine RR [0] .z (.i 6 (.int .i64 3) .a) (.i (.blk g1 28 [.int .i64 3, .int .i64 0, .string (mkS s)]) .z) ?_
        refine RZ (NT (BK (SQ (RG ?_))))
        refine RR [] .z (.i 7 (.bool false) .a) (.i (.blk g1 28 [.int .i64 3, .int .i64 0, .string (mkS s)]) .z) ?_
        refine RZ (NT (CF (SQ (RG ?_))))
        refine RR [] .z (.i 17 (.bool false) (.d (.k .a))) (.i (.blk g1 28 [.int .i64 3, .int .i64 0, .string (mkS s)]) .z) ?_
        refine RZ (NT (CF (SQ (RG ?_))))
        refine RR [] .z (.i 22 (.bool false) (.d (.k .a))) (.i (.blk g1 28 [.int .i64 3, .int .i64 0, .string (mkS s)]) .z) ?_
        refine RZ (NT (CF (SQ (RG ?_))))
        refine RR [] .z (.i 37 (.bool true) (.d (.k .a))) (.i (.blk g1 28 [.int .i64 3, .int .i64 0, .string (mkS s)]) .z) ?_
        refine RZ (NT (CT (SQ (RG ?_))))
        refine RR [0, 0] (.d (.d (.d (.d (.d (.d .a)))))) (.i 44 (.string (mkS s)) (.i 42 (.bool true) (.d (.d (.k .z))))) (.i (.blk g1 28 [.int .i64 3, .int .i64 0, .string (mkS s)]) .z) ?_
        refine RC (dst := some 45) [] (.i (.blk g1 28 [.int .i64 3, .int .i64 0, .string (mkS s)]) .z) (rPlain_spec s hl) ?_
        rintro v _ ⟨rfl, rfl⟩
        rw [hp]
        refine RR [] .z (.d (.d (.d (.k .a)))) (.i (.blk g1 28 [.int .i64 3, .int .i64 0, .string (mkS s)]) .z) ?_
        refine RZ (NT (RE (BR (TR ?_))))
        refine NE [] .z (.i (.blk g1 28 [.int .i64 3, .int .i64 0, .string (mkS s)]) .z) [] (.bool false) ?_
        exact ⟨by simp [rightB, *], rfl⟩
    · refine fn_enter Tryz.func30 rfl 63 rfl fun w0 h0 => ?_
      refine SQ (RG ?_)
      refine RP [] (.d .a) 2 (.d (.k .a)) .a 28 [.int .i64 3, .int .i64 n, .string (mkS s)] fun g1 => ?_
      refine RR [] .z (.i 4 (.bool false) .a) (.i (.blk g1 28 [.int .i64 3, .int .i64 n, .string (mkS s)]) .z) ?_
      refine RZ (NT (SQ (SQ (RG ?_))))
      refine RR [0] .z (.i 6 (.int .i64 3) .a) (.i (.blk g1 28 [.int .i64 3, .int .i64 n, .string (mkS s)]) .z) ?_
      refine RZ (NT (BK (SQ (RG ?_))))
      refine RR [] .z (.i 7 (.bool false) .a) (.i (.blk g1 28 [.int .i64 3, .int .i64 n, .string (mkS s)]) .z) ?_
      refine RZ (NT (CF (SQ (RG ?_))))
      refine RR [] .z (.i 17 (.bool false) (.d (.k .a))) (.i (.blk g1 28 [.int .i64 3, .int .i64 n, .string (mkS s)]) .z) ?_
      refine RZ (NT (CF (SQ (RG ?_))))
      refine RR [] .z (.i 22 (.bool false) (.d (.k .a))) (.i (.blk g1 28 [.int .i64 3, .int .i64 n, .string (mkS s)]) .z) ?_
      refine RZ (NT (CF (SQ (RG ?_))))
      refine RR [] .z (.i 37 (.bool true) (.d (.k .a))) (.i (.blk g1 28 [.int .i64 3, .int .i64 n, .string (mkS s)]) .z) ?_
      refine RZ (NT (CT (SQ (RG ?_))))
      refine RR [0] (.d (.d (.d (.d .a)))) (.i 42 (.bool (n == 0)) (.d (.d (.k (.k .z))))) (.i (.blk g1 28 [.int .i64 3, .int .i64 n, .string (mkS s)]) .z) ?_
      refine SR 42 (n == 0) false (by simp only [bne_eq_false_iff_eq, beq_eq_false_iff_ne, ne_eq]; omega) ?_
      refine RR [] .z (.d (.d (.k .z))) (.i (.blk g1 28 [.int .i64 3, .int .i64 n, .string (mkS s)]) .z) ?_
      refine RZ (NT (RE (BR (TR ?_))))
      refine NE [] .z (.i (.blk g1 28 [.int .i64 3, .int .i64 n, .string (mkS s)]) .z) [] (.bool false) ?_
      exact ⟨by simp [rightB, *], rfl⟩
  by_cases k4 : k = 4
  · subst k4
    cases s with
    | nil =>
      by_cases h0 : 0 ≤ n
      · by_cases hm : n < m
        · refine fn_enter Tryz.func30 rfl 63 rfl fun w0 h0 => ?_
          refine SQ (RG ?_)
          refine RP [] (.d .a) 2 (.d (.k .a)) .a 28 [.int .i64 4, .int .i64 n, .string (mkS [])] fun g1 => ?_
          refine RR [] .z (.i 4 (.bool false) .a) (.i (.blk g1 28 [.int .i64 4, .int .i64 n, .string (mkS [])]) .z) ?_
          refine RZ (NT (SQ (SQ (RG ?_))))
          refine RR [0] .z (.i 6 (.int .i64 4) .a) (.i (.blk g1 28 [.int .i64 4, .int .i64 n, .string (mkS [])]) .z) ?_
          refine RZ (NT (BK (SQ (RG ?_))))
          refine RR [] .z (.i 7 (.bool false) .a) (.i (.blk g1 28 [.int .i64 4, .int .i64 n, .string (mkS [])]) .z) ?_
          refine RZ (NT (CF (SQ (RG ?_))))
          refine RR [] .z (.i 17 (.bool false) (.d (.k .a))) (.i (.blk g1 28 [.int .i64 4, .int .i64 n, .string (mkS [])]) .z) ?_
          refine RZ (NT (CF (SQ (RG ?_))))
          refine RR [] .z (.i 22 (.bool false) (.d (.k .a))) (.i (.blk g1 28 [.int .i64 4, .int .i64 n, .string (mkS [])]) .z) ?_
          refine RZ (NT (CF (SQ (RG ?_))))
          refine RR [] .z (.i 37 (.bool false) (.d (.k .a))) (.i (.blk g1 28 [.int .i64 4, .int .i64 n, .string (mkS [])]) .z) ?_
          refine RZ (NT (CF (SQ (RG ?_))))
          refine RR [] .z (.i 47 (.bool true) (.d (.d (.k .a)))) (.i (.blk g1 28 [.int .i64 4, .int .i64 n, .string (mkS [])]) .z) ?_
          refine RZ (NT (CT (SQ (RG ?_))))
          refine RR [0, 0] (.d (.d (.d (.d (.d (.d (.d (.d (.d .a))))))))) (.i 57 (.bool (decide (n ≥ 0))) (.d (.k .a))) (.i (.blk g1 28 [.int .i64 4, .int .i64 n, .string (mkS [])]) .z) ?_
          refine SR 57 (decide (n ≥ 0)) true (decide_eq_true (by omega)) ?_
          refine RR [0] .z (.i 4 (.bool (decide (n < m))) .z) (.i (.blk g1 28 [.int .i64 4, .int .i64 n, .string (mkS [])]) .z) ?_
          refine RZ (NT (RE (BR (TR ?_))))
          refine NE [] .z (.i (.blk g1 28 [.int .i64 4, .int .i64 n, .string (mkS [])]) .z) [] (.bool (decide (n < m))) ?_
          exact ⟨by simp [rightB, *], rfl⟩
        · refine fn_enter Tryz.func30 rfl 63 rfl fun w0 h0 => ?_
          refine SQ (RG ?_)
          refine RP [] (.d .a) 2 (.d (.k .a)) .a 28 [.int .i64 4, .int .i64 n, .string (mkS [])] fun g1 => ?_
          refine RR [] .z (.i 4 (.bool false) .a) (.i (.blk g1 28 [.int .i64 4, .int .i64 n, .string (mkS [])]) .z) ?_
          refine RZ (NT (SQ (SQ (RG ?_))))
          refine RR [0] .z (.i 6 (.int .i64 4) .a) (.i (.blk g1 28 [.int .i64 4, .int .i64 n, .string (mkS [])]) .z) ?_
          refine RZ (NT (BK (SQ (RG ?_))))
          refine RR [] .z (.i 7 (.bool false) .a) (.i (.blk g1 28 [.int .i64 4, .int .i64 n, .string (mkS [])]) .z) ?_
          refine RZ (NT (CF (SQ (RG ?_))))
          refine RR [] .z (.i 17 (.bool false) (.d (.k .a))) (.i (.blk g1 28 [.int .i64 4, .int .i64 n, .string (mkS [])]) .z) ?_
          refine RZ (NT (CF (SQ (RG ?_))))
          refine RR [] .z (.i 22 (.bool false) (.d (.k .a))) (.i (.blk g1 28 [.int .i64 4, .int .i64 n, .string (mkS [])]) .z) ?_
          refine RZ (NT (CF (SQ (RG ?_))))
          refine RR [] .z (.i 37 (.bool false) (.d (.k .a))) (.i (.blk g1 28 [.int .i64 4, .int .i64 n, .string (mkS [])]) .z) ?_
          refine RZ (NT (CF (SQ (RG ?_))))
          refine RR [] .z (.i 47 (.bool true) (.d (.d (.k .a)))) (.i (.blk g1 28 [.int .i64 4, .int .i64 n, .string (mkS [])]) .z) ?_
          refine RZ (NT (CT (SQ (RG ?_))))
          refine RR [0, 0] (.d (.d (.d (.d (.d (.d (.d (.d (.d .a))))))))) (.i 57 (.bool (decide (n ≥ 0))) (.d (.k .a))) (.i (.blk g1 28 [.int .i64 4, .int .i64 n, .string (mkS [])]) .z) ?_
          refine SR 57 (decide (n ≥ 0)) true (decide_eq_true (by omega)) ?_
          refine RR [0] .z (.i 4 (.bool (decide (n < m))) .z) (.i (.blk g1 28 [.int .i64 4, .int .i64 n, .string (mkS [])]) .z) ?_
          refine RZ (NT (RE (BR (TR ?_))))
          refine NE [] .z (.i (.blk g1 28 [.int .i64 4, .int .i64 n, .string (mkS [])]) .z) [] (.bool (decide (n < m))) ?_
          exact ⟨by simp [rightB, *], rfl⟩
      · refine fn_enter Tryz.func30 rfl 63 rfl fun w0 h0 => ?_
        refine SQ (RG ?_)
        refine RP [] (.d .a) 2 (.d (.k .a)) .a 28 [.int .i64 4, .int .i64 n, .string (mkS [])] fun g1 => ?_
        refine RR [] .z (.i 4 (.bool false) .a) (.i (.blk g1 28 [.int .i64 4, .int .i64 n, .string (mkS [])]) .z) ?_
        refine RZ (NT (SQ (SQ (RG ?_))))
        refine RR [0] .z (.i 6 (.int .i64 4) .a) (.i (.blk g1 28 [.int .i64 4, .int .i64 n, .string (mkS [])]) .z) ?_
        refine RZ (NT (BK (SQ (RG ?_))))
        refine RR [] .z (.i 7 (.bool false) .a) (.i (.blk g1 28 [.int .i64 4, .int .i64 n, .string (mkS [])]) .z) ?_
        refine RZ (NT (CF (SQ (RG ?_))))
        refine RR [] .z (.i 17 (.bool false) (.d (.k .a))) (.i (.blk g1 28 [.int .i64 4, .int .i64 n, .string (mkS [])]) .z) ?_
        refine RZ (NT (CF (SQ (RG ?_))))
        refine RR [] .z (.i 22 (.bool false) (.d (.k .a))) (.i (.blk g1 28 [.int .i64 4, .int .i64 n, .string (mkS [])]) .z) ?_
        refine RZ (NT (CF (SQ (RG ?_))))
        refine RR [] .z (.i 37 (.bool false) (.d (.k .a))) (.i (.blk g1 28 [.int .i64 4, .int .i64 n, .string (mkS [])]) .z) ?_
        refine RZ (NT (CF (SQ (RG ?_))))
        refine RR [] .z (.i 47 (.bool true) (.d (.d (.k .a)))) (.i (.blk g1 28 [.int .i64 4, .int .i64 n, .string (mkS [])]) .z) ?_
        refine RZ (NT (CT (SQ (RG ?_))))
        refine RR [0, 0] (.d (.d (.d (.d (.d (.d (.d (.d (.d .a))))))))) (.i 57 (.bool (decide (n ≥ 0))) (.d (.k .a))) (.i (.blk g1 28 [.int .i64 4, .int .i64 n, .string (mkS [])]) .z) ?_
        refine SR 57 (decide (n ≥ 0)) false (decide_eq_false (by omega)) ?_
        refine RR [] .z (.d (.d (.k .z))) (.i (.blk g1 28 [.int .i64 4, .int .i64 n, .string (mkS [])]) .z) ?_
        refine RZ (NT (RE (BR (TR ?_))))
        refine NE [] .z (.i (.blk g1 28 [.int .i64 4, .int .i64 n, .string (mkS [])]) .z) [] (.bool false) ?_
        exact ⟨by simp [rightB, *], rfl⟩
    | cons c r =>
      refine fn_enter Tryz.func30 rfl 63 rfl fun w0 h0 => ?_
      refine SQ (RG ?_)
      refine RP [] (.d .a) 2 (.d (.k .a)) .a 28 [.int .i64 4, .int .i64 n, .string (mkS (c :: r))] fun g1 => ?_
      refine RR [] .z (.i 4 (.bool false) .a) (.i (.blk g1 28 [.int .i64 4, .int .i64 n, .string (mkS (c :: r))]) .z) ?_
      refine RZ (NT (SQ (SQ (RG ?_))))
      refine RR [0] .z (.i 6 (.int .i64 4) .a) (.i (.blk g1 28 [.int .i64 4, .int .i64 n, .string (mkS (c :: r))]) .z) ?_
      refine RZ (NT (BK (SQ (RG ?_))))
      refine RR [] .z (.i 7 (.bool false) .a) (.i (.blk g1 28 [.int .i64 4, .int .i64 n, .string (mkS (c :: r))]) .z) ?_
      refine RZ (NT (CF (SQ (RG ?_))))
      refine RR [] .z (.i 17 (.bool false) (.d (.k .a))) (.i (.blk g1 28 [.int .i64 4, .int .i64 n, .string (mkS (c :: r))]) .z) ?_
      refine RZ (NT (CF (SQ (RG ?_))))
      refine RR [] .z (.i 22 (.bool false) (.d (.k .a))) (.i (.blk g1 28 [.int .i64 4, .int .i64 n, .string (mkS (c :: r))]) .z) ?_
      refine RZ (NT (CF (SQ (RG ?_))))
      refine RR [] .z (.i 37 (.bool false) (.d (.k .a))) (.i (.blk g1 28 [.int .i64 4, .int .i64 n, .string (mkS (c :: r))]) .z) ?_
      refine RZ (NT (CF (SQ (RG ?_))))
      refine RR [] .z (.i 47 (.bool true) (.d (.d (.k .a)))) (.i (.blk g1 28 [.int .i64 4, .int .i64 n, .string (mkS (c :: r))]) .z) ?_
      refine RZ (NT (CT (SQ (RG ?_))))
      refine RR [0] .z (.d (.k .z)) (.i (.blk g1 28 [.int .i64 4, .int .i64 n, .string (mkS (c :: r))]) .z) ?_
      refine RZ (NT (RE (BR (TR ?_))))
      refine NE [] .z (.i (.blk g1 28 [.int .i64 4, .int .i64 n, .string (mkS (c :: r))]) .z) [] (.bool false) ?_
      exact ⟨by simp [rightB, *], rfl⟩
  refine fn_enter Tryz.func30 rfl 63 rfl fun w0 h0 => ?_
  refine SQ (RG ?_)
  refine RP [] (.d .a) 2 (.d (.k .a)) .a 28 [.int .i64 k, .int .i64 n, .string (mkS s)] fun g1 => ?_
  refine RR [] .z (.i 4 (.bool false) .a) (.i (.blk g1 28 [.int .i64 k, .int .i64 n, .string (mkS s)]) .z) ?_
  refine RZ (NT (SQ (SQ (RG ?_))))
  refine RR [0] .z (.i 6 (.int .i64 k) .a) (.i (.blk g1 28 [.int .i64 k, .int .i64 n, .string (mkS s)]) .z) ?_
  refine RZ (NT (BK (SQ (RG ?_))))
  refine RR [] .z (.i 7 (.bool (k == 0)) .a) (.i (.blk g1 28 [.int .i64 k, .int .i64 n, .string (mkS s)]) .z) ?_
  refine RZ (NT ?_)
  refine SC 7 (k == 0) false (by simp only [bne_eq_false_iff_eq, beq_eq_false_iff_ne, ne_eq]; omega) ?_
  refine CF (SQ (RG ?_))
  refine RR [] .z (.i 17 (.bool (k == 1)) (.d (.d (.k .a)))) (.i (.blk g1 28 [.int .i64 k, .int .i64 n, .string (mkS s)]) .z) ?_
  refine RZ (NT ?_)
  refine SC 17 (k == 1) false (by simp only [bne_eq_false_iff_eq, beq_eq_false_iff_ne, ne_eq]; omega) ?_
  refine CF (SQ (RG ?_))
  refine RR [] .z (.i 22 (.bool (k == 2)) (.d (.d (.k .a)))) (.i (.blk g1 28 [.int .i64 k, .int .i64 n, .string (mkS s)]) .z) ?_
  refine RZ (NT ?_)
  refine SC 22 (k == 2) false (by simp only [bne_eq_false_iff_eq, beq_eq_false_iff_ne, ne_eq]; omega) ?_
  refine CF (SQ (RG ?_))
  refine RR [] .z (.i 37 (.bool (k == 3)) (.d (.d (.k .a)))) (.i (.blk g1 28 [.int .i64 k, .int .i64 n, .string (mkS s)]) .z) ?_
  refine RZ (NT ?_)
  refine SC 37 (k == 3) false (by simp only [bne_eq_false_iff_eq, beq_eq_false_iff_ne, ne_eq]; omega) ?_
  refine CF (SQ (RG ?_))
  refine RR [] .z (.i 47 (.bool (k == 4)) (.d (.d (.d (.k .a))))) (.i (.blk g1 28 [.int .i64 k, .int .i64 n, .string (mkS s)]) .z) ?_
  refine RZ (NT ?_)
  refine SC 47 (k == 4) false (by simp only [bne_eq_false_iff_eq, beq_eq_false_iff_ne, ne_eq]; omega) ?_
  refine CF (SK (BN (NT (SQ (RG ?_)))))
  refine RR [] .z (.d (.d (.k .z))) (.i (.blk g1 28 [.int .i64 k, .int .i64 n, .string (mkS s)]) .z) ?_
  refine RZ (NT (RE ?_))
  refine NE [] .z (.i (.blk g1 28 [.int .i64 k, .int .i64 n, .string (mkS s)]) .z) [] (.bool false) ?_
  exact ⟨by simp [rightB, *], rfl⟩
end Go.Proofs.YtpfhleghgkeemaaGreatDoor
namespace Go.Proofs.YtpfhleghgkeemaaGreatDoor
open Go Go.Sx
def V.sm (v : V) : Prop := v.s.length ≤ 1048576
def smL (l : List V) : Prop := ∀ v ∈ l, v.sm
def cellB (m : Int) (v : V) : Bool := !decide (v.k = 0) && rightB v m
def objB (m : Int) (tag : List UInt8) (l : List V) : Bool := (decide (tag = []) || nameB tag) && l.all (cellB m)
theorem fit1_spec (v : V) (m : Int) (g : Nat) (hv : v.sm) : Does Tryz.prog 91 [valV v, .pointer (some ⟨g, 0, none⟩)] [ro (some ⟨g, 0, none⟩) [.int .i64 m]] (fun u hp' => u = .bool (!cellB m v) ∧ hp' = []) := by
  by_cases hk : v.k = 0
  · have hc : cellB m v = false := by simp [cellB, hk]
    rw [hc]
    unfold valV
    rw [hk]
    refine fn_enter Tryz.func91 rfl 13 rfl fun w0 h0 => ?_
    refine SQ (RG ?_)
    refine RP [] (.d .a) 2 (.d (.k .a)) .a 28 [.int .i64 0, .int .i64 v.n, .string (mkS v.s)] fun g1 => ?_
    refine RR [] .z (.i 3 (.bool false) .a) (.k (.i (.blk g1 28 [.int .i64 0, .int .i64 v.n, .string (mkS v.s)]) .z)) ?_
    refine RZ (NT (SQ (RG ?_)))
    refine RR [1] .z (.i 3 (.bool true) .z) (.k (.i (.blk g1 28 [.int .i64 0, .int .i64 v.n, .string (mkS v.s)]) .z)) ?_
    refine RZ (NT (RE ?_))
    refine NE [] .z (.k (.i (.blk g1 28 [.int .i64 0, .int .i64 v.n, .string (mkS v.s)]) .z)) [] (.bool true) ?_
    exact ⟨rfl, rfl⟩
  · have hc : cellB m v = rightB v m := by simp [cellB, hk]
    rw [hc]
    have hv2 := hv
    unfold V.sm at hv2
    have hck := Check_spec v m hv2
    unfold valV at hck ⊢
    refine fn_enter Tryz.func91 rfl 13 rfl fun w0 h0 => ?_
    refine SQ (RG ?_)
    refine RP [] (.d .a) 2 (.d (.k .a)) .a 28 [.int .i64 v.k, .int .i64 v.n, .string (mkS v.s)] fun g1 => ?_
    refine RR [] .z (.i 3 (.bool false) .a) (.k (.i (.blk g1 28 [.int .i64 v.k, .int .i64 v.n, .string (mkS v.s)]) .z)) ?_
    refine RZ (NT (SQ (RG ?_)))
    refine RR [1] (.d (.d (.d (.d .a)))) (.i 7 (.bool (v.k == 0)) .a) (.k (.i (.blk g1 28 [.int .i64 v.k, .int .i64 v.n, .string (mkS v.s)]) .z)) ?_
    refine SR 7 (v.k == 0) false (by simp only [bne_eq_false_iff_eq, beq_eq_false_iff_ne, ne_eq]; omega) ?_
    refine RR [1, 1, 1] (.d .a) (.i 8 (.agg #[.int .i64 v.k, .int .i64 v.n, .string (mkS v.s)]) (.k (.d (.k (.d (.k .a)))))) (.k (.i (.blk g1 28 [.int .i64 v.k, .int .i64 v.n, .string (mkS v.s)]) .z)) ?_
    refine wpr_eq (ld (t := 3) (a := (⟨g, 0, none⟩)) (dst := some 9) (by kernel_rfl) false 1 (by kernel_rfl) (by simp) [.int .i64 m] rfl (fun w h => ld_ro h 0 rfl 0 rfl)) ?_
    refine RC (dst := some 10) [] (.k (.i (.blk g1 28 [.int .i64 v.k, .int .i64 v.n, .string (mkS v.s)]) .z)) (hck) ?_
    rintro v _ ⟨rfl, rfl⟩
    cases hr : rightB v m with
    | true =>
      refine RR [] .z (.d (.d (.d (.d (.k .z))))) (.k (.i (.blk g1 28 [.int .i64 v.k, .int .i64 v.n, .string (mkS v.s)]) .z)) ?_
      refine RZ (NT (RE ?_))
      refine NE [] .z (.k (.i (.blk g1 28 [.int .i64 v.k, .int .i64 v.n, .string (mkS v.s)]) .z)) [] (.bool false) ?_
      exact ⟨rfl, rfl⟩
    | false =>
      refine RR [] .z (.i 3 (.bool true) .z) (.k (.i (.blk g1 28 [.int .i64 v.k, .int .i64 v.n, .string (mkS v.s)]) .z)) ?_
      refine RZ (NT (RE ?_))
      refine NE [] .z (.k (.i (.blk g1 28 [.int .i64 v.k, .int .i64 v.n, .string (mkS v.s)]) .z)) [] (.bool true) ?_
      exact ⟨rfl, rfl⟩
theorem IndexFuncV_spec (l : List V) (a : Option Addr) (c : Nat) (m : Int) (g : Nat) (hl : l.length ≤ 1048576) (hs : smL l) : Does Tryz.prog 128 [.slice a l.length c, .func (.func 91) #[] #[.pointer (some ⟨g, 0, none⟩)]] [ro a (l.flatMap valC), ro (some ⟨g, 0, none⟩) [.int .i64 m]] (fun u hp' => ∃ n : Int, u = .int .i64 n ∧ (0 ≤ n ↔ l.all (cellB m) = false) ∧ hp' = []) := by
  refine fn_enter Tryz.func128 rfl 19 rfl fun w0 h0 => ?_
  refine SQ (RG ?_)
  refine RR [] .z (.i 4 (.int .i64 0) .a) .a ?_
  refine RZ (NT (SQ (SQ (RG ?_))))
  refine RR [] .z (.i 8 (.int .i64 0) (.i 7 (.int .i64 (↑l.length : Int)) .a)) .a ?_
  refine RZ (NT (BK ?_))
  refine wpc_loop (X := {n : Nat // ∃ h : n ≤ l.length, ∀ j, (hj : j < n) → cellB m (l[j]'(by omega)) = true}) (fun x => St.mk [(8, .int .i64 (x.1 : Int)), (7, .int .i64 l.length), (4, .int .i64 0), (0, .slice a l.length c), (1, .func (.func 91) #[] #[.pointer (some ⟨g, 0, none⟩)])] [ro a (l.flatMap valC), ro (some ⟨g, 0, none⟩) [.int .i64 m]]) (fun x => l.length - x.1) ⟨0, Nat.zero_le _, fun j h => absurd h (Nat.not_lt_zero _)⟩ (ent_fr (by kernel_rfl)) ?_
  rintro ⟨n, hn, hall⟩
  dsimp only at hn hall ⊢
  by_cases hlt : n < l.length
  · refine wpc_fact (fun w h => ro_addr h 0 rfl (by rw [vals_len]; omega)) ?_
    rintro ⟨g0, o0, rfl⟩
    have hf := fit1_spec l[n] m g (hs _ (List.getElem_mem hlt))
    unfold valV at hf
    refine SQ (RG ?_)
    refine RR [] .z (.i 9 (.bool (decide ((↑n : Int) < (↑l.length : Int)))) .a) .a ?_
    refine RZ (NT (SQ ?_))
    refine SC 9 (decide ((↑n : Int) < (↑l.length : Int))) true (decide_eq_true (by omega)) ?_
    refine CT (SK (NT (SQ (BK (SQ (RG ?_))))))
    refine RR [] .z (.i 5 (.int .i64 (↑n : Int)) (.d (.d (.k .a)))) .a ?_
    refine RZ (NT (SQ (RG ?_)))
    refine RV true [] (.d (.d (.d (.d .a)))) (.i 14 (.pointer (some ⟨g0, o0 + n * 3, none⟩)) (.i 11 (Value.func (Fn.func 91) #[] #[.pointer (some ⟨g, 0, none⟩)]) .a)) .a [(0 : Int) ≤ (↑n : Int) ∧ (↑n : Int) < (↑l.length : Int)] ⟨by first | omega | decide | (simp; done), trivial⟩ ?_
    refine wpr_eq (ld (t := 28) (a := (⟨g0, o0 + n * 3, none⟩)) (dst := some 15) (by kernel_rfl) true 3 (by kernel_rfl) (by simp) (valC l[n]) rfl (fun w h => ld_ro h 0 rfl (n * 3) (vals_at hlt))) ?_
    refine RCG (dst := some 16) .a (hf) (GV (GI []) 1 view_ro) ?_
    rintro v _ ⟨rfl, rfl⟩
    cases hok : cellB m l[n] with
    | true =>
      refine RZ (NT (CF (SK (BN (NT (RG ?_))))))
      refine RV true [] .z (.i 8 (.int .i64 ((↑n : Int) + 1)) (.d (.d (.d (.d (.d (.d (.k .a)))))))) .a ([inI64 ((↑n : Int) + (1 : Int))]) ⟨by unfold inI64; omega, trivial⟩ ?_
      refine RZ ?_
      exact fun a' w' hS' => ⟨⟨n + 1, hlt, fun j hj => by
              rcases Nat.lt_or_ge j n with h | h
              · exact hall j h
              · obtain rfl : j = n := by omega
                exact hok⟩, by dsimp only; omega, ent_fr (by kernel_rfl) _ _ (ent_hp [0, 0] rfl _ _ hS')⟩
    | false =>
      refine RZ (NT (CT (SQ (RG ?_))))
      refine RR [] .z (.i 4 (.int .i64 (↑n : Int)) (.d (.d (.d (.d (.d (.k (.k (.d (.k .a)))))))))) .a ?_
      refine RZ (NT (RE (BR (TR (TR (BR (TR ?_)))))))
      refine NE [] .z .a [] (.int .i64 (↑n : Int)) ?_
      refine ⟨_, rfl, ⟨fun _ => ?_, fun _ => by omega⟩, rfl⟩
      cases h : l.all (cellB m) with
      | false => rfl
      | true =>
        have h2 := List.all_eq_true.1 h l[n] (List.getElem_mem hlt)
        rw [hok] at h2; cases h2
  · refine SQ (RG ?_)
    refine RR [] .z (.i 9 (.bool (decide ((↑n : Int) < (↑l.length : Int)))) .a) .a ?_
    refine RZ (NT (SQ ?_))
    refine SC 9 (decide ((↑n : Int) < (↑l.length : Int))) false (decide_eq_false (by omega)) ?_
    refine CF (EX (TE (TE (BH (NT (SQ (RG ?_)))))))
    refine RR [] .z (.i 4 (.int .i64 (-1)) .z) .a ?_
    refine RZ (NT (RE ?_))
    refine NE [] .z .a [] (.int .i64 (-1)) ?_
    refine ⟨-1, rfl, ⟨fun h => absurd h (by decide), fun h => ?_⟩, rfl⟩
    have : l.all (cellB m) = true := List.all_eq_true.2 fun x hx => by
      obtain ⟨j, hj⟩ := List.getElem?_of_mem hx
      obtain ⟨hj1, rfl⟩ := List.getElem?_eq_some_iff.1 hj
      exact hall j (by omega)
    rw [this] at h; cases h
theorem ContainsFuncV_spec (l : List V) (a : Option Addr) (c : Nat) (m : Int) (g : Nat) (hl : l.length ≤ 1048576) (hs : smL l) : Does Tryz.prog 90 [.slice a l.length c, .func (.func 91) #[] #[.pointer (some ⟨g, 0, none⟩)]] [ro a (l.flatMap valC), ro (some ⟨g, 0, none⟩) [.int .i64 m]] (fun u hp' => u = .bool (!l.all (cellB m)) ∧ hp' = []) := by
  refine fn_enter Tryz.func90 rfl 9 rfl fun w0 h0 => ?_
  refine SQ (RG ?_)
  refine RR [] .z (.i 4 (.bool false) .a) .a ?_
  refine RZ (NT (SQ (RG ?_)))
  refine RR [] (.d (.d .a)) (.i 6 (Value.func (Fn.func 91) #[] #[.pointer (some ⟨g, 0, none⟩)]) (.i 5 (.slice a l.length c) (.k .z))) .a ?_
  refine RCG (dst := some 7) .a (IndexFuncV_spec l a c m g hl hs) (GV (GV (GI []) 1 view_ro) 0 view_ro) ?_
  rintro v _ ⟨n, rfl, hn, rfl⟩
  refine RR [] .z (.i 4 (.bool (decide (n ≥ 0))) .z) .a ?_
  refine RZ (NT (RE ?_))
  refine NE [] .z .a [] (.bool (decide (n ≥ 0))) ?_
  refine ⟨?_, rfl⟩
  cases h : l.all (cellB m) with
  | true =>
    have h0 : ¬ 0 ≤ n := fun h2 => by have := hn.1 h2; rw [h] at this; cases this
    simp [h0]
  | false =>
    have h0 : 0 ≤ n := hn.2 h
    simp [h0]
theorem fit_spec (tag : List UInt8) (l : List V) (a : Option Addr) (c : Nat) (m : Int) (ht : tag.length ≤ 1048576) (hl : l.length ≤ 1048576) (hs : smL l) : Does Tryz.prog 48 [.agg #[.string (mkS tag), .slice a l.length c], .int .i64 m] [ro a (l.flatMap valC), gWords] (fun u hp' => u = .bool (objB m tag l) ∧ hp' = []) := by
  have hgo : ∀ b : Bool, (!!b) = b := fun b => Bool.not_not b
  have hT := TextName_spec tag ht
  unfold tokV at hT
  cases tag with
  | nil =>
    have hob : objB m [] l = l.all (cellB m) := by simp [objB]
    rw [hob]
    refine fn_enter Tryz.func48 rfl 26 rfl fun w0 h0 => ?_
    refine SQ (RG ?_)
    refine RP [] (.d .a) 2 (.d (.k .a)) .a 43 [.string (mkS []), .slice a l.length c] fun g1 => ?_
    refine RP [] (.d .a) 3 (.k .z) (.k (.k (.i (.blk g1 43 [.string (mkS []), .slice a l.length c]) .z))) 3 [.int .i64 m] fun g2 => ?_
    refine RR [] .z (.i 4 (.bool false) .a) (.k (.k (.i (.blk g1 43 [.string (mkS []), .slice a l.length c]) (.i (.blk g2 3 [.int .i64 m]) .z)))) ?_
    refine RZ (NT (SQ (SQ (RG ?_))))
    refine RR [2] (.d (.d (.d .a))) (.i 10 (.agg #[.int .i64 1, .string (mkS []), .int .i64 0, .int .i64 0, .int .i64 0]) .a) (.k (.k (.i (.blk g1 43 [.string (mkS []), .slice a l.length c]) (.i (.blk g2 3 [.int .i64 m]) .z)))) ?_
    refine RCG (dst := some 11) (.k (.k (.i (.blk g1 43 [.string (mkS []), .slice a l.length c]) (.i (.blk g2 3 [.int .i64 m]) .z)))) (hT) (GV (GI []) 1 view_ro) ?_
    rintro v _ ⟨rfl, rfl⟩
    refine RR [] .z (.i 6 (.int .i64 2) (.d (.d (.k .a)))) (.k (.k (.i (.blk g1 43 [.string (mkS []), .slice a l.length c]) (.i (.blk g2 3 [.int .i64 m]) .z)))) ?_
    refine RZ (NT (SQ (RG ?_)))
    refine RR [2] .z (.i 20 (.bool false) (.d (.k .a))) (.k (.k (.i (.blk g1 43 [.string (mkS []), .slice a l.length c]) (.i (.blk g2 3 [.int .i64 m]) .z)))) ?_
    refine RZ (NT (CF (SK (NT (SQ (RG ?_))))))
    refine RR [2] (.d (.d (.d .a))) (.i 23 (Value.func (Fn.func 91) #[] #[.pointer (some ⟨g2, 0, none⟩)]) (.i 22 (.slice a l.length c) (.d (.k .z)))) (.k (.k (.i (.blk g1 43 [.string (mkS []), .slice a l.length c]) (.i (.blk g2 3 [.int .i64 m]) .z)))) ?_
    refine wpr_ent (ent_turn 3 (ro (some ⟨g2, 0, none⟩) [.int .i64 m]) rfl (turn_rblk (l := [.int .i64 m]) (fun u hu => by cases List.mem_singleton.1 hu; rfl)) rfl) ?_
    refine RCG (dst := some 24) (.k (.k (.i (.blk g1 43 [.string (mkS []), .slice a l.length c]) (.d (.k .a))))) (ContainsFuncV_spec l a c m g2 hl hs) (GV (GV (GI []) 3 view_ro) 0 view_ro) ?_
    rintro v _ ⟨rfl, rfl⟩
    refine RR [] .z (.i 4 (.bool !!l.all (cellB m)) .z) (.k (.k (.i (.blk g1 43 [.string (mkS []), .slice a l.length c]) (.d (.k .a))))) ?_
    refine RZ (NT (RE ?_))
    refine NE [] .z (.k (.k (.i (.blk g1 43 [.string (mkS []), .slice a l.length c]) (.d (.k .a))))) [] (.bool !!l.all (cellB m)) ?_
    exact ⟨by rw [hgo], rfl⟩
  | cons t0 tr =>
    cases hn : nameB (t0 :: tr) with
    | false =>
      have hob : objB m (t0 :: tr) l = false := by simp [objB, hn]
      rw [hob]
      refine fn_enter Tryz.func48 rfl 26 rfl fun w0 h0 => ?_
      refine SQ (RG ?_)
      refine RP [] (.d .a) 2 (.d (.k .a)) .a 43 [.string (mkS (t0 :: tr)), .slice a l.length c] fun g1 => ?_
      refine RP [] (.d .a) 3 (.k .z) (.k (.k (.i (.blk g1 43 [.string (mkS (t0 :: tr)), .slice a l.length c]) .z))) 3 [.int .i64 m] fun g2 => ?_
      refine RR [] .z (.i 4 (.bool false) .a) (.k (.k (.i (.blk g1 43 [.string (mkS (t0 :: tr)), .slice a l.length c]) (.i (.blk g2 3 [.int .i64 m]) .z)))) ?_
      refine RZ (NT (SQ (SQ (RG ?_))))
      refine RR [2] (.d (.d (.d .a))) (.i 10 (.agg #[.int .i64 1, .string (mkS (t0 :: tr)), .int .i64 0, .int .i64 0, .int .i64 0]) .a) (.k (.k (.i (.blk g1 43 [.string (mkS (t0 :: tr)), .slice a l.length c]) (.i (.blk g2 3 [.int .i64 m]) .z)))) ?_
      refine RCG (dst := some 11) (.k (.k (.i (.blk g1 43 [.string (mkS (t0 :: tr)), .slice a l.length c]) (.i (.blk g2 3 [.int .i64 m]) .z)))) (hT) (GV (GI []) 1 view_ro) ?_
      rintro v _ ⟨rfl, rfl⟩
      rw [hn]
      refine RR [] .z (.i 6 (.int .i64 2) (.d (.d (.k .a)))) (.k (.k (.i (.blk g1 43 [.string (mkS (t0 :: tr)), .slice a l.length c]) (.i (.blk g2 3 [.int .i64 m]) .z)))) ?_
      refine RZ (NT (SQ (RG ?_)))
      refine RR [2] .z (.i 20 (.bool true) (.d (.k .a))) (.k (.k (.i (.blk g1 43 [.string (mkS (t0 :: tr)), .slice a l.length c]) (.i (.blk g2 3 [.int .i64 m]) .z)))) ?_
      refine RZ (NT (CT (SQ (RG ?_))))
      refine RR [] .z (.d (.k .a)) (.k (.k (.i (.blk g1 43 [.string (mkS (t0 :: tr)), .slice a l.length c]) (.i (.blk g2 3 [.int .i64 m]) .z)))) ?_
      refine RZ (NT (RE (TR ?_)))
      refine NE [] .z (.k (.k (.i (.blk g1 43 [.string (mkS (t0 :: tr)), .slice a l.length c]) (.i (.blk g2 3 [.int .i64 m]) .z)))) [] (.bool false) ?_
      exact ⟨rfl, rfl⟩
    | true =>
      have hob : objB m (t0 :: tr) l = l.all (cellB m) := by simp [objB, hn]
      rw [hob]
      refine fn_enter Tryz.func48 rfl 26 rfl fun w0 h0 => ?_
      refine SQ (RG ?_)
      refine RP [] (.d .a) 2 (.d (.k .a)) .a 43 [.string (mkS (t0 :: tr)), .slice a l.length c] fun g1 => ?_
      refine RP [] (.d .a) 3 (.k .z) (.k (.k (.i (.blk g1 43 [.string (mkS (t0 :: tr)), .slice a l.length c]) .z))) 3 [.int .i64 m] fun g2 => ?_
      refine RR [] .z (.i 4 (.bool false) .a) (.k (.k (.i (.blk g1 43 [.string (mkS (t0 :: tr)), .slice a l.length c]) (.i (.blk g2 3 [.int .i64 m]) .z)))) ?_
      refine RZ (NT (SQ (SQ (RG ?_))))
      refine RR [2] (.d (.d (.d .a))) (.i 10 (.agg #[.int .i64 1, .string (mkS (t0 :: tr)), .int .i64 0, .int .i64 0, .int .i64 0]) .a) (.k (.k (.i (.blk g1 43 [.string (mkS (t0 :: tr)), .slice a l.length c]) (.i (.blk g2 3 [.int .i64 m]) .z)))) ?_
      refine RCG (dst := some 11) (.k (.k (.i (.blk g1 43 [.string (mkS (t0 :: tr)), .slice a l.length c]) (.i (.blk g2 3 [.int .i64 m]) .z)))) (hT) (GV (GI []) 1 view_ro) ?_
      rintro v _ ⟨rfl, rfl⟩
      rw [hn]
      refine RR [] .z (.i 6 (.int .i64 0) (.d (.d (.k .a)))) (.k (.k (.i (.blk g1 43 [.string (mkS (t0 :: tr)), .slice a l.length c]) (.i (.blk g2 3 [.int .i64 m]) .z)))) ?_
      refine RZ (NT (SQ (RG ?_)))
      refine RR [2] .z (.i 20 (.bool false) (.d (.k .a))) (.k (.k (.i (.blk g1 43 [.string (mkS (t0 :: tr)), .slice a l.length c]) (.i (.blk g2 3 [.int .i64 m]) .z)))) ?_
      refine RZ (NT (CF (SK (NT (SQ (RG ?_))))))
      refine RR [2] (.d (.d (.d .a))) (.i 23 (Value.func (Fn.func 91) #[] #[.pointer (some ⟨g2, 0, none⟩)]) (.i 22 (.slice a l.length c) (.d (.k .z)))) (.k (.k (.i (.blk g1 43 [.string (mkS (t0 :: tr)), .slice a l.length c]) (.i (.blk g2 3 [.int .i64 m]) .z)))) ?_
      refine wpr_ent (ent_turn 3 (ro (some ⟨g2, 0, none⟩) [.int .i64 m]) rfl (turn_rblk (l := [.int .i64 m]) (fun u hu => by cases List.mem_singleton.1 hu; rfl)) rfl) ?_
      refine RCG (dst := some 24) (.k (.k (.i (.blk g1 43 [.string (mkS (t0 :: tr)), .slice a l.length c]) (.d (.k .a))))) (ContainsFuncV_spec l a c m g2 hl hs) (GV (GV (GI []) 3 view_ro) 0 view_ro) ?_
      rintro v _ ⟨rfl, rfl⟩
      refine RR [] .z (.i 4 (.bool !!l.all (cellB m)) .z) (.k (.k (.i (.blk g1 43 [.string (mkS (t0 :: tr)), .slice a l.length c]) (.d (.k .a))))) ?_
      refine RZ (NT (RE ?_))
      refine NE [] .z (.k (.k (.i (.blk g1 43 [.string (mkS (t0 :: tr)), .slice a l.length c]) (.d (.k .a))))) [] (.bool !!l.all (cellB m)) ?_
      exact ⟨by rw [hgo], rfl⟩
end Go.Proofs.YtpfhleghgkeemaaGreatDoor
namespace Go.Proofs.YtpfhleghgkeemaaGreatDoor
open Go Go.Sx
def usedN (l : List Nat) : Nat := (l.map (· + 1)).sum
def Ob.n (o : Ob) : Nat := o.cells.length
theorem usedN_snoc (l : List Nat) (n : Nat) : usedN (l ++ [n]) = usedN l + (n + 1) := by simp [usedN]
def heapB (g : Nat) (most : Int) (used : Nat) (a : Option Addr) (n c : Nat) : Ch := .blk g 59 [.bool true, .int .i64 most, .int .i64 used, .slice a n c]
def heapR (a : Option Addr) (c : Nat) (l : List Ob) : Ch := row 43 2 a l.length c (l.flatMap objC)
def heapS (l : List Ob) : Ch := star (l.map obRow)
def mostI (m : Int) : Int := if (if 4096 < m then 4096 else m) > 0 then if 4096 < m then 4096 else m else 0
theorem mostI_le (m : Int) : 0 ≤ mostI m ∧ mostI m ≤ 4096 := by
  unfold mostI; split <;> split <;> omega
theorem New_spec (m : Int) : Does Tryz.prog 16 [.int .i64 m] [] (fun v hp' => ∃ g, v = .pointer (some ⟨g, 0, none⟩) ∧ hp' = [.blk g 59 [.bool true, .int .i64 (mostI m), .int .i64 0, .slice none 0 0]]) := by
  refine fn_enter Tryz.func16 rfl 8 rfl fun w0 h0 => ?_
  refine SQ (RG ?_)
  refine RR [] .z (.i 2 (.pointer none) .a) .a ?_
  refine RZ (NT (SQ (RG ?_)))
  refine RP [] (.d (.d (.d (.d (.d .a))))) 7 (.k .z) .a 59 [.bool true, .int .i64 (if (if 4096 < m then 4096 else m) > 0 then if 4096 < m then 4096 else m else 0), .int .i64 0, .slice none 0 0] fun g1 => ?_
  refine RR [] .z (.i 2 (.pointer (some ⟨g1, 0, none⟩)) .z) (.i (.blk g1 59 [.bool true, .int .i64 (if (if 4096 < m then 4096 else m) > 0 then if 4096 < m then 4096 else m else 0), .int .i64 0, .slice none 0 0]) .z) ?_
  refine RZ (NT (RE ?_))
  refine NE [0] (.i (.blk g1 59 [.bool true, .int .i64 (if (if 4096 < m then 4096 else m) > 0 then if 4096 < m then 4096 else m else 0), .int .i64 0, .slice none 0 0]) .z) .z [] (.pointer (some ⟨g1, 0, none⟩)) ?_
  exact ⟨g1, rfl, rfl⟩
theorem CloneV_spec (a : Option Addr) (c : Nat) (l : List V) (ha : a = none → l = []) (hl : l.length ≤ 1048576) :
    Does Tryz.prog 51 [.slice a l.length c] [ro a (l.flatMap valC)] (fun r hp' => ∃ a' c', r = .slice a' l.length c' ∧ hp' = [row 28 3 a' l.length c' (l.flatMap valC)]) := by
  cases a with
  | none =>
    obtain rfl := ha rfl
    refine fn_enter Tryz.func51 rfl 8 rfl fun w0 h0 => ?_
    refine SQ (RG ?_)
    refine RR [] .z (.i 2 (.slice none 0 0) (.i 0 (.slice none 0 c) .z)) .a ?_
    refine RZ (NT (SQ (SQ (RG ?_))))
    refine RR [] .z (.i 4 (.bool true) .a) .a ?_
    refine RZ (NT (CT (SQ (RG ?_))))
    refine RR [] .z (.d (.k .a)) .a ?_
    refine RZ (NT (RE (TR ?_)))
    refine nx_ent (ent_nil 28 3) ?_
    refine NE [0] (.k .z) (.d (.k .a)) [] (.slice none 0 0) ?_
    exact ⟨none, 0, rfl, rfl⟩
  | some ad =>
    refine fn_enter Tryz.func51 rfl 8 rfl fun w0 h0 => ?_
    refine SQ (RG ?_)
    refine RR [] .z (.i 2 (.slice none 0 0) .a) .a ?_
    refine RZ (NT (SQ (SQ (RG ?_))))
    refine RR [] .z (.i 4 (.bool false) .a) .a ?_
    refine RZ (NT (CF (SK (NT (SQ (RG ?_))))))
    refine RN [] (.d .a) 5 (fun g1 => (.slice (some ⟨g1, 0, none⟩) 0 0)) (.d (.k .a)) .a 28 [] fun g1 => ?_
    refine RR [] (.d .a) (.i 6 (.slice (some ad) l.length c) (.k (.k .z))) (.k (.i (.blk g1 28 []) .z)) ?_
    refine wpr_ent (ent_turn 1 (row 28 3 (some ⟨g1, 0, none⟩) 0 0 []) rfl (turn_blk rfl (by intro u hu; cases hu) (by simp)) rfl) ?_
    refine wpr_app (a := (some ⟨g1, 0, none⟩)) (n := 0) (cap := 0) (x := (.slice (some ad) l.length c)) (t := 25) (xt := 25) (dst := some 7) (by kernel_rfl) (e := 28) (sz := 3) (bytes := 32) (by kernel_rfl) 1 (xs := []) (by kernel_rfl) (m := (l.length)) (news := (l.flatMap valC)) (fun w h => src_ro h 0 rfl (vals_len l) (fun e => by cases e)) (by unfold maxLen; omega) (by omega) ?_
    intro a1 c1 hn
    simp only [List.nil_append, Nat.zero_add]
    refine RR [] .z (.i 2 (.slice a1 l.length c1) .z) .a ?_
    refine RZ (NT (RE ?_))
    refine NE [1] (.d (.k .a)) (.k .z) [] (.slice a1 l.length c1) ?_
    exact ⟨a1, c1, rfl, rfl⟩
theorem objs_snoc (l : List Ob) (o : Ob) : l.flatMap objC ++ objC o = (l ++ [o]).flatMap objC := by simp
theorem objs_n1 (l : List Ob) (o : Ob) : l.length + 1 = (l ++ [o]).length := by simp
theorem obj_one (o : Ob) : Sx.One (objC o) := by have := objs_one [o]; simpa using this
theorem put_spec (g : Nat) (most : Int) (a : Option Addr) (c : Nat) (l : List Ob) (tag : List UInt8) (cells : List V) (oa : Option Addr) (oc : Nat) (hm : 0 ≤ most ∧ most ≤ 4096) (hu : (usedN (l.map Ob.n) : Int) ≤ most) (hl : l.length ≤ 4096) (ha : oa = none → cells = []) (hlc : cells.length ≤ oc) (hcl : cells.length ≤ 1048576) :
    Does Tryz.prog 49 [.pointer (some ⟨g, 0, none⟩), .agg #[.string (mkS tag), .slice oa cells.length oc]] [heapB g most (usedN (l.map Ob.n)) a l.length c, heapR a c l, heapS l, ro oa (cells.flatMap valC)]
      (fun v hp' => if (cells.length : Int) < most - usedN (l.map Ob.n) then ∃ a' c' o, v = .bool true ∧ o.tag = tag ∧ o.cells = cells ∧ hp' = [heapB g most (usedN ((l ++ [o]).map Ob.n)) a' (l ++ [o]).length c', heapR a' c' (l ++ [o]), heapS (l ++ [o])]
        else v = .bool false ∧ hp' = [heapB g most (usedN (l.map Ob.n)) a l.length c, heapR a c l, heapS l]) := by
  unfold heapB heapR heapS
  by_cases hf : (cells.length : Int) < most - usedN (l.map Ob.n)
  · refine fn_enter Tryz.func49 rfl 47 rfl fun w0 h0 => ?_
    refine SQ (RG ?_)
    refine RP [] (.d .a) 3 (.k .z) (.i (.blk g 59 [.bool true, .int .i64 most, .int .i64 (↑(usedN (List.map Ob.n l)) : Int), .slice a l.length c]) (.d (.k .a))) 43 [.string (mkS tag), .slice oa cells.length oc] fun g1 => ?_
    refine RR [] .z (.i 4 (.bool false) .a) (.i (.blk g 59 [.bool true, .int .i64 most, .int .i64 (↑(usedN (List.map Ob.n l)) : Int), .slice a l.length c]) (.d (.k (.k (.k (.i (.blk g1 43 [.string (mkS tag), .slice oa cells.length oc]) .z)))))) ?_
    refine RZ (NT (SQ (RG ?_)))
    refine RR [4] .z (.i 5 (.int .i64 (↑cells.length : Int)) .a) (.i (.blk g 59 [.bool true, .int .i64 most, .int .i64 (↑(usedN (List.map Ob.n l)) : Int), .slice a l.length c]) (.d (.k (.k (.k (.i (.blk g1 43 [.string (mkS tag), .slice oa cells.length oc]) .z)))))) ?_
    refine RZ (NT (SQ (SQ ?_)))
    refine wpc_draw (by kernel_rfl) [.blk g 59 [.bool true, .int .i64 most, .int .i64 (↑(usedN (List.map Ob.n l)) : Int), .slice a l.length c], row 43 2 a l.length c (List.flatMap objC l), star (List.map obRow l), ro oa (List.flatMap valC cells), .blk g1 43 [.string (mkS tag), .slice oa cells.length oc]] (sub_of [0, 1, 2, 3, 4] (by kernel_rfl)) 11 (by kernel_rfl) ?_
    refine wpa_take true [(0, []), (1, []), (2, []), (3, []), (4, [0]), (5, []), (6, []), (7, []), (8, [0]), (9, []), (10, [])] [(19, .bool (decide ((↑cells.length : Int) ≥ most - (↑(usedN (List.map Ob.n l)) : Int)))), (5, .int .i64 (↑cells.length : Int)), (4, .bool false), (3, .pointer (some ⟨g1, 0, none⟩)), (0, .pointer (some ⟨g, 0, none⟩))] (#[true, true, true, true, true, true, true, true, true, true, true]) [inI64 (most - (↑(usedN (List.map Ob.n l)) : Int))] (n := 0) (by kernel_rfl) (by kernel_rfl) (by kernel_rfl) ⟨by unfold inI64; omega, trivial⟩ ?_
    refine wpa_done 0 (by kernel_rfl) ?_
    refine NT ?_
    refine SC 19 (decide ((↑cells.length : Int) ≥ most - (↑(usedN (List.map Ob.n l)) : Int))) false (decide_eq_false (by omega)) ?_
    refine CF (SK (NT (SQ ?_)))
    refine wpc_draw (by kernel_rfl) [.blk g1 43 [.string (mkS tag), .slice oa cells.length oc]] (sub_of [4] (by kernel_rfl)) 19 (by kernel_rfl) ?_
    refine wpa_take true [(0, []), (1, []), (2, []), (3, []), (5, []), (6, [0]), (7, []), (8, [0]), (9, []), (10, []), (11, [])] [(31, .slice oa cells.length cells.length), (26, .string (mkS tag)), (23, .pointer (some ⟨g, 3, none⟩)), (20, .pointer (some ⟨g, 0, none⟩)), (5, .int .i64 (↑cells.length : Int)), (4, .bool false), (0, .pointer (some ⟨g, 0, none⟩))] (#[true, true, true, true, false, true, true, true, true, true, true, true, false, false, false, false, false, false, false]) [(0 : Int) ≤ (↑cells.length : Int) ∧ (↑cells.length : Int) ≤ (↑oc : Int), (0 : Int) ≤ (↑cells.length : Int) ∧ (↑cells.length : Int) ≤ (↑cells.length : Int)] (n := 8) (by kernel_rfl) (by kernel_rfl) (by kernel_rfl) ⟨by first | omega | decide | (simp; done), by first | omega | decide | (simp; done), trivial⟩ ?_
    refine wpa_joinx (X := {y : Option Addr × Nat × Ob // y.2.2.tag = tag ∧ y.2.2.cells = cells}) (fun y => St.mk [(5, .int .i64 cells.length), (4, .bool false), (0, .pointer (some ⟨g, 0, none⟩))]
      [.blk g 59 [.bool true, .int .i64 most, .int .i64 (usedN (l.map Ob.n) : Nat), .slice y.1.1 (l ++ [y.1.2.2]).length y.1.2.1], row 43 2 y.1.1 (l ++ [y.1.2.2]).length y.1.2.1 ((l ++ [y.1.2.2]).flatMap objC), star (l.map obRow), row 28 3 y.1.2.2.a y.1.2.2.cells.length y.1.2.2.c (y.1.2.2.cells.flatMap valC)]) (fun Q1 hQ1 hk => ?_) ?_
    · refine wpa_two (i := 4) (j := 12) (n := 7) (by kernel_rfl) ?_ ?_
      · refine wpi_one (n := 7) true 4 [0] [(24, .slice a l.length c), (31, .slice oa cells.length cells.length), (26, .string (mkS tag)), (20, .pointer (some ⟨g, 0, none⟩)), (5, .int .i64 (↑cells.length : Int)), (4, .bool false), (0, .pointer (some ⟨g, 0, none⟩))] [.blk g 59 [.bool true, .int .i64 most, .int .i64 (↑(usedN (List.map Ob.n l)) : Int), .slice a l.length c], row 43 2 a l.length c (List.flatMap objC l), star (List.map obRow l), ro oa (List.flatMap valC cells), .blk g1 43 [.string (mkS tag), .slice oa cells.length oc]] [] (by kernel_rfl) (by kernel_rfl) trivial (sub_of [4] (by kernel_rfl)) ?_
        refine AC (dst := some 32) 6 12 (.i (.blk g 59 [.bool true, .int .i64 most, .int .i64 (↑(usedN (List.map Ob.n l)) : Int), .slice a l.length c]) (.d (.k (.k (.k (.i (.blk g1 43 [.string (mkS tag), .slice oa cells.length oc]) .z)))))) (CloneV_spec oa cells.length cells ha hcl) (GV (GI []) 3 view_ro) [4] ?_
        rintro v _ ⟨a1, c1, rfl, rfl⟩
        refine TK 5 [(13, [])] (.i 33 (.agg #[.string (mkS tag), .slice a1 cells.length c1]) (.d (.k (.d (.d (.k .a)))))) (#[true, true, true, true, true, true, true, true, true, true, true, true, true, true, false, false, false, false, false]) ?_
        refine wpa_new (n := 4) true 14 [] (fun g2 => [(34, .slice (some ⟨g2, 0, none⟩) 1 1), (24, .slice a l.length c), (20, .pointer (some ⟨g, 0, none⟩)), (5, .int .i64 (↑cells.length : Int)), (4, .bool false), (0, .pointer (some ⟨g, 0, none⟩))]) (fun g2 => [row 28 3 a1 cells.length c1 (List.flatMap valC cells), .blk g 59 [.bool true, .int .i64 most, .int .i64 (↑(usedN (List.map Ob.n l)) : Int), .slice a l.length c], row 43 2 a l.length c (List.flatMap objC l), star (List.map obRow l), ro oa (List.flatMap valC cells), .blk g1 43 [.string (mkS tag), .slice oa cells.length oc], .blk g2 43 [.string (mkS tag), .slice a1 cells.length c1]]) (fun g2 => []) (by kernel_rfl) (fun g2 => by kernel_rfl) (fun g2 => by kernel_rfl) (fun g2 => trivial) (fun g2 => sub_of [5] (by kernel_rfl)) fun g2 => ?_
        refine wpa_ent (ent_turn 6 (ro (some ⟨g2, 0, none⟩) (objC (Ob.mk tag a1 c1 cells))) rfl (turn_rblk (l := objC (Ob.mk tag a1 c1 cells)) (obj_one _)) rfl) ?_
        refine wpa_app (i := 15) (nf := 3) (by kernel_rfl) (a := a) (n := l.length) (cap := c) (x := (.slice (some ⟨g2, 0, none⟩) 1 1)) (t := 37) (xt := 37) (dst := some 35) (by kernel_rfl) (e := 43) (sz := 2) (bytes := 40) (by kernel_rfl) 2 (xs := (List.flatMap objC l)) (by kernel_rfl) (m := 1) (news := (objC (Ob.mk tag a1 c1 cells))) (fun w h => src_ro h 6 rfl rfl (fun e => by cases e)) (by unfold maxLen; omega) (by omega) [4] (by kernel_rfl) ?_
        intro a2 c2 hn
        rw [objs_snoc, objs_n1 l (Ob.mk tag a1 c1 cells)]
        refine TK 1 [(16, []), (17, [])] (.i 37 (.pointer (some ⟨g, 3, none⟩)) (.k (.d (.d (.d (.k .a)))))) (#[true, true, true, true, true, true, true, true, true, true, true, true, true, true, true, true, true, true, false]) ?_
        refine AO 0 18 [1] (.d (.d (.k .a))) (.k (.i (.blk g 59 [.bool true, .int .i64 most, .int .i64 (↑(usedN (List.map Ob.n l)) : Int), .slice a2 (l ++ [Ob.mk tag a1 c1 cells]).length c2]) (.d (.k (.k (.k (.i (.blk g1 43 [.string (mkS tag), .slice oa cells.length oc]) (.d (.k .a))))))))) [5] ?_
        refine wpa_done 0 (by kernel_rfl) ?_
        exact nx_ent (ent_hp [1, 1, 1, 0] rfl) (nx_ent (ent_fr (by kernel_rfl)) (hk ⟨(a2, c2, (Ob.mk tag a1 c1 cells)), rfl, rfl⟩))
      · refine wpi_call (i := 12) (dst := some 32) (rest := [.blk g 59 [.bool true, .int .i64 most, .int .i64 (↑(usedN (List.map Ob.n l)) : Int), .slice a l.length c], row 43 2 a l.length c (List.flatMap objC l), star (List.map obRow l), ro oa (List.flatMap valC cells), .blk g1 43 [.string (mkS tag), .slice oa cells.length oc]]) (by kernel_rfl) (CloneV_spec oa cells.length cells ha hcl) (Give.view (c := (ro oa (List.flatMap valC cells))) (give (pre := []) (rest := [.blk g 59 [.bool true, .int .i64 most, .int .i64 (↑(usedN (List.map Ob.n l)) : Int), .slice a l.length c], row 43 2 a l.length c (List.flatMap objC l), star (List.map obRow l), ro oa (List.flatMap valC cells), .blk g1 43 [.string (mkS tag), .slice oa cells.length oc]]) [] (by kernel_rfl)) 3 (by kernel_rfl) view_ro) (sub_of [4] (by kernel_rfl)) ?_
        rintro v _ ⟨a1, c1, rfl, rfl⟩
        refine TK 6 [(13, [])] (.i 33 (.agg #[.string (mkS tag), .slice a1 cells.length c1]) (.d (.d (.d (.k .a))))) (#[true, true, true, true, false, true, true, true, true, true, true, true, true, true, false, false, false, false, false]) ?_
        refine wpa_two (i := 4) (j := 14) (n := 5) (by kernel_rfl) ?_ ?_
        · refine wpi_one (n := 5) true 4 [1] [(24, .slice a l.length c), (33, .agg #[.string (mkS tag), .slice a1 cells.length c1]), (20, .pointer (some ⟨g, 0, none⟩)), (5, .int .i64 (↑cells.length : Int)), (4, .bool false), (0, .pointer (some ⟨g, 0, none⟩))] [row 28 3 a1 cells.length c1 (List.flatMap valC cells), .blk g 59 [.bool true, .int .i64 most, .int .i64 (↑(usedN (List.map Ob.n l)) : Int), .slice a l.length c], row 43 2 a l.length c (List.flatMap objC l), star (List.map obRow l), ro oa (List.flatMap valC cells), .blk g1 43 [.string (mkS tag), .slice oa cells.length oc]] [] (by kernel_rfl) (by kernel_rfl) trivial (sub_of [5] (by kernel_rfl)) ?_
          refine wpa_new (n := 4) true 14 [] (fun g2 => [(34, .slice (some ⟨g2, 0, none⟩) 1 1), (24, .slice a l.length c), (20, .pointer (some ⟨g, 0, none⟩)), (5, .int .i64 (↑cells.length : Int)), (4, .bool false), (0, .pointer (some ⟨g, 0, none⟩))]) (fun g2 => [row 28 3 a1 cells.length c1 (List.flatMap valC cells), .blk g 59 [.bool true, .int .i64 most, .int .i64 (↑(usedN (List.map Ob.n l)) : Int), .slice a l.length c], row 43 2 a l.length c (List.flatMap objC l), star (List.map obRow l), ro oa (List.flatMap valC cells), .blk g1 43 [.string (mkS tag), .slice oa cells.length oc], .blk g2 43 [.string (mkS tag), .slice a1 cells.length c1]]) (fun g2 => []) (by kernel_rfl) (fun g2 => by kernel_rfl) (fun g2 => by kernel_rfl) (fun g2 => trivial) (fun g2 => sub_of [5] (by kernel_rfl)) fun g2 => ?_
          refine wpa_ent (ent_turn 6 (ro (some ⟨g2, 0, none⟩) (objC (Ob.mk tag a1 c1 cells))) rfl (turn_rblk (l := objC (Ob.mk tag a1 c1 cells)) (obj_one _)) rfl) ?_
          refine wpa_app (i := 15) (nf := 3) (by kernel_rfl) (a := a) (n := l.length) (cap := c) (x := (.slice (some ⟨g2, 0, none⟩) 1 1)) (t := 37) (xt := 37) (dst := some 35) (by kernel_rfl) (e := 43) (sz := 2) (bytes := 40) (by kernel_rfl) 2 (xs := (List.flatMap objC l)) (by kernel_rfl) (m := 1) (news := (objC (Ob.mk tag a1 c1 cells))) (fun w h => src_ro h 6 rfl rfl (fun e => by cases e)) (by unfold maxLen; omega) (by omega) [4] (by kernel_rfl) ?_
          intro a2 c2 hn
          rw [objs_snoc, objs_n1 l (Ob.mk tag a1 c1 cells)]
          refine TK 1 [(16, []), (17, [])] (.i 37 (.pointer (some ⟨g, 3, none⟩)) (.k (.d (.d (.d (.k .a)))))) (#[true, true, true, true, true, true, true, true, true, true, true, true, true, true, true, true, true, true, false]) ?_
          refine AO 0 18 [1] (.d (.d (.k .a))) (.k (.i (.blk g 59 [.bool true, .int .i64 most, .int .i64 (↑(usedN (List.map Ob.n l)) : Int), .slice a2 (l ++ [Ob.mk tag a1 c1 cells]).length c2]) (.d (.k (.k (.k (.i (.blk g1 43 [.string (mkS tag), .slice oa cells.length oc]) (.d (.k .a))))))))) [5] ?_
          refine wpa_done 0 (by kernel_rfl) ?_
          exact nx_ent (ent_hp [1, 1, 1, 0] rfl) (nx_ent (ent_fr (by kernel_rfl)) (hk ⟨(a2, c2, (Ob.mk tag a1 c1 cells)), rfl, rfl⟩))
        · refine wpi_new (n := 5) true 14 [] (fun g2 => [(34, .slice (some ⟨g2, 0, none⟩) 1 1), (23, .pointer (some ⟨g, 3, none⟩)), (20, .pointer (some ⟨g, 0, none⟩)), (5, .int .i64 (↑cells.length : Int)), (4, .bool false), (0, .pointer (some ⟨g, 0, none⟩))]) (fun g2 => [row 28 3 a1 cells.length c1 (List.flatMap valC cells), .blk g 59 [.bool true, .int .i64 most, .int .i64 (↑(usedN (List.map Ob.n l)) : Int), .slice a l.length c], row 43 2 a l.length c (List.flatMap objC l), star (List.map obRow l), ro oa (List.flatMap valC cells), .blk g1 43 [.string (mkS tag), .slice oa cells.length oc], .blk g2 43 [.string (mkS tag), .slice a1 cells.length c1]]) (fun g2 => []) (fun g2 => by kernel_rfl) (fun g2 => by kernel_rfl) (fun g2 => trivial) (fun g2 => sub_of [5] (by kernel_rfl)) fun g2 => ?_
          refine AO 4 4 [1] (.i 24 (.slice a l.length c) (.k (.d (.k .a)))) (.k (.i (.blk g 59 [.bool true, .int .i64 most, .int .i64 (↑(usedN (List.map Ob.n l)) : Int), .slice a l.length c]) (.d (.k (.k (.k (.i (.blk g1 43 [.string (mkS tag), .slice oa cells.length oc]) (.i (.blk g2 43 [.string (mkS tag), .slice a1 cells.length c1]) .z)))))))) [5] ?_
          refine wpa_ent (ent_turn 6 (ro (some ⟨g2, 0, none⟩) (objC (Ob.mk tag a1 c1 cells))) rfl (turn_rblk (l := objC (Ob.mk tag a1 c1 cells)) (obj_one _)) rfl) ?_
          refine wpa_app (i := 15) (nf := 3) (by kernel_rfl) (a := a) (n := l.length) (cap := c) (x := (.slice (some ⟨g2, 0, none⟩) 1 1)) (t := 37) (xt := 37) (dst := some 35) (by kernel_rfl) (e := 43) (sz := 2) (bytes := 40) (by kernel_rfl) 2 (xs := (List.flatMap objC l)) (by kernel_rfl) (m := 1) (news := (objC (Ob.mk tag a1 c1 cells))) (fun w h => src_ro h 6 rfl rfl (fun e => by cases e)) (by unfold maxLen; omega) (by omega) [4] (by kernel_rfl) ?_
          intro a2 c2 hn
          rw [objs_snoc, objs_n1 l (Ob.mk tag a1 c1 cells)]
          refine TK 1 [(16, []), (17, [])] (.i 37 (.pointer (some ⟨g, 3, none⟩)) (.k (.d (.d (.d (.k .a)))))) (#[true, true, true, true, true, true, true, true, true, true, true, true, true, true, true, true, true, true, false]) ?_
          refine AO 0 18 [1] (.d (.d (.k .a))) (.k (.i (.blk g 59 [.bool true, .int .i64 most, .int .i64 (↑(usedN (List.map Ob.n l)) : Int), .slice a2 (l ++ [Ob.mk tag a1 c1 cells]).length c2]) (.d (.k (.k (.k (.i (.blk g1 43 [.string (mkS tag), .slice oa cells.length oc]) (.d (.k .a))))))))) [5] ?_
          refine wpa_done 0 (by kernel_rfl) ?_
          exact nx_ent (ent_hp [1, 1, 1, 0] rfl) (nx_ent (ent_fr (by kernel_rfl)) (hk ⟨(a2, c2, (Ob.mk tag a1 c1 cells)), rfl, rfl⟩))
    · rintro ⟨⟨a2, c2, o⟩, ht, hc⟩
      dsimp only at ht hc ⊢
      have hu2 : ((usedN ((l ++ [o]).map Ob.n) : Nat) : Int) = (usedN (l.map Ob.n) : Nat) + ((cells.length : Int) + 1) := by
        rw [List.map_append, List.map_singleton, usedN_snoc]
        simp only [Ob.n, hc]; omega
      refine NT (SQ (RG ?_))
      refine RV true [0, 0] .z (.d (.k .z)) (.i (.blk g 59 [.bool true, .int .i64 most, .int .i64 ((↑(usedN (List.map Ob.n l)) : Int) + ((↑cells.length : Int) + 1)), .slice a2 (l ++ [o]).length c2]) (.d (.k .a))) ([inI64 ((↑cells.length : Int) + (1 : Int)), inI64 ((↑(usedN (List.map Ob.n l)) : Int) + ((↑cells.length : Int) + (1 : Int)))]) ⟨by unfold inI64; omega, by unfold inI64; omega, trivial⟩ ?_
      refine RZ (NT (SQ (RG ?_)))
      refine RR [] .z (.i 4 (.bool true) .z) (.i (.blk g 59 [.bool true, .int .i64 most, .int .i64 ((↑(usedN (List.map Ob.n l)) : Int) + ((↑cells.length : Int) + 1)), .slice a2 (l ++ [o]).length c2]) (.d (.k .a))) ?_
      refine RZ (NT (RE ?_))
      rw [← hu2]
      refine nx_ent (Ent.trans (ent_perm (List.perm_append_comm (l₁ := [_, _]) (l₂ := [_, _]))) (ent_star_snoc trivial)) ?_
      refine NE [1, 1, 0] (.i (.blk g 59 [.bool true, .int .i64 most, .int .i64 (↑(usedN (List.map Ob.n (l ++ [o]))) : Int), .slice a2 (l ++ [o]).length c2]) (.i (row 43 2 a2 (l ++ [o]).length c2 (List.flatMap objC (l ++ [o]))) (.k .z))) .z [] (.bool true) ?_
      rw [if_pos hf]
      exact ⟨a2, c2, o, rfl, ht, hc, by rw [List.map_append (f := obRow)]; rfl⟩
  · refine fn_enter Tryz.func49 rfl 47 rfl fun w0 h0 => ?_
    refine SQ (RG ?_)
    refine RP [] (.d .a) 3 (.k .z) (.i (.blk g 59 [.bool true, .int .i64 most, .int .i64 (↑(usedN (List.map Ob.n l)) : Int), .slice a l.length c]) (.d (.k .a))) 43 [.string (mkS tag), .slice oa cells.length oc] fun g1 => ?_
    refine RR [] .z (.i 4 (.bool false) .a) (.i (.blk g 59 [.bool true, .int .i64 most, .int .i64 (↑(usedN (List.map Ob.n l)) : Int), .slice a l.length c]) (.d (.k (.k (.k (.i (.blk g1 43 [.string (mkS tag), .slice oa cells.length oc]) .z)))))) ?_
    refine RZ (NT (SQ (RG ?_)))
    refine RR [4] .z (.i 5 (.int .i64 (↑cells.length : Int)) .a) (.i (.blk g 59 [.bool true, .int .i64 most, .int .i64 (↑(usedN (List.map Ob.n l)) : Int), .slice a l.length c]) (.d (.k (.k (.k (.i (.blk g1 43 [.string (mkS tag), .slice oa cells.length oc]) .z)))))) ?_
    refine RZ (NT (SQ (SQ ?_)))
    refine wpc_draw (by kernel_rfl) [.blk g 59 [.bool true, .int .i64 most, .int .i64 (↑(usedN (List.map Ob.n l)) : Int), .slice a l.length c], row 43 2 a l.length c (List.flatMap objC l), star (List.map obRow l), ro oa (List.flatMap valC cells), .blk g1 43 [.string (mkS tag), .slice oa cells.length oc]] (sub_of [0, 1, 2, 3, 4] (by kernel_rfl)) 11 (by kernel_rfl) ?_
    refine wpa_take true [(0, []), (1, []), (2, []), (3, []), (4, [0]), (5, []), (6, []), (7, []), (8, [0]), (9, []), (10, [])] [(19, .bool (decide ((↑cells.length : Int) ≥ most - (↑(usedN (List.map Ob.n l)) : Int)))), (5, .int .i64 (↑cells.length : Int)), (4, .bool false), (3, .pointer (some ⟨g1, 0, none⟩)), (0, .pointer (some ⟨g, 0, none⟩))] (#[true, true, true, true, true, true, true, true, true, true, true]) [inI64 (most - (↑(usedN (List.map Ob.n l)) : Int))] (n := 0) (by kernel_rfl) (by kernel_rfl) (by kernel_rfl) ⟨by unfold inI64; omega, trivial⟩ ?_
    refine wpa_done 0 (by kernel_rfl) ?_
    refine NT ?_
    refine SC 19 (decide ((↑cells.length : Int) ≥ most - (↑(usedN (List.map Ob.n l)) : Int))) true (decide_eq_true (by omega)) ?_
    refine CT (SQ (RG ?_))
    refine RR [] .z (.i 4 (.bool false) (.d (.d (.k (.d (.k .a)))))) (.i (.blk g 59 [.bool true, .int .i64 most, .int .i64 (↑(usedN (List.map Ob.n l)) : Int), .slice a l.length c]) (.d (.k (.k (.k (.i (.blk g1 43 [.string (mkS tag), .slice oa cells.length oc]) .z)))))) ?_
    refine RZ (NT (RE (TR ?_)))
    refine NE [0, 0, 0] (.i (.blk g 59 [.bool true, .int .i64 most, .int .i64 (↑(usedN (List.map Ob.n l)) : Int), .slice a l.length c]) (.d (.k (.k .z)))) (.d (.d (.d (.k (.i (.blk g1 43 [.string (mkS tag), .slice oa cells.length oc]) .z))))) [] (.bool false) ?_
    rw [if_neg hf]
    exact ⟨rfl, rfl⟩
end Go.Proofs.YtpfhleghgkeemaaGreatDoor
namespace Go.Proofs.YtpfhleghgkeemaaGreatDoor
open Go Go.Sx
def atV (n : Nat) : V := ⟨4, n, []⟩
end Go.Proofs.YtpfhleghgkeemaaGreatDoor
namespace Go.Proofs.YtpfhleghgkeemaaGreatDoor
open Go Go.Sx
def Hp3 (g : Nat) (most : Int) (used : Nat) (a : Option Addr) (c : Nat) (l : List Ob) : Hp := [heapB g most used a l.length c, heapR a c l, heapS l]
end Go.Proofs.YtpfhleghgkeemaaGreatDoor
namespace Go.Proofs.YtpfhleghgkeemaaGreatDoor
open Go Go.Sx
theorem obRo_in {l : List Ob} {q : Nat} (hq : q < l.length) : ro l[q].a (l[q].cells.flatMap valC) ∈ l.map obRo :=
  List.mem_map.2 ⟨l[q], List.getElem_mem hq, rfl⟩
theorem gob_nil {hp : Hp} {w : World} {i : Nat} {l : List Ob} {q : Nat} (h : HS hp w) (hi : hp[i]? = some (gBag l)) (hq : q < l.length) : l[q].a = none → l[q].cells = [] := fun hn => by
  rcases Nat.eq_zero_or_pos l[q].cells.length with h0 | h0
  · exact List.eq_nil_of_length_eq_zero h0
  · obtain ⟨g, off, e⟩ := bag_addr h i hi (obRo_in hq) (by rw [vals_len]; omega)
    rw [hn] at e; cases e
theorem take_snoc {α β : Type} (f : α → β) {l : List α} {i : Nat} (hi : i < l.length) : (l.take (i + 1)).map f = (l.take i).map f ++ [f l[i]] := by
  rw [← List.take_append_getElem hi, List.map_append]; rfl
end Go.Proofs.YtpfhleghgkeemaaGreatDoor
namespace Go.Proofs.YtpfhleghgkeemaaGreatDoor
open Go Go.Sx
def Ob.sm (o : Ob) : Prop := o.tag.length ≤ 1048576 ∧ o.cells.length ≤ o.c ∧ o.cells.length ≤ 1048576 ∧ smL o.cells
def smO (l : List Ob) : Prop := ∀ o ∈ l, o.sm
theorem len_le_used (l : List Nat) : l.length ≤ usedN l := by
  induction l with
  | nil => exact Nat.zero_le _
  | cons n l ih => simp only [usedN, List.map_cons, List.sum_cons, List.length_cons] at ih ⊢; omega
def okObs (m : Nat) (l : List Ob) : Bool := l.all fun o => objB m o.tag o.cells
def usedO (l : List O) : Nat := usedN (l.map fun o => o.2.length)
theorem usedO_eq (l : List Ob) : usedN (l.map Ob.n) = usedO (l.map Ob.o) := by
  unfold usedO; rw [List.map_map]; rfl
theorem usedN_le (l : List Nat) (i : Nat) : usedN (l.take i) ≤ usedN l := by
  conv => rhs; rw [← List.take_append_drop i l]
  simp only [usedN, List.map_append, List.sum_append]; omega
theorem usedN_at {l : List Ob} {i : Nat} (hi : i < l.length) : usedN ((l.take i).map Ob.n) + (l[i].cells.length + 1) ≤ usedN (l.map Ob.n) := by
  have h1 := usedN_le (l.map Ob.n) (i + 1)
  rw [← List.map_take, take_snoc Ob.n hi, usedN_snoc] at h1
  exact h1
theorem ob_o_n {l l' : List Ob} (h : l'.map Ob.o = l.map Ob.o) : l'.map Ob.n = l.map Ob.n := by
  have := congrArg (List.map fun o : O => o.2.length) h
  rwa [List.map_map, List.map_map] at this
theorem Load_spec (m : Int) (a : Option Addr) (c : Nat) (l : List Ob) (hl : l.length ≤ 1048576) (hs : smO l) :
    Does Tryz.prog 28 [.int .i64 m, .slice a l.length c] [ro a (l.flatMap objC), gBag l, gWords]
      (fun r hp' => if okObs l.length l = false then r = .tuple #[.pointer none, .int .i64 2] ∧ hp' = []
        else if (usedN (l.map Ob.n) : Int) ≤ mostI m then ∃ g a' c' l', l'.map Ob.o = l.map Ob.o ∧ r = .tuple #[.pointer (some ⟨g, 0, none⟩), .int .i64 0] ∧ hp' = Hp3 g (mostI m) (usedN (l'.map Ob.n)) a' c' l'
        else r = .tuple #[.pointer none, .int .i64 12] ∧ hp' = []) := by
  unfold Hp3 heapB heapR heapS
  refine fn_enter Tryz.func28 rfl 37 rfl fun w0 h0 => ?_
  refine SQ (RG ?_)
  refine RR [] .z (.i 5 (.int .i64 0) (.i 4 (.pointer none) .a)) .a ?_
  refine RZ (NT (SQ (SQ (RG ?_))))
  refine RR [] .z (.i 13 (.int .i64 0) (.i 12 (.int .i64 (↑l.length : Int)) (.i 11 (.slice a l.length c) .a))) .a ?_
  refine RZ (NT (BK ?_))
  refine wpc_loop (X := {n : Nat // ∃ h : n ≤ l.length, ∀ j, (hj : j < n) → objB l.length (l[j]'(by omega)).tag (l[j]'(by omega)).cells = true}) (fun x => St.mk [(13, .int .i64 (x.1 : Int)), (12, .int .i64 l.length), (11, .slice a l.length c), (5, .int .i64 0), (4, .pointer none), (0, .int .i64 m), (1, .slice a l.length c)] [ro a (l.flatMap objC), gBag l, gWords]) (fun x => l.length - x.1) ⟨0, Nat.zero_le _, fun j h => absurd h (Nat.not_lt_zero _)⟩ (ent_fr (by kernel_rfl)) ?_
  rintro ⟨n, hn, hall⟩
  dsimp only at hn hall ⊢
  by_cases hlt : n < l.length
  · refine wpc_fact (fun w h => ro_addr h 0 rfl (by rw [objs_len]; omega)) ?_
    rintro ⟨g0, o0, rfl⟩
    obtain ⟨s1, s2, s3, s4⟩ := hs l[n] (List.getElem_mem hlt)
    refine SQ (RG ?_)
    refine RR [] .z (.i 14 (.bool (decide ((↑n : Int) < (↑l.length : Int)))) .a) .a ?_
    refine RZ (NT (SQ ?_))
    refine SC 14 (decide ((↑n : Int) < (↑l.length : Int))) true (decide_eq_true (by omega)) ?_
    refine CT (SK (NT (SQ (BK (SQ (RG ?_))))))
    refine RV true [] (.d .a) (.i 15 (.pointer (some ⟨g0, o0 + n * 2, none⟩)) (.d (.d (.k .a)))) .a [(0 : Int) ≤ (↑n : Int) ∧ (↑n : Int) < (↑l.length : Int)] ⟨by first | omega | decide | (simp; done), trivial⟩ ?_
    refine wpr_eq (ld (t := 43) (a := ⟨g0, o0 + n * 2, none⟩) (dst := some 16) (by kernel_rfl) true 2 (by kernel_rfl) (by simp) [.string (mkS l[n].tag), .slice l[n].a l[n].cells.length l[n].c] rfl (fun w h => ld_ro h 0 rfl (n * 2) (objs_at hlt))) ?_
    refine RP [] (.d .a) 7 (.i 16 (.agg #[.string (mkS l[n].tag), .slice l[n].2 l[n].cells.length l[n].c]) (.d (.d (.k .a)))) .a 43 [.string ⟨#[]⟩, .slice none 0 0] fun g1 => ?_
    refine RR [3, 3] .z (.k (.d (.k .a))) (.k (.k (.k (.i (.blk g1 43 [.string (mkS l[n].tag), .slice l[n].2 l[n].cells.length l[n].c]) .z)))) ?_
    refine RZ (NT (SQ (RG ?_)))
    refine RR [3, 3] (.d (.d (.d .a))) (.i 19 (.int .i64 (↑l.length : Int)) (.i 17 (.agg #[.string (mkS l[n].tag), .slice l[n].2 l[n].cells.length l[n].c]) (.d (.k .a)))) (.k (.k (.k (.i (.blk g1 43 [.string (mkS l[n].tag), .slice l[n].2 l[n].cells.length l[n].c]) .z)))) ?_
    refine wpr_ent (ent_copy 1 (ro l[n].a (l[n].cells.flatMap valC)) rfl (fun h => h) (view_in (obRo_in hlt) view_ro)) ?_
    refine RCG (dst := some 20) (.k (.k (.k (.k (.i (.blk g1 43 [.string (mkS l[n].tag), .slice l[n].2 l[n].cells.length l[n].c]) .z))))) (fit_spec l[n].tag l[n].cells l[n].a l[n].c l.length s1 s3 s4) (GV (GV (GI []) 3 view_ro) 0 view_ro) ?_
    rintro v _ ⟨rfl, rfl⟩
    cases hob : objB l.length l[n].tag l[n].cells with
    | true =>
      refine RR [] .z (.i 21 (.bool false) (.d (.d (.d (.k .a))))) (.k (.k (.k (.k (.i (.blk g1 43 [.string (mkS l[n].tag), .slice l[n].2 l[n].cells.length l[n].c]) .z))))) ?_
      refine RZ (NT (CF (SK (BN (NT (RG ?_))))))
      refine RV true [] .z (.i 13 (.int .i64 ((↑n : Int) + 1)) (.d (.d (.k .a)))) (.k (.k (.k (.k (.i (.blk g1 43 [.string (mkS l[n].tag), .slice l[n].2 l[n].cells.length l[n].c]) .z))))) ([inI64 ((↑n : Int) + (1 : Int))]) ⟨by unfold inI64; omega, trivial⟩ ?_
      refine RZ ?_
      exact fun a' w' hS' => ⟨⟨n + 1, hlt, fun j hj => by
              rcases Nat.lt_or_ge j n with h | h
              · exact hall j h
              · obtain rfl : j = n := by omega
                exact hob⟩, by dsimp only; omega, ent_fr (by kernel_rfl) _ _ (ent_hp [1, 1, 1] rfl _ _ hS')⟩
    | false =>
      refine RR [] .z (.i 21 (.bool true) (.d (.d (.d (.k .a))))) (.k (.k (.k (.k (.i (.blk g1 43 [.string (mkS l[n].tag), .slice l[n].2 l[n].cells.length l[n].c]) .z))))) ?_
      refine RZ (NT (CT (SQ (RG ?_))))
      refine RR [] .z (.i 5 (.int .i64 2) (.i 4 (.pointer none) (.d (.k (.k (.k (.d (.d (.k .a))))))))) (.k (.k (.k (.k (.i (.blk g1 43 [.string (mkS l[n].tag), .slice l[n].2 l[n].cells.length l[n].c]) .z))))) ?_
      refine RZ (NT (RE (BR (TR (TR (BR (TR ?_)))))))
      refine NE [] .z (.k (.k (.k (.k (.i (.blk g1 43 [.string (mkS l[n].tag), .slice l[n].2 l[n].cells.length l[n].c]) .z))))) [] (.tuple #[.pointer none, .int .i64 2]) ?_
      have hno : okObs l.length l = false := by
        cases h : okObs l.length l with
        | false => rfl
        | true =>
          have h2 := List.all_eq_true.1 h l[n] (List.getElem_mem hlt)
          rw [hob] at h2; cases h2
      rw [if_pos hno]
      exact ⟨rfl, rfl⟩
  · have hok : okObs l.length l = true := List.all_eq_true.2 fun x hx => by
      obtain ⟨j, hj⟩ := List.getElem?_of_mem hx
      obtain ⟨hj1, rfl⟩ := List.getElem?_eq_some_iff.1 hj
      exact hall j (by omega)
    rw [hok]
    refine SQ (RG ?_)
    refine RR [] .z (.i 14 (.bool (decide ((↑n : Int) < (↑l.length : Int)))) .a) .a ?_
    refine RZ (NT (SQ ?_))
    refine SC 14 (decide ((↑n : Int) < (↑l.length : Int))) false (decide_eq_false (by omega)) ?_
    refine CF (EX (TE (TE (BH (NT (SQ (RG ?_)))))))
    refine RR [] (.d .a) (.i 23 (.int .i64 m) (.d (.d (.d (.d (.d (.k (.k (.d (.k .a)))))))))) .a ?_
    refine RC (dst := some 24) [] .a (New_spec m) ?_
    rintro v _ ⟨g, rfl, rfl⟩
    refine RR [] .z (.i 8 (.pointer (some ⟨g, 0, none⟩)) (.d (.d (.k .a)))) (.i (.blk g 59 [.bool true, .int .i64 (mostI m), .int .i64 0, .slice none 0 0]) (.d (.k .a))) ?_
    refine RZ (NT (SQ (SQ (RG ?_))))
    refine RR [] .z (.i 27 (.int .i64 0) (.i 26 (.int .i64 (↑l.length : Int)) (.i 25 (.slice a l.length c) (.k (.k (.k .z)))))) (.i (.blk g 59 [.bool true, .int .i64 (mostI m), .int .i64 0, .slice none 0 0]) (.d (.k .a))) ?_
    refine RZ (NT (BK ?_))
    have hmo := mostI_le m
    refine wpc_loop (X := {x : Nat × Option Addr × Nat × List Ob // x.1 ≤ l.length ∧ x.2.2.2.map Ob.o = (l.take x.1).map Ob.o ∧ (usedN (x.2.2.2.map Ob.n) : Int) ≤ mostI m}) (fun x => St.mk [(27, .int .i64 (x.1.1 : Int)), (26, .int .i64 l.length), (25, .slice a l.length c), (8, .pointer (some ⟨g, 0, none⟩)), (5, .int .i64 0), (4, .pointer none)]
      [.blk g 59 [.bool true, .int .i64 (mostI m), .int .i64 (usedN (x.1.2.2.2.map Ob.n) : Nat), .slice x.1.2.1 x.1.2.2.2.length x.1.2.2.1], row 43 2 x.1.2.1 x.1.2.2.2.length x.1.2.2.1 (x.1.2.2.2.flatMap objC), star (x.1.2.2.2.map obRow), ro a (l.flatMap objC), gBag l]) (fun x => l.length - x.1.1) ⟨(0, none, 0, []), Nat.zero_le _, rfl, hmo.1⟩ ?_ ?_
    · exact Ent.trans (ent_star_nil) (Ent.trans (ent_nil 43 2) (Ent.trans (ent_hp [2, 0, 0, 0, 0] rfl) (ent_fr (by kernel_rfl))))
    rintro ⟨⟨i, a1, c1, l1⟩, hi, hm, hu⟩
    dsimp only at hi hm hu ⊢
    by_cases hlt : i < l.length
    · refine wpc_fact (fun w h => ro_addr h 3 rfl (by rw [objs_len]; omega)) ?_
      rintro ⟨g0, o0, rfl⟩
      refine wpc_fact (fun w h => gob_nil h (i := 4) rfl hlt) fun hnil => ?_
      obtain ⟨s1, s2, s3, s4⟩ := hs l[i] (List.getElem_mem hlt)
      have hl1 : l1.length ≤ 4096 := by
        have := len_le_used (l1.map Ob.n)
        rw [List.length_map] at this; omega
      have hput := put_spec g (mostI m) a1 c1 l1 l[i].tag l[i].cells l[i].a l[i].c hmo hu hl1 hnil s2 s3
      unfold heapB heapR heapS at hput
      refine SQ (RG ?_)
      refine RR [] .z (.i 28 (.bool (decide ((↑i : Int) < (↑l.length : Int)))) .a) (.i (.blk g 59 [.bool true, .int .i64 (mostI m), .int .i64 (↑(usedN (List.map Ob.n l1)) : Int), .slice a1 l1.length c1]) (.d (.k .a))) ?_
      refine RZ (NT (SQ ?_))
      refine SC 28 (decide ((↑i : Int) < (↑l.length : Int))) true (decide_eq_true (by omega)) ?_
      refine CT (SK (NT (SQ (BK (SQ (RG ?_))))))
      refine RV true [] (.d .a) (.i 29 (.pointer (some ⟨g0, o0 + i * 2, none⟩)) (.d (.d (.k .a)))) (.i (.blk g 59 [.bool true, .int .i64 (mostI m), .int .i64 (↑(usedN (List.map Ob.n l1)) : Int), .slice a1 l1.length c1]) (.d (.k .a))) [(0 : Int) ≤ (↑i : Int) ∧ (↑i : Int) < (↑l.length : Int)] ⟨by first | omega | decide | (simp; done), trivial⟩ ?_
      refine wpr_eq (ld (t := 43) (a := ⟨g0, o0 + i * 2, none⟩) (dst := some 30) (by kernel_rfl) true 2 (by kernel_rfl) (by simp) [.string (mkS l[i].tag), .slice l[i].a l[i].cells.length l[i].c] rfl (fun w h => ld_ro h 3 rfl (i * 2) (objs_at hlt))) ?_
      refine RP [] (.d .a) 10 (.i 30 (.agg #[.string (mkS l[i].tag), .slice l[i].2 l[i].cells.length l[i].c]) (.d (.d (.k .a)))) (.i (.blk g 59 [.bool true, .int .i64 (mostI m), .int .i64 (↑(usedN (List.map Ob.n l1)) : Int), .slice a1 l1.length c1]) (.d (.k .a))) 43 [.string ⟨#[]⟩, .slice none 0 0] fun g1 => ?_
      refine RR [5, 5] .z (.k (.d (.k .a))) (.i (.blk g 59 [.bool true, .int .i64 (mostI m), .int .i64 (↑(usedN (List.map Ob.n l1)) : Int), .slice a1 l1.length c1]) (.d (.k (.k (.k (.k (.i (.blk g1 43 [.string (mkS l[i].tag), .slice l[i].2 l[i].cells.length l[i].c]) .z))))))) ?_
      refine RZ (NT (SQ (RG ?_)))
      refine RR [5, 5] (.d (.d .a)) (.i 32 (.agg #[.string (mkS l[i].tag), .slice l[i].2 l[i].cells.length l[i].c]) (.i 31 (.pointer (some ⟨g, 0, none⟩)) (.d (.k .a)))) (.i (.blk g 59 [.bool true, .int .i64 (mostI m), .int .i64 (↑(usedN (List.map Ob.n l1)) : Int), .slice a1 l1.length c1]) (.d (.k (.k (.k (.k (.i (.blk g1 43 [.string (mkS l[i].tag), .slice l[i].2 l[i].cells.length l[i].c]) .z))))))) ?_
      refine wpr_ent (ent_copy 4 (ro l[i].a (l[i].cells.flatMap valC)) rfl (fun h => h) (view_in (obRo_in hlt) view_ro)) ?_
      refine RCG (dst := some 33) (.k (.d (.d (.d (.k (.k (.i (.blk g1 43 [.string (mkS l[i].tag), .slice l[i].2 l[i].cells.length l[i].c]) .z))))))) (hput) (GO (GV (GJ [1, 1, 1]) 0 view_ro) [1, 1, 1, 0]) ?_
      intro v hp' h
      by_cases hf : (l[i].cells.length : Int) < mostI m - usedN (l1.map Ob.n)
      · rw [if_pos hf] at h
        obtain ⟨a2, c2, o, rfl, h1, h2, rfl⟩ := h
        refine RR [] .z (.i 34 (.bool false) (.d (.d (.d (.k .a))))) (.i (.blk g 59 [.bool true, .int .i64 (mostI m), .int .i64 (↑(usedN (List.map Ob.n (l1 ++ [o]))) : Int), .slice a2 (l1 ++ [o]).length c2]) (.d (.k (.k (.k (.k (.k (.i (.blk g1 43 [.string (mkS l[i].tag), .slice l[i].2 l[i].cells.length l[i].c]) .z)))))))) ?_
        refine RZ (NT (CF (SK (BN (NT (RG ?_))))))
        refine RV true [] .z (.i 27 (.int .i64 ((↑i : Int) + 1)) (.d (.d (.k .a)))) (.i (.blk g 59 [.bool true, .int .i64 (mostI m), .int .i64 (↑(usedN (List.map Ob.n (l1 ++ [o]))) : Int), .slice a2 (l1 ++ [o]).length c2]) (.d (.k (.k (.k (.k (.k (.i (.blk g1 43 [.string (mkS l[i].tag), .slice l[i].2 l[i].cells.length l[i].c]) .z)))))))) ([inI64 ((↑i : Int) + (1 : Int))]) ⟨by unfold inI64; omega, trivial⟩ ?_
        refine RZ ?_
        exact fun a' w' hS' => ⟨⟨(i + 1, a2, c2, l1 ++ [o]), hlt, by rw [take_snoc Ob.o hlt, ← hm, List.map_append]; unfold Ob.o; rw [List.map_singleton, h1, h2], by
                  rw [List.map_append, List.map_singleton, usedN_snoc]; simp only [Ob.n, h2]; omega⟩, by dsimp only; omega, ent_fr (by kernel_rfl) _ _ (ent_hp [0, 0, 0, 1, 1] rfl _ _ hS')⟩
      · rw [if_neg hf] at h
        obtain ⟨rfl, rfl⟩ := h
        refine RR [] .z (.i 34 (.bool true) (.d (.d (.d (.k .a))))) (.i (.blk g 59 [.bool true, .int .i64 (mostI m), .int .i64 (↑(usedN (List.map Ob.n l1)) : Int), .slice a1 l1.length c1]) (.d (.k (.k (.k (.k (.k (.i (.blk g1 43 [.string (mkS l[i].tag), .slice l[i].2 l[i].cells.length l[i].c]) .z)))))))) ?_
        refine RZ (NT (CT (SQ (RG ?_))))
        refine RR [] .z (.i 5 (.int .i64 12) (.i 4 (.pointer none) (.d (.k (.k (.k (.k .z))))))) (.i (.blk g 59 [.bool true, .int .i64 (mostI m), .int .i64 (↑(usedN (List.map Ob.n l1)) : Int), .slice a1 l1.length c1]) (.d (.k (.k (.k (.k (.k (.i (.blk g1 43 [.string (mkS l[i].tag), .slice l[i].2 l[i].cells.length l[i].c]) .z)))))))) ?_
        refine RZ (NT (RE (BR (TR (TR (BR (TR ?_)))))))
        refine NE [] .z (.i (.blk g 59 [.bool true, .int .i64 (mostI m), .int .i64 (↑(usedN (List.map Ob.n l1)) : Int), .slice a1 l1.length c1]) (.d (.k (.k (.k (.k (.k (.i (.blk g1 43 [.string (mkS l[i].tag), .slice l[i].2 l[i].cells.length l[i].c]) .z)))))))) [] (.tuple #[.pointer none, .int .i64 12]) ?_
        have hno : ¬ (usedN (l.map Ob.n) : Int) ≤ mostI m := fun h => by
          have h3 := usedN_at hlt
          rw [← ob_o_n hm] at h3
          omega
        rw [if_neg (by simp), if_neg hno]
        exact ⟨rfl, rfl⟩
    · obtain rfl : i = l.length := by omega
      rw [List.take_length] at hm
      refine SQ (RG ?_)
      refine RR [] .z (.i 28 (.bool (decide ((↑l.length : Int) < (↑l.length : Int)))) .a) (.i (.blk g 59 [.bool true, .int .i64 (mostI m), .int .i64 (↑(usedN (List.map Ob.n l1)) : Int), .slice a1 l1.length c1]) (.d (.k .a))) ?_
      refine RZ (NT (SQ ?_))
      refine SC 28 (decide ((↑l.length : Int) < (↑l.length : Int))) false (by simp) ?_
      refine CF (EX (TE (TE (BH (NT (SQ (RG ?_)))))))
      refine RR [] .z (.d (.d (.d (.d (.d (.d (.k (.i 4 (.pointer (some ⟨g, 0, none⟩)) .z)))))))) (.i (.blk g 59 [.bool true, .int .i64 (mostI m), .int .i64 (↑(usedN (List.map Ob.n l1)) : Int), .slice a1 l1.length c1]) (.d (.k .a))) ?_
      refine RZ (NT (RE ?_))
      refine NE [0, 0, 0] (.i (.blk g 59 [.bool true, .int .i64 (mostI m), .int .i64 (↑(usedN (List.map Ob.n l1)) : Int), .slice a1 l1.length c1]) (.d (.k (.k .z)))) (.d (.d (.d (.k .a)))) [] (.tuple #[.pointer (some ⟨g, 0, none⟩), .int .i64 0]) ?_
      rw [if_neg (by simp), ← ob_o_n hm, if_pos hu]
      exact ⟨g, a1, c1, l1, hm, rfl, rfl⟩
end Go.Proofs.YtpfhleghgkeemaaGreatDoor
namespace Go.Proofs.YtpfhleghgkeemaaGreatDoor
open Go Go.Sx
def V.i64 (v : V) : Prop := -9223372036854775808 ≤ v.n ∧ v.n ≤ 9223372036854775807
end Go.Proofs.YtpfhleghgkeemaaGreatDoor
namespace Go.Proofs.YtpfhleghgkeemaaGreatDoor
open Go Go.Sx
theorem usedO_snoc (L : List O) (o : O) : usedO (L ++ [o]) = usedO L + (o.2.length + 1) := by
  unfold usedO; rw [List.map_append, List.map_singleton, usedN_snoc]
end Go.Proofs.YtpfhleghgkeemaaGreatDoor
namespace Go.Proofs.YtpfhleghgkeemaaGreatDoor
open Go Go.Sx
def numV (n : Int) : V := ⟨1, n, []⟩
def L1 : List O := [([], [numV 1, numV 2])]
def L2 : List O := [([], [numV 1, numV 2]), ([80], [atV 0, ⟨2, 1, []⟩])]
theorem u1 : usedO L1 = 3 := rfl
theorem u2 : usedO L2 = 6 := rfl
end Go.Proofs.YtpfhleghgkeemaaGreatDoor
namespace Go.Proofs.YtpfhleghgkeemaaGreatDoor
open Go Go.Sx
/-! Calls that come in (Act), and a heap behind them. -/
structure At where
  k : Int
  tag : List UInt8
  a : Option Addr
  c : Nat
  cells : List V
  v : V
  x : V
  i : Int
def At.ok (t : At) : Prop := t.tag.length ≤ 1048576 ∧ t.cells.length ≤ 1048576 ∧ smL t.cells ∧ t.v.sm ∧ t.x.sm ∧ (t.a = none → t.cells = []) ∧ (∀ v ∈ t.cells, v.i64) ∧ t.v.i64 ∧ t.x.i64
end Go.Proofs.YtpfhleghgkeemaaGreatDoor
namespace Go.Proofs.YtpfhleghgkeemaaGreatDoor
open Go Go.Sx
theorem SameVals_spec (a1 : Option Addr) (c1 : Nat) (l1 : List V) (a2 : Option Addr) (c2 : Nat) (l2 : List V) (hl1 : l1.length ≤ 1048576) (hl2 : l2.length ≤ 1048576) :
    Does Tryz.prog 53 [.slice a1 l1.length c1, .slice a2 l2.length c2] [ro a1 (l1.flatMap valC), ro a2 (l2.flatMap valC)] (fun v hp' => v = .bool (decide (l1 = l2)) ∧ hp' = []) := by
  by_cases hlen : l1.length = l2.length
  · refine fn_enter Tryz.func53 rfl 26 rfl fun w0 h0 => ?_
    refine SQ (RG ?_)
    refine RR [] .z (.i 4 (.bool false) .a) .a ?_
    refine RZ (NT (SQ (SQ (RG ?_))))
    refine RR [] .z (.i 10 (.bool ((↑l1.length : Int) != (↑l2.length : Int))) .a) .a ?_
    refine RZ (NT ?_)
    refine SC 10 ((↑l1.length : Int) != (↑l2.length : Int)) false (by simp only [bne_eq_false_iff_eq, beq_eq_false_iff_ne, ne_eq]; omega) ?_
    refine CF (SK (NT (SQ (SQ (RG ?_)))))
    refine RR [] .z (.i 5 (.int .i64 0) (.d (.d (.k .a)))) .a ?_
    refine RZ (NT (BK ?_))
    refine wpc_loop (X := {i : Nat // i ≤ l1.length ∧ l1.take i = l2.take i}) (fun x => St.mk [(5, .int .i64 (x.1 : Int)), (4, .bool false), (0, .slice a1 l1.length c1), (1, .slice a2 l2.length c2)] [ro a1 (l1.flatMap valC), ro a2 (l2.flatMap valC)]) (fun x => l1.length - x.1) ⟨0, Nat.zero_le _, rfl⟩ (ent_fr (by kernel_rfl)) ?_
    rintro ⟨i, hi, he⟩
    dsimp only at hi he ⊢
    by_cases hlt : i < l1.length
    · have hlt2 : i < l2.length := by omega
      refine wpc_fact (fun w h => ro_addr h 0 rfl (by rw [vals_len]; omega)) ?_
      rintro ⟨g1, o1, rfl⟩
      refine wpc_fact (fun w h => ro_addr h 1 rfl (by rw [vals_len]; omega)) ?_
      rintro ⟨g2, o2, rfl⟩
      refine SQ (SQ (RG ?_))
      refine RR [] .z (.i 14 (.bool (decide ((↑i : Int) < (↑l1.length : Int)))) .a) .a ?_
      refine RZ (NT ?_)
      refine SC 14 (decide ((↑i : Int) < (↑l1.length : Int))) true (decide_eq_true (by omega)) ?_
      refine CT (SK (NT (SQ (BK (SQ ?_)))))
      refine wpc_draw (by kernel_rfl) [ro (some ⟨g1, o1, none⟩) (List.flatMap valC l1), ro (some ⟨g2, o2, none⟩) (List.flatMap valC l2)] (sub_of [0, 1] (by kernel_rfl)) 9 (by kernel_rfl) ?_
      refine wpa_take true [(0, []), (1, []), (2, []), (4, []), (5, []), (6, [])] ([(23, .pointer (some ⟨g2, o2 + i * 3, none⟩)), (19, .pointer (some ⟨g1, o1 + i * 3, none⟩)), (5, .int .i64 (↑i : Int)), (4, .bool false), (0, .slice (some ⟨g1, o1, none⟩) l1.length c1), (1, .slice (some ⟨g2, o2, none⟩) l2.length c2)]) (#[true, true, true, false, true, true, true, false, false]) [(0 : Int) ≤ (↑i : Int) ∧ (↑i : Int) < (↑l1.length : Int), (0 : Int) ≤ (↑i : Int) ∧ (↑i : Int) < (↑l2.length : Int)] (n := 3) (by kernel_rfl) (by kernel_rfl) (by kernel_rfl) ⟨by first | omega | decide | (simp; done), by first | omega | decide | (simp; done), trivial⟩ ?_
      refine wpa_qld (i := 3) (n := 2) (by kernel_rfl) (by kernel_rfl) (by kernel_rfl) (t := 28) (a := ⟨g1, o1 + i * 3, none⟩) (dst := some 20) (by kernel_rfl) true 3 (by kernel_rfl) (by simp) (valC l1[i]) rfl (fun w h => ld_roL h 0 rfl (i * 3) (vals_at hlt)) ?_
      refine wpa_qld (i := 7) (n := 1) (by kernel_rfl) (by kernel_rfl) (by kernel_rfl) (t := 28) (a := ⟨g2, o2 + i * 3, none⟩) (dst := some 24) (by kernel_rfl) true 3 (by kernel_rfl) (by simp) (valC l2[i]) rfl (fun w h => ld_roL h 1 rfl (i * 3) (vals_at hlt2)) ?_
      refine wpa_eqc (i := 8) (n := 0) (by kernel_rfl) (b := false) (t := 28) (xs := (valC l1[i])) (ys := (valC l2[i])) (dst := some 25) (by kernel_rfl) (by kernel_rfl) (sub_of [0, 1] (by kernel_rfl)) ?_
      intro r hr
      rw [valC_iff] at hr
      by_cases hx : l1[i] = l2[i]
      · obtain rfl : r = true := hr.2 hx
        refine wpa_done 0 (by kernel_rfl) ?_
        refine NT (CF (SK (BN (NT (RG ?_)))))
        refine RV true [] .z (.i 5 (.int .i64 ((↑i : Int) + 1)) (.d (.d (.d (.d (.d (.d (.k .a)))))))) .a ([inI64 ((↑i : Int) + (1 : Int))]) ⟨by unfold inI64; omega, trivial⟩ ?_
        refine RZ ?_
        exact fun a' w' hS' => ⟨⟨i + 1, hlt, by rw [← List.take_append_getElem hlt, ← List.take_append_getElem hlt2, he, hx]⟩, by dsimp only; omega, ent_fr (by kernel_rfl) _ _ (ent_hp [0, 0] rfl _ _ hS')⟩
      · obtain rfl : r = false := by cases r with | true => exact absurd (hr.1 rfl) hx | false => rfl
        refine wpa_done 0 (by kernel_rfl) ?_
        refine NT (CT (SQ (RG ?_)))
        refine RR [] .z (.i 4 (.bool false) (.d (.d (.d (.d (.d (.k (.d (.k .a))))))))) .a ?_
        refine RZ (NT (RE (BR (TR (TR (BR (TR ?_)))))))
        refine NE [] .z .a [] (.bool false) ?_
        exact ⟨by rw [decide_eq_false (fun e => hx (by simp only [e]))], rfl⟩
    · obtain rfl : i = l1.length := by omega
      have hall : l1 = l2 := by rw [List.take_length, hlen, List.take_length] at he; exact he
      refine SQ (SQ (RG ?_))
      refine RR [] .z (.i 14 (.bool (decide ((↑l1.length : Int) < (↑l1.length : Int)))) .a) .a ?_
      refine RZ (NT ?_)
      refine SC 14 (decide ((↑l1.length : Int) < (↑l1.length : Int))) false (by simp) ?_
      refine CF (EX (TE (TE (BH (NT (SQ (RG ?_)))))))
      refine RR [] .z (.i 4 (.bool true) .z) .a ?_
      refine RZ (NT (RE ?_))
      refine NE [] .z .a [] (.bool true) ?_
      exact ⟨by rw [decide_eq_true hall], rfl⟩
  · rw [decide_eq_false (fun e => hlen (by rw [e]))]
    refine fn_enter Tryz.func53 rfl 26 rfl fun w0 h0 => ?_
    refine SQ (RG ?_)
    refine RR [] .z (.i 4 (.bool false) .a) .a ?_
    refine RZ (NT (SQ (SQ (RG ?_))))
    refine RR [] .z (.i 10 (.bool ((↑l1.length : Int) != (↑l2.length : Int))) .a) .a ?_
    refine RZ (NT ?_)
    refine SC 10 ((↑l1.length : Int) != (↑l2.length : Int)) true (by simp only [bne_iff_ne, beq_iff_eq, ne_eq]; omega) ?_
    refine CT (SQ (RG ?_))
    refine RR [] .z (.d (.d (.k .a))) .a ?_
    refine RZ (NT (RE (TR ?_)))
    refine NE [] .z .a [] (.bool false) ?_
    exact ⟨rfl, rfl⟩
theorem obj_fld {l : List Ob} {q : Nat} (hq : q < l.length) (k m : Nat) (h : k + m ≤ 2) : ((l.flatMap objC).drop (q * 2 + k)).take m = ((objC l[q]).drop k).take m := by
  rw [← objs_at hq, List.drop_take, List.drop_drop, List.take_take, Nat.min_eq_left (by omega)]
theorem obs_o {l1 l2 : List Ob} {i : Nat} (h1 : i < l1.length) (h2 : i < l2.length) (he : (l1.take i).map Ob.o = (l2.take i).map Ob.o) (ht : l1[i].tag = l2[i].tag) (hc : l1[i].cells = l2[i].cells) : (l1.take (i + 1)).map Ob.o = (l2.take (i + 1)).map Ob.o := by
  rw [take_snoc Ob.o h1, take_snoc Ob.o h2, he]
  unfold Ob.o
  rw [ht, hc]
theorem ob_ne {l1 l2 : List Ob} {i : Nat} (h1 : i < l1.length) (h2 : i < l2.length) (h : ¬ (l1[i].tag = l2[i].tag ∧ l1[i].cells = l2[i].cells)) : l1.map Ob.o ≠ l2.map Ob.o := fun e => h (by
  have h3 : (l1.map Ob.o)[i]? = (l2.map Ob.o)[i]? := by rw [e]
  rw [List.getElem?_map, List.getElem?_map, List.getElem?_eq_getElem h1, List.getElem?_eq_getElem h2] at h3
  have h4 := Option.some.inj h3
  unfold Ob.o at h4
  exact ⟨(Prod.mk.inj h4).1, (Prod.mk.inj h4).2⟩)
theorem Same_spec (a1 : Option Addr) (c1 : Nat) (l1 : List Ob) (a2 : Option Addr) (c2 : Nat) (l2 : List Ob) (hl1 : l1.length ≤ 1048576) (hl2 : l2.length ≤ 1048576) (hc1 : ∀ o ∈ l1, o.cells.length ≤ 1048576) (hc2 : ∀ o ∈ l2, o.cells.length ≤ 1048576) :
    Does Tryz.prog 24 [.slice a1 l1.length c1, .slice a2 l2.length c2] [ro a1 (l1.flatMap objC), gBag l1, ro a2 (l2.flatMap objC), gBag l2] (fun v hp' => v = .bool (decide (l1.map Ob.o = l2.map Ob.o)) ∧ hp' = []) := by
  by_cases hlen : l1.length = l2.length
  · refine fn_enter Tryz.func24 rfl 42 rfl fun w0 h0 => ?_
    refine SQ (RG ?_)
    refine RR [] .z (.i 4 (.bool false) .a) .a ?_
    refine RZ (NT (SQ (SQ (RG ?_))))
    refine RR [] .z (.i 10 (.bool ((↑l1.length : Int) != (↑l2.length : Int))) .a) .a ?_
    refine RZ (NT ?_)
    refine SC 10 ((↑l1.length : Int) != (↑l2.length : Int)) false (by simp only [bne_eq_false_iff_eq, beq_eq_false_iff_ne, ne_eq]; omega) ?_
    refine CF (SK (NT (SQ (SQ (RG ?_)))))
    refine RR [] .z (.i 5 (.int .i64 0) (.d (.d (.k .a)))) .a ?_
    refine RZ (NT (BK ?_))
    refine wpc_loop (X := {i : Nat // i ≤ l1.length ∧ (l1.take i).map Ob.o = (l2.take i).map Ob.o}) (fun x => St.mk [(5, .int .i64 (x.1 : Int)), (4, .bool false), (0, .slice a1 l1.length c1), (1, .slice a2 l2.length c2)] [ro a1 (l1.flatMap objC), gBag l1, ro a2 (l2.flatMap objC), gBag l2]) (fun x => l1.length - x.1) ⟨0, Nat.zero_le _, rfl⟩ (ent_fr (by kernel_rfl)) ?_
    rintro ⟨i, hi, he⟩
    dsimp only at hi he ⊢
    by_cases hlt : i < l1.length
    · have hlt2 : i < l2.length := by omega
      refine wpc_fact (fun w h => ro_addr h 0 rfl (by rw [objs_len]; omega)) ?_
      rintro ⟨g1, o1, rfl⟩
      refine wpc_fact (fun w h => ro_addr h 2 rfl (by rw [objs_len]; omega)) ?_
      rintro ⟨g2, o2, rfl⟩
      refine SQ (SQ (RG ?_))
      refine RR [] .z (.i 14 (.bool (decide ((↑i : Int) < (↑l1.length : Int)))) .a) .a ?_
      refine RZ (NT ?_)
      refine SC 14 (decide ((↑i : Int) < (↑l1.length : Int))) true (decide_eq_true (by omega)) ?_
      refine CT (SK (NT (SQ (BK (SQ ?_)))))
      refine wpc_draw (by kernel_rfl) [ro (some ⟨g1, o1, none⟩) (List.flatMap objC l1), ro (some ⟨g2, o2, none⟩) (List.flatMap objC l2)] (sub_of [0, 2] (by kernel_rfl)) 25 (by kernel_rfl) ?_
      refine wpa_take true [(0, []), (1, []), (2, []), (3, []), (5, []), (6, []), (7, []), (8, [])] ([(25, .pointer (some ⟨g2, o2 + i * 2, none⟩)), (20, .pointer (some ⟨g1, o1 + i * 2, none⟩)), (5, .int .i64 (↑i : Int)), (4, .bool false), (0, .slice (some ⟨g1, o1, none⟩) l1.length c1), (1, .slice (some ⟨g2, o2, none⟩) l2.length c2)]) (#[true, true, true, true, false, true, true, true, true, false, false, false, false, false, false, false, false, false, false, false, false, false, false, false, false]) [(0 : Int) ≤ (↑i : Int) ∧ (↑i : Int) < (↑l1.length : Int), (0 : Int) ≤ (↑i : Int) ∧ (↑i : Int) < (↑l2.length : Int)] (n := 17) (by kernel_rfl) (by kernel_rfl) (by kernel_rfl) ⟨by first | omega | decide | (simp; done), by first | omega | decide | (simp; done), trivial⟩ ?_
      refine wpa_qld (i := 4) (n := 16) (by kernel_rfl) (by kernel_rfl) (by kernel_rfl) (t := 9) (a := ⟨g1, o1 + i * 2, none⟩) (dst := some 21) (by kernel_rfl) false 1 (by kernel_rfl) (by simp) [.string (mkS l1[i].tag)] rfl (fun w h => ld_roL h 0 rfl (i * 2 + 0) (obj_fld hlt 0 1 (by decide))) ?_
      refine wpa_qld (i := 9) (n := 15) (by kernel_rfl) (by kernel_rfl) (by kernel_rfl) (t := 9) (a := ⟨g2, o2 + i * 2, none⟩) (dst := some 26) (by kernel_rfl) false 1 (by kernel_rfl) (by simp) [.string (mkS l2[i].tag)] rfl (fun w h => ld_roL h 1 rfl (i * 2 + 0) (obj_fld hlt2 0 1 (by decide))) ?_
      refine TK 13 [(10, []), (11, [])] (.i 28 (.bool !decide (l1[i].tag = l2[i].tag)) (.d (.d (.d (.d (.k .a)))))) (#[true, true, true, true, true, true, true, true, true, true, true, true, false, false, false, false, false, false, false, false, false, false, false, false, false]) ?_
      by_cases ht : l1[i].tag = l2[i].tag
      · refine SA 28 (!decide (l1[i].tag = l2[i].tag)) false (by simp [ht]) ?_
        refine wpa_take true [(12, []), (13, []), (14, []), (15, []), (17, []), (18, []), (19, []), (20, [])] ([(37, .pointer (some ⟨g2, o2 + i * 2 + 1, none⟩)), (32, .pointer (some ⟨g1, o1 + i * 2 + 1, none⟩)), (28, .bool false), (5, .int .i64 (↑i : Int)), (4, .bool false), (0, .slice (some ⟨g1, o1, none⟩) l1.length c1), (1, .slice (some ⟨g2, o2, none⟩) l2.length c2)]) (#[true, true, true, true, true, true, true, true, true, true, true, true, true, true, true, true, false, true, true, true, true, false, false, false, false]) [(0 : Int) ≤ (↑i : Int) ∧ (↑i : Int) < (↑l1.length : Int), (0 : Int) ≤ (↑i : Int) ∧ (↑i : Int) < (↑l2.length : Int)] (n := 5) (by kernel_rfl) (by kernel_rfl) (by kernel_rfl) ⟨by first | omega | decide | (simp; done), by first | omega | decide | (simp; done), trivial⟩ ?_
        refine wpa_qld (i := 16) (n := 4) (by kernel_rfl) (by kernel_rfl) (by kernel_rfl) (t := 25) (a := ⟨g1, o1 + i * 2 + 1, none⟩) (dst := some 33) (by kernel_rfl) false 1 (by kernel_rfl) (by simp) [.slice l1[i].a l1[i].cells.length l1[i].c] rfl (fun w h => ld_roL h 0 rfl (i * 2 + 1) (obj_fld hlt 1 1 (by decide))) ?_
        refine wpa_qld (i := 21) (n := 3) (by kernel_rfl) (by kernel_rfl) (by kernel_rfl) (t := 25) (a := ⟨g2, o2 + i * 2 + 1, none⟩) (dst := some 38) (by kernel_rfl) false 1 (by kernel_rfl) (by simp) [.slice l2[i].a l2[i].cells.length l2[i].c] rfl (fun w h => ld_roL h 1 rfl (i * 2 + 1) (obj_fld hlt2 1 1 (by decide))) ?_
        refine wpa_ent (ent_copy 1 (ro l1[i].a (l1[i].cells.flatMap valC)) rfl (fun h => h) (view_in (obRo_in hlt) view_ro)) ?_
        refine wpa_ent (ent_copy 4 (ro l2[i].a (l2[i].cells.flatMap valC)) rfl (fun h => h) (view_in (obRo_in hlt2) view_ro)) ?_
        refine AC (dst := some 39) 2 22 .a (SameVals_spec l1[i].a l1[i].c l1[i].cells l2[i].a l2[i].c l2[i].cells (hc1 _ (List.getElem_mem hlt)) (hc2 _ (List.getElem_mem hlt2))) (GV (GV (GI []) 0 view_ro) 1 view_ro) [2, 4] ?_
        rintro v _ ⟨rfl, rfl⟩
        by_cases hc : l1[i].cells = l2[i].cells
        · rw [decide_eq_true hc]
          refine TK 0 [(23, []), (24, [])] (.i 41 (.bool false) (.d (.d (.d (.d (.d (.d (.k .a)))))))) (#[true, true, true, true, true, true, true, true, true, true, true, true, true, true, true, true, true, true, true, true, true, true, true, true, true]) ?_
          refine wpa_done 0 (by kernel_rfl) ?_
          refine NT (CF (SK (BN (NT (RG ?_)))))
          refine RV true [] .z (.i 5 (.int .i64 ((↑i : Int) + 1)) (.d (.d (.k .a)))) .a ([inI64 ((↑i : Int) + (1 : Int))]) ⟨by unfold inI64; omega, trivial⟩ ?_
          refine RZ ?_
          exact fun a' w' hS' => ⟨⟨i + 1, hlt, obs_o hlt hlt2 he ht hc⟩, by dsimp only; omega, ent_fr (by kernel_rfl) _ _ (ent_hp [2, 2, 2, 2] rfl _ _ hS')⟩
        · rw [decide_eq_false hc]
          refine TK 0 [(23, []), (24, [])] (.i 41 (.bool true) (.d (.d (.d (.d (.d (.d (.k .a)))))))) (#[true, true, true, true, true, true, true, true, true, true, true, true, true, true, true, true, true, true, true, true, true, true, true, true, true]) ?_
          refine wpa_done 0 (by kernel_rfl) ?_
          refine NT (CT (SQ (RG ?_)))
          refine RR [] .z (.i 4 (.bool false) (.d (.k (.d (.k .a))))) .a ?_
          refine RZ (NT (RE (BR (TR (TR (BR (TR ?_)))))))
          refine NE [] .z .a [] (.bool false) ?_
          exact ⟨by rw [decide_eq_false (ob_ne hlt hlt2 (fun h => hc h.2))], rfl⟩
      · refine SA 28 (!decide (l1[i].tag = l2[i].tag)) true (by simp [ht]) ?_
        refine TK 0 [(12, []), (13, []), (14, []), (15, []), (16, []), (17, []), (18, []), (19, []), (20, []), (21, []), (22, []), (23, []), (24, [])] (.i 41 (.bool true) (.d (.d (.k .a)))) (#[true, true, true, true, true, true, true, true, true, true, true, true, true, true, true, true, true, true, true, true, true, true, true, true, true]) ?_
        refine wpa_done 0 (by kernel_rfl) ?_
        refine NT (CT (SQ (RG ?_)))
        refine RR [] .z (.i 4 (.bool false) (.d (.k (.d (.k .a))))) .a ?_
        refine RZ (NT (RE (BR (TR (TR (BR (TR ?_)))))))
        refine NE [] .z .a [] (.bool false) ?_
        exact ⟨by rw [decide_eq_false (ob_ne hlt hlt2 (fun h => ht h.1))], rfl⟩
    · obtain rfl : i = l1.length := by omega
      have hall : l1.map Ob.o = l2.map Ob.o := by rw [List.take_length, hlen, List.take_length] at he; exact he
      refine SQ (SQ (RG ?_))
      refine RR [] .z (.i 14 (.bool (decide ((↑l1.length : Int) < (↑l1.length : Int)))) .a) .a ?_
      refine RZ (NT ?_)
      refine SC 14 (decide ((↑l1.length : Int) < (↑l1.length : Int))) false (by simp) ?_
      refine CF (EX (TE (TE (BH (NT (SQ (RG ?_)))))))
      refine RR [] .z (.i 4 (.bool true) .z) .a ?_
      refine RZ (NT (RE ?_))
      refine NE [] .z .a [] (.bool true) ?_
      exact ⟨by rw [decide_eq_true hall], rfl⟩
  · rw [decide_eq_false (fun e => hlen (by have := congrArg List.length e; simpa using this))]
    refine fn_enter Tryz.func24 rfl 42 rfl fun w0 h0 => ?_
    refine SQ (RG ?_)
    refine RR [] .z (.i 4 (.bool false) .a) .a ?_
    refine RZ (NT (SQ (SQ (RG ?_))))
    refine RR [] .z (.i 10 (.bool ((↑l1.length : Int) != (↑l2.length : Int))) .a) .a ?_
    refine RZ (NT ?_)
    refine SC 10 ((↑l1.length : Int) != (↑l2.length : Int)) true (by simp only [bne_iff_ne, beq_iff_eq, ne_eq]; omega) ?_
    refine CT (SQ (RG ?_))
    refine RR [] .z (.d (.d (.k .a))) .a ?_
    refine RZ (NT (RE (TR ?_)))
    refine NE [] .z .a [] (.bool false) ?_
    exact ⟨rfl, rfl⟩
end Go.Proofs.YtpfhleghgkeemaaGreatDoor
namespace Go.Proofs.YtpfhleghgkeemaaGreatDoor
open Go Go.Sx
/-! What the row's list lays: the words, the powers of ten. -/
abbrev laidL : List (String × DataW Unit) := [("math/bits.deBruijn32tab", Rows.laid_math_bits_deBruijn32tab), ("math/bits.deBruijn64tab", Rows.laid_math_bits_deBruijn64tab), ("internal/strconv.uint64pow10", Rows.laid_internal_strconv_uint64pow10), ("hindcast/lex.words", Rows.laid_hindcast_lex_words), ("hindcast/lex.signs", Rows.laid_hindcast_lex_signs)]
theorem pow_in {W : World} (h : laidMet Tryz.prog laidL W) : gPow.holds W := by
  have h2 := h.tail.tail
  exact Lib.tabIs_of_head (g := 2) (t := 231) (e := 159) (n := 20) (by kernel_rfl) (by kernel_rfl) (by kernel_rfl) (by kernel_rfl) (by kernel_rfl) (by kernel_rfl) h2
def strData {H : Type} (l : List (List UInt8)) : DataW H := .agg (l.map fun s => .lit (.string s))
theorem cells_of_strs {H : Type} {enc : TypeId × Value → H} {P : Program} {w : World} {base : Nat} {sp : Nat → Bool} {held : Bool} {fuel : Nat} {t e : TypeId} {n : Nat} {cs : List Value} {zs : List (List UInt8)} {p : List MemPlace}
    (ht : P.underlying t = some (.array n e)) (he : P.underlying e = some .string) (hce : P.cellsOf e = 1) (hct : P.cellsOf t = n)
    (h : DataW.trod enc P w base sp held fuel t cs = some (strData zs, p)) : cs = zs.map strV := by
  cases fuel with
  | zero => simp [DataW.trod] at h
  | succ fuel =>
    simp only [DataW.trod, ht, hce, hct, Nat.mul_one] at h
    split at h
    · rename_i hl
      obtain ⟨xs, hm, hx⟩ := Option.map_eq_some_iff.1 h
      have hxs : xs.map (·.1) = zs.map fun z => (DataW.lit (.string z) : DataW H) := by
        have := congrArg Prod.fst hx
        simpa [strData] using this
      have hxl : xs.length = n := by simpa using Lib.mapM_length hm
      have hzl : zs.length = n := by
        have := congrArg List.length hxs
        simp at this
        omega
      apply List.ext_getElem?
      intro i
      by_cases hi : i < n
      · obtain ⟨b, hb, hf⟩ := Lib.mapM_at hm i i (by simp [hi])
        obtain ⟨z, hc, rfl, _⟩ := DataW.trod_string he hf
        have h1 : cs[i]? = some (.string z) := by
          have := congrArg (·[0]?) hc
          simpa [List.getElem?_take, List.getElem?_drop] using this
        have h2 : (xs.map (·.1))[i]? = some (DataW.lit (.string z.data.toList) : DataW H) := by simp [hb]
        rw [hxs] at h2
        simp only [List.getElem?_map, Option.map_eq_some_iff, DataW.lit.injEq, Lit.string.injEq] at h2
        obtain ⟨z', hz', rfl⟩ := h2
        simp [h1, hz', strV, mkS]
      · rw [List.getElem?_eq_none (by omega), List.getElem?_eq_none (by simp; omega)]
    · cases h
theorem strs_of_head {P : Program} {W : World} {name : String} {zs : List (List UInt8)} {rest : List (String × DataW Unit)} {g : Nat} {t e : TypeId} {n : Nat}
    (hg : P.globalNamed name = some g) (hty : (P.globals[g]?).map (·.type) = some t) (ht : P.underlying t = some (.array n e)) (he : P.underlying e = some .string) (hce : P.cellsOf e = 1) (hct : P.cellsOf t = n)
    (h : laidMet P ((name, strData zs) :: rest) W) : W.var? P name = some (zs.map strV).toArray := by
  obtain ⟨ps, ⟨g', t', cs, fuel, p, q, hg', ht', hvar, hd, _, _⟩, _⟩ := h
  obtain rfl := Option.some.inj (hg.symm.trans hg')
  obtain rfl := Option.some.inj (hty.symm.trans ht')
  rw [hvar, ← cells_of_strs ht he hce hct hd]
theorem words_in {W : World} (h : laidMet Tryz.prog laidL W) : gWords.holds W := by
  have h2 := h.tail.tail.tail
  have h3 := strs_of_head (g := 1) (t := 191) (e := 9) (n := 10) (zs := wordsL) (by kernel_rfl) (by kernel_rfl) (by kernel_rfl) (by kernel_rfl) (by kernel_rfl) (by kernel_rfl) h2
  refine ⟨fun u hu => (by obtain ⟨x, _, rfl⟩ := List.mem_map.1 hu; rfl), ?_⟩
  show cellsAt W _ _
  intro j u hj
  have h4 := World.var?_cell (i := j) (show Tryz.prog.globalNamed "hindcast/lex.words" = some 1 by kernel_rfl) h3
  have hadd : (⟨1, 0, none⟩ : Addr).add j = ⟨1, 0 + j, none⟩ := by unfold Addr.add; split <;> simp_all
  rw [hadd, Nat.zero_add, h4]
  simpa using hj
theorem hs_ro {W : World} : ∀ {hp : Hp}, (∀ c ∈ hp, ¬ c.rw ∧ c.holds W) → HS hp W
  | [], h => ⟨(fun c hc => by cases hc), List.Pairwise.nil⟩
  | c :: hp, h => ⟨fun d hd => (h d hd).2, List.pairwise_cons.2 ⟨fun d hd => .inl ⟨(h c (List.mem_cons_self ..)).1, (h d (List.mem_cons_of_mem _ hd)).1⟩, (hs_ro fun d hd => h d (List.mem_cons_of_mem _ hd)).apart⟩⟩
end Go.Proofs.YtpfhleghgkeemaaGreatDoor
namespace Go.Proofs.YtpfhleghgkeemaaGreatDoor
open Go Go.Sx
/-! The document's heap: its calls tell another one. -/
theorem rNew_spec (m : Int) : Does Tryz.prog 36 [.int .i64 m] [] (fun v hp' => v = .agg #[.int .i64 (mostI m), .slice none 0 0] ∧ hp' = []) := by
  refine fn_enter Tryz.func36 rfl 7 rfl fun w0 h0 => ?_
  refine SQ (RG ?_)
  refine RP [] .z 2 .a .a 51 [.int .i64 0, .slice none 0 0] fun g1 => ?_
  refine RZ (NT (SQ (RG ?_)))
  refine RR [0, 0] .z (.k .z) (.i (.blk g1 51 [.int .i64 (if (if 4096 < m then 4096 else m) > 0 then if 4096 < m then 4096 else m else 0), .slice none 0 0]) .z) ?_
  refine RZ (NT (RE ?_))
  refine NE [] .z (.i (.blk g1 51 [.int .i64 (if (if 4096 < m then 4096 else m) > 0 then if 4096 < m then 4096 else m else 0), .slice none 0 0]) .z) [0, 0] (.agg #[.int .i64 (if (if 4096 < m then 4096 else m) > 0 then if 4096 < m then 4096 else m else 0), .slice none 0 0]) ?_
  exact ⟨rfl, rfl⟩
theorem rUsed_spec (most : Int) (a : Option Addr) (c : Nat) (l : List Ob) (hl : l.length ≤ 1048576) (hu : usedO (l.map Ob.o) ≤ 1099511627776) :
    Does Tryz.prog 31 [.agg #[.int .i64 most, .slice a l.length c]] [ro a (l.flatMap objC)] (fun v hp' => v = .int .i64 (usedO (l.map Ob.o) : Nat) ∧ hp' = []) := by
  refine fn_enter Tryz.func31 rfl 23 rfl fun w0 h0 => ?_
  refine SQ (RG ?_)
  refine RP [] (.d .a) 1 .z .a 51 [.int .i64 most, .slice a l.length c] fun g1 => ?_
  refine RR [] .z (.i 2 (.int .i64 0) .a) (.k (.i (.blk g1 51 [.int .i64 most, .slice a l.length c]) .z)) ?_
  refine RZ (NT (SQ (RG ?_)))
  refine RR [] .z (.i 3 (.int .i64 0) .a) (.k (.i (.blk g1 51 [.int .i64 most, .slice a l.length c]) .z)) ?_
  refine RZ (NT (SQ (SQ (RG ?_))))
  refine RR [] .z (.i 4 (.int .i64 0) .a) (.k (.i (.blk g1 51 [.int .i64 most, .slice a l.length c]) .z)) ?_
  refine RZ (NT (BK ?_))
  refine wpc_loop (X := {i : Nat // i ≤ l.length}) (fun x => St.mk [(4, .int .i64 (x.1 : Int)), (3, .int .i64 (usedO ((l.take x.1).map Ob.o) : Nat)), (2, .int .i64 0), (1, .pointer (some ⟨g1, 0, none⟩))] [ro a (l.flatMap objC), .blk g1 51 [.int .i64 most, .slice a l.length c]]) (fun x => l.length - x.1) ⟨0, Nat.zero_le _⟩ (ent_fr (by kernel_rfl)) ?_
  rintro ⟨i, hi⟩
  dsimp only at hi ⊢
  by_cases hlt : i < l.length
  · have hsn : usedO ((l.take (i + 1)).map Ob.o) = usedO ((l.take i).map Ob.o) + (l[i].cells.length + 1) := by
      rw [take_snoc Ob.o hlt, usedO_snoc]; rfl
    have hle : usedO ((l.take (i + 1)).map Ob.o) ≤ usedO (l.map Ob.o) := by
      rw [← usedO_eq, ← usedO_eq, List.map_take]; exact usedN_le _ _
    refine wpc_fact (fun w h => ro_addr h 0 rfl (by rw [objs_len]; omega)) ?_
    rintro ⟨g0, o0, rfl⟩
    refine SQ (SQ (RG ?_))
    refine RR [1] .z (.i 9 (.bool (decide ((↑i : Int) < (↑l.length : Int)))) .a) (.k (.i (.blk g1 51 [.int .i64 most, .slice (some ⟨g0, o0, none⟩) l.length c]) .z)) ?_
    refine RZ (NT ?_)
    refine SC 9 (decide ((↑i : Int) < (↑l.length : Int))) true (decide_eq_true (by omega)) ?_
    refine CT (SK (NT (SQ (BK (RG ?_)))))
    refine RV true [1] (.d (.d (.d (.d (.d (.d (.d .a))))))) (.i 18 (.pointer (some ⟨g0, o0 + i * 2 + 1, none⟩)) (.i 13 (.int .i64 ((↑(usedO (List.map Ob.o (List.take i l))) : Int) + 1)) (.d (.d (.k .a))))) (.k (.i (.blk g1 51 [.int .i64 most, .slice (some ⟨g0, o0, none⟩) l.length c]) .z)) ([inI64 ((↑(usedO (List.map Ob.o (List.take i l))) : Int) + (1 : Int)), (0 : Int) ≤ (↑i : Int) ∧ (↑i : Int) < (↑l.length : Int)]) ⟨by unfold inI64; omega, by omega, trivial⟩ ?_
    refine wpr_eq (ld (t := 25) (a := ⟨g0, o0 + i * 2 + 1, none⟩) (dst := some 19) (by kernel_rfl) false 1 (by kernel_rfl) (by simp) [.slice l[i].a l[i].cells.length l[i].c] rfl (fun w h => ld_ro h 0 rfl (i * 2 + 1) (obj_fld hlt 1 1 (by decide)))) ?_
    refine RV true [] .z (.i 3 (.int .i64 ((↑(usedO (List.map Ob.o (List.take i l))) : Int) + 1 + (↑l[i].cells.length : Int))) (.d (.d (.d (.k (.d (.k .a))))))) (.k (.i (.blk g1 51 [.int .i64 most, .slice (some ⟨g0, o0, none⟩) l.length c]) .z)) ([inI64 ((↑(usedO (List.map Ob.o (List.take i l))) : Int) + (1 : Int) + (↑l[i].cells.length : Int))]) ⟨by unfold inI64; omega, trivial⟩ ?_
    refine RZ (BN (NT (RG ?_)))
    refine RV true [] .z (.i 4 (.int .i64 ((↑i : Int) + 1)) (.k (.d (.k .a)))) (.k (.i (.blk g1 51 [.int .i64 most, .slice (some ⟨g0, o0, none⟩) l.length c]) .z)) ([inI64 ((↑i : Int) + (1 : Int))]) ⟨by unfold inI64; omega, trivial⟩ ?_
    refine RZ ?_
    rw [show ((usedO ((l.take i).map Ob.o) : Nat) : Int) + 1 + (l[i].cells.length : Int) = ((usedO ((l.take (i + 1)).map Ob.o) : Nat) : Int) by rw [hsn]; omega]
    exact fun a' w' hS' => ⟨⟨i + 1, hlt⟩, by dsimp only; omega, ent_fr (by kernel_rfl) _ _ (ent_hp [0, 0] rfl _ _ hS')⟩
  · obtain rfl : i = l.length := by omega
    refine SQ (SQ (RG ?_))
    refine RR [1] .z (.i 9 (.bool (decide ((↑l.length : Int) < (↑l.length : Int)))) .a) (.k (.i (.blk g1 51 [.int .i64 most, .slice a l.length c]) .z)) ?_
    refine RZ (NT ?_)
    refine SC 9 (decide ((↑l.length : Int) < (↑l.length : Int))) false (by simp) ?_
    refine CF (EX (TE (TE (BH (NT (SQ (RG ?_)))))))
    refine RR [] .z (.i 2 (.int .i64 (↑(usedO (List.map Ob.o (List.take l.length l))) : Int)) .z) (.k (.i (.blk g1 51 [.int .i64 most, .slice a l.length c]) .z)) ?_
    refine RZ (NT (RE ?_))
    refine NE [] .z (.k (.i (.blk g1 51 [.int .i64 most, .slice a l.length c]) .z)) [] (.int .i64 (↑(usedO (List.map Ob.o (List.take l.length l))) : Int)) ?_
    exact ⟨by rw [List.take_length], rfl⟩
theorem val_fld {l : List V} {q : Nat} (hq : q < l.length) (k m : Nat) (h : k + m ≤ 3) : ((l.flatMap valC).drop (q * 3 + k)).take m = ((valC l[q]).drop k).take m := by
  rw [← vals_at hq, List.drop_take, List.drop_drop, List.take_take, Nat.min_eq_left (by omega)]
theorem rcells_spec (a : Option Addr) (c : Nat) (l : List V) (m : Int) (hl : l.length ≤ 1048576) (hs : smL l) :
    Does Tryz.prog 58 [.slice a l.length c, .int .i64 m] [ro a (l.flatMap valC)] (fun v hp' => v = .bool (l.all (cellB m)) ∧ hp' = []) := by
  refine fn_enter Tryz.func58 rfl 27 rfl fun w0 h0 => ?_
  refine SQ (RG ?_)
  refine RR [] .z (.i 4 (.bool false) .a) .a ?_
  refine RZ (NT (SQ (SQ (RG ?_))))
  refine RR [] .z (.i 5 (.int .i64 0) .a) .a ?_
  refine RZ (NT (BK ?_))
  refine wpc_loop (X := {i : Nat // i ≤ l.length ∧ (l.take i).all (cellB m) = true}) (fun x => St.mk [(5, .int .i64 (x.1 : Int)), (4, .bool false), (0, .slice a l.length c), (1, .int .i64 m)] [ro a (l.flatMap valC)]) (fun x => l.length - x.1) ⟨0, Nat.zero_le _, rfl⟩ (ent_fr (by kernel_rfl)) ?_
  rintro ⟨i, hi, he⟩
  dsimp only at hi he ⊢
  by_cases hlt : i < l.length
  · refine wpc_fact (fun w h => ro_addr h 0 rfl (by rw [vals_len]; omega)) ?_
    rintro ⟨g0, o0, rfl⟩
    have hbad : cellB m l[i] = false → l.all (cellB m) = false := fun h => by
      cases hx : l.all (cellB m) with
      | false => rfl
      | true => rw [List.all_eq_true.1 hx _ (List.getElem_mem hlt)] at h; cases h
    have hR := Right_spec l[i] m (hs _ (List.getElem_mem hlt))
    unfold valV at hR
    refine SQ (SQ (RG ?_))
    refine RR [] .z (.i 9 (.bool (decide ((↑i : Int) < (↑l.length : Int)))) .a) .a ?_
    refine RZ (NT ?_)
    refine SC 9 (decide ((↑i : Int) < (↑l.length : Int))) true (decide_eq_true (by omega)) ?_
    refine CT (SK (NT (SQ (BK (SQ (RG ?_))))))
    refine RV true [] (.d (.d (.d .a))) (.i 14 (.pointer (some ⟨g0, o0 + i * 3, none⟩)) (.d (.d (.k .a)))) .a [(0 : Int) ≤ (↑i : Int) ∧ (↑i : Int) < (↑l.length : Int)] ⟨by omega, trivial⟩ ?_
    refine wpr_eq (ld (t := 28) (a := ⟨g0, o0 + i * 3, none⟩) (dst := some 15) (by kernel_rfl) true 3 (by kernel_rfl) (by simp) (valC l[i]) rfl (fun w h => ld_ro h 0 rfl (i * 3) (vals_at hlt))) ?_
    refine RR [] (.d .a) (.i 16 (.int .i64 m) (.i 15 (.agg #[.int .i64 l[i].k, .int .i64 l[i].n, .string (mkS l[i].s)]) (.d (.d (.k .a))))) .a ?_
    refine RC (dst := some 17) [] .a (hR) ?_
    rintro r _ ⟨rfl, rfl⟩
    cases hr : rightB l[i] m with
    | false =>
      refine RR [] .z (.i 26 (.bool true) (.d (.d (.d (.k .a))))) .a ?_
      refine RZ (NT (CT (SQ (RG ?_))))
      refine RR [] .z (.i 4 (.bool false) (.d (.k (.d (.k .a))))) .a ?_
      refine RZ (NT (RE (BR (TR (TR (BR (TR ?_)))))))
      refine NE [] .z .a [] (.bool false) ?_
      exact ⟨by rw [hbad (by unfold cellB; rw [hr]; simp)], rfl⟩
    | true =>
      refine RV true [] (.d (.d (.d (.d (.d (.d .a)))))) (.i 23 (.pointer (some ⟨g0, o0 + i * 3, none⟩)) (.i 19 (.bool false) (.d (.d (.d (.k .a)))))) .a [(0 : Int) ≤ (↑i : Int) ∧ (↑i : Int) < (↑l.length : Int)] ⟨by omega, trivial⟩ ?_
      refine wpr_eq (ld (t := 26) (a := ⟨g0, o0 + i * 3, none⟩) (dst := some 24) (by kernel_rfl) false 1 (by kernel_rfl) (by simp) [.int .i64 l[i].k] rfl (fun w h => ld_ro h 0 rfl (i * 3 + 0) (val_fld hlt 0 1 (by decide)))) ?_
      by_cases hk : l[i].k = 0
      · refine RR [] .z (.i 26 (.bool (l[i].k == (0 : Int))) (.d (.d (.d (.k .a))))) .a ?_
        refine RZ (NT ?_)
        refine SC 26 (l[i].k == (0 : Int)) true (by simp only [bne_iff_ne, beq_iff_eq, ne_eq]; omega) ?_
        refine CT (SQ (RG ?_))
        refine RR [] .z (.i 4 (.bool false) (.d (.d (.k (.d (.k .a)))))) .a ?_
        refine RZ (NT (RE (BR (TR (TR (BR (TR ?_)))))))
        refine NE [] .z .a [] (.bool false) ?_
        exact ⟨by rw [hbad (by unfold cellB; rw [hr, hk]; rfl)], rfl⟩
      · refine RR [] .z (.i 26 (.bool (l[i].k == (0 : Int))) (.d (.d (.d (.k .a))))) .a ?_
        refine RZ (NT ?_)
        refine SC 26 (l[i].k == (0 : Int)) false (by simp only [bne_eq_false_iff_eq, beq_eq_false_iff_ne, ne_eq]; omega) ?_
        refine CF (SK (BN (NT (RG ?_))))
        refine RV true [] .z (.i 5 (.int .i64 ((↑i : Int) + 1)) (.d (.d (.d (.k .a))))) .a ([inI64 ((↑i : Int) + (1 : Int))]) ⟨by unfold inI64; omega, trivial⟩ ?_
        refine RZ ?_
        exact fun a' w' hS' => ⟨⟨i + 1, hlt, by
                  rw [← List.take_append_getElem hlt, List.all_append, he]
                  simp [cellB, hr, hk]⟩, by dsimp only; omega, ent_fr (by kernel_rfl) _ _ (ent_hp [0] rfl _ _ hS')⟩
  · obtain rfl : i = l.length := by omega
    refine SQ (SQ (RG ?_))
    refine RR [] .z (.i 9 (.bool (decide ((↑l.length : Int) < (↑l.length : Int)))) .a) .a ?_
    refine RZ (NT ?_)
    refine SC 9 (decide ((↑l.length : Int) < (↑l.length : Int))) false (by simp) ?_
    refine CF (EX (TE (TE (BH (NT (SQ (RG ?_)))))))
    refine RR [] .z (.i 4 (.bool true) .z) .a ?_
    refine RZ (NT (RE ?_))
    refine NE [] .z .a [] (.bool true) ?_
    exact ⟨by rw [List.take_length] at he; rw [he], rfl⟩
theorem rown_spec (a : Option Addr) (c : Nat) (l : List V) (ha : a = none → l = []) (hl : l.length ≤ 1048576) :
    Does Tryz.prog 59 [.slice a l.length c] [ro a (l.flatMap valC)] (fun r hp' => ∃ a' c', (a' = none → l = []) ∧ l.length ≤ c' ∧ r = .slice a' l.length c' ∧ hp' = [row 28 3 a' l.length c' (l.flatMap valC)]) := by
  refine fn_enter Tryz.func59 rfl 6 rfl fun w0 h0 => ?_
  refine SQ (RG ?_)
  refine RR [] .z (.i 2 (.slice none 0 0) .a) .a ?_
  refine RZ (NT (SQ (RG ?_)))
  refine RN [] (.d .a) 3 (fun g1 => (.slice (some ⟨g1, 0, none⟩) 0 0)) .a .a 28 [] fun g1 => ?_
  refine RR [] (.d .a) (.i 4 (.slice a l.length c) (.k (.k .z))) (.k (.i (.blk g1 28 []) .z)) ?_
  refine wpr_ent (ent_turn 1 (row 28 3 (some ⟨g1, 0, none⟩) 0 0 []) rfl (turn_blk rfl (by intro u hu; cases hu) (by simp)) rfl) ?_
  refine wpr_app (a := (some ⟨g1, 0, none⟩)) (n := 0) (cap := 0) (x := (.slice a l.length c)) (t := 25) (xt := 25) (dst := some 5) (by kernel_rfl) (e := 28) (sz := 3) (bytes := 32) (by kernel_rfl) 1 (xs := []) (by kernel_rfl) (m := (l.length)) (news := (l.flatMap valC)) (fun w h => src_ro h 0 rfl (vals_len l) (fun e => by rw [ha e]; rfl)) (by unfold maxLen; omega) (by omega) ?_
  intro a1 c1 hn
  simp only [List.nil_append, Nat.zero_add]
  refine RR [] .z (.i 2 (.slice a1 l.length c1) .z) .a ?_
  refine RZ (NT (RE ?_))
  refine nx_fact (fun w h => row_cap h 1 rfl) fun hcap => ?_
  refine NE [1] (.d (.k .a)) (.k .z) [] (.slice a1 l.length c1) ?_
  exact ⟨a1, c1, (fun e => nomatch (hn.1 e).1), hcap.2.1, rfl, rfl⟩
end Go.Proofs.YtpfhleghgkeemaaGreatDoor
namespace Go.Proofs.YtpfhleghgkeemaaGreatDoor
open Go Go.Sx
theorem rLoad_spec (m : Int) (a : Option Addr) (c : Nat) (l : List Ob) (hl : l.length ≤ 1048576) (hs : smO l) (hu : usedO (l.map Ob.o) ≤ 1099511627776) :
    Does Tryz.prog 29 [.int .i64 m, .slice a l.length c] [ro a (l.flatMap objC), gBag l]
      (fun r hp' => if okObs l.length l = false then r = .tuple #[.agg #[.int .i64 0, .slice none 0 0], .int .i64 2] ∧ hp' = []
        else if (usedO (l.map Ob.o) : Int) ≤ mostI m then ∃ a' c' l', l'.map Ob.o = l.map Ob.o ∧ r = .tuple #[.agg #[.int .i64 (mostI m), .slice a' l'.length c'], .int .i64 0] ∧ hp' = [heapR a' c' l', heapS l']
        else r = .tuple #[.agg #[.int .i64 0, .slice none 0 0], .int .i64 12] ∧ hp' = []) := by
  have hmo := mostI_le m
  unfold heapR heapS
  refine fn_enter Tryz.func29 rfl 67 rfl fun w0 h0 => ?_
  refine SQ (RG ?_)
  refine RP [] (.d .a) 4 .a .a 51 [.int .i64 0, .slice none 0 0] fun g1 => ?_
  refine RR [] .z (.i 5 (.int .i64 0) .a) .a ?_
  refine RZ (NT (SQ (RG ?_)))
  refine RR [] (.d .a) (.i 8 (.int .i64 m) (.k (.k (.d (.k .a))))) .a ?_
  refine RC (dst := some 9) [] .a (rNew_spec m) ?_
  rintro r _ ⟨rfl, rfl⟩
  refine RP [] (.d .a) 6 (.k (.d (.k .a))) .a 51 [.int .i64 0, .slice none 0 0] fun g2 => ?_
  refine RR [3, 3] .z (.k (.d (.k .a))) (.k (.k (.k (.u (.i (.int .i64 (mostI m)) (.d (.k .a))) .a)))) ?_
  refine RZ (NT (SQ (SQ (RG ?_))))
  refine RR [] .z (.i 7 (.int .i64 0) .a) .a ?_
  refine RZ (NT (BK ?_))
  obtain ⟨M, hM⟩ : ∃ M, M = mostI m := ⟨_, rfl⟩
  rw [← hM] at hmo ⊢
  refine wpc_loop (X := {x : Nat × Option Addr × Nat × List Ob // ∃ h : x.1 ≤ l.length, x.2.2.2.map Ob.o = (l.take x.1).map Ob.o ∧ ∀ j, (hj : j < x.1) → objB l.length (l[j]'(by omega)).tag (l[j]'(by omega)).cells = true}) (fun x => St.mk [(7, .int .i64 (x.1.1 : Int)), (6, .pointer (some ⟨g2, 0, none⟩)), (5, .int .i64 0), (4, .pointer (some ⟨g1, 0, none⟩)), (1, .slice a l.length c)]
    [row 43 2 x.1.2.1 x.1.2.2.2.length x.1.2.2.1 (x.1.2.2.2.flatMap objC), star (x.1.2.2.2.map obRow), ro a (l.flatMap objC), gBag l, .blk g1 51 [.int .i64 0, .slice none 0 0], .blk g2 51 [.int .i64 M, .slice x.1.2.1 x.1.2.2.2.length x.1.2.2.1]]) (fun x => l.length - x.1.1) ⟨(0, none, 0, []), Nat.zero_le _, rfl, fun j h => absurd h (Nat.not_lt_zero _)⟩ ?_ ?_
  · exact Ent.trans (ent_star_nil) (Ent.trans (ent_nil 43 2) (Ent.trans (ent_hp [0, 0, 0, 0, 0, 0] rfl) (ent_fr (by kernel_rfl))))
  rintro ⟨⟨i, a1, c1, l1⟩, hi, hm, hall⟩
  dsimp only at hi hm hall ⊢
  have hlen : l1.length = i := by have := congrArg List.length hm; simpa [List.length_take, Nat.min_eq_left hi] using this
  by_cases hlt : i < l.length
  · refine wpc_fact (fun w h => ro_addr h 2 rfl (by rw [objs_len]; omega)) ?_
    rintro ⟨g0, o0, rfl⟩
    refine wpc_fact (fun w h => gob_nil h (i := 3) rfl hlt) fun hnil => ?_
    obtain ⟨s1, s2, s3, s4⟩ := hs l[i] (List.getElem_mem hlt)
    have hno : objB l.length l[i].tag l[i].cells = false → okObs l.length l = false := fun hob => by
      cases h : okObs l.length l with
      | false => rfl
      | true =>
        have h2 := List.all_eq_true.1 h l[i] (List.getElem_mem hlt)
        rw [hob] at h2; cases h2
    refine SQ (SQ (RG ?_))
    refine RR [] .z (.i 13 (.bool (decide ((↑i : Int) < (↑l.length : Int)))) .a) .a ?_
    refine RZ (NT ?_)
    refine SC 13 (decide ((↑i : Int) < (↑l.length : Int))) true (decide_eq_true (by omega)) ?_
    refine CT (SK (NT (SQ (BK (SQ (SQ (RG ?_)))))))
    refine RV true [] (.d (.d (.d (.d .a)))) (.i 19 (.pointer (some ⟨g0, o0 + i * 2, none⟩)) (.d (.d (.k .a)))) .a [(0 : Int) ≤ (↑i : Int) ∧ (↑i : Int) < (↑l.length : Int)] ⟨by omega, trivial⟩ ?_
    refine wpr_eq (ld (t := 9) (a := ⟨g0, o0 + i * 2, none⟩) (dst := some 20) (by kernel_rfl) false 1 (by kernel_rfl) (by simp) [.string (mkS l[i].tag)] rfl (fun w h => ld_ro h 2 rfl (i * 2 + 0) (obj_fld hlt 0 1 (by decide)))) ?_
    refine RR [] (.d (.d .a)) (.i 22 (.bool !decide (l[i].tag = [])) (.d (.d (.k .a)))) .a ?_
    have hce := rcells_spec l[i].a l[i].c l[i].cells l.length s3 s4
    have hnm := rName_spec l[i].tag s1
    refine wpr_join ⟨[(41, .bool (!objB l.length l[i].tag l[i].cells)), (7, (.int .i64 (↑i : Int))), (6, (.pointer (some ⟨g2, 0, none⟩))), (5, (.int .i64 0)), (4, (.pointer (some ⟨g1, 0, none⟩))), (1, (.slice (some ⟨g0, o0, none⟩) l.length c))], [row 43 2 a1 l1.length c1 (List.flatMap objC l1), star (List.map obRow l1), ro (some ⟨g0, o0, none⟩) (List.flatMap objC l), gBag l, .blk g1 51 [.int .i64 0, .slice none 0 0], .blk g2 51 [.int .i64 M, .slice a1 l1.length c1]]⟩ (fun Q1 hQ1 hk => ?_) ?_
    · by_cases htag : l[i].tag = []
      · rw [show objB l.length l[i].tag l[i].cells = l[i].cells.all (cellB l.length) by simp [objB, htag]] at hk
        refine SR 22 (!decide (l[i].tag = [])) false (by simp [htag]) ?_
        refine RV true [] (.d (.d (.d (.d (.d (.d (.d (.d (.d (.d (.d (.d (.d .a))))))))))))) (.i 35 (.pointer (some ⟨g0, o0 + i * 2 + 1, none⟩)) (.i 31 (.bool false) (.d (.d (.k .a))))) .a [(0 : Int) ≤ (↑i : Int) ∧ (↑i : Int) < (↑l.length : Int)] ⟨by omega, trivial⟩ ?_
        refine wpr_eq (ld (t := 25) (a := ⟨g0, o0 + i * 2 + 1, none⟩) (dst := some 36) (by kernel_rfl) false 1 (by kernel_rfl) (by simp) [.slice l[i].a l[i].cells.length l[i].c] rfl (fun w h => ld_ro h 2 rfl (i * 2 + 1) (obj_fld hlt 1 1 (by decide)))) ?_
        refine RR [] (.d (.d .a)) (.i 38 (.int .i64 (↑l.length : Int)) (.i 36 (.slice l[i].a l[i].cells.length l[i].c) (.d (.d (.k .a))))) .a ?_
        refine wpr_ent (ent_copy 3 (ro l[i].a (l[i].cells.flatMap valC)) rfl (fun h => h) (view_in (obRo_in hlt) view_ro)) ?_
        refine RCG (dst := some 39) .a (hce) (GV (GI []) 0 view_ro) ?_
        rintro r _ ⟨rfl, rfl⟩
        refine RR [] .z (.i 41 (.bool !l[i].cells.all (cellB (↑l.length : Int))) (.d (.d (.d (.d (.k .a)))))) .a ?_
        refine RZ ?_
        exact nx_ent (ent_hp [1, 1, 1, 1, 1, 1] rfl) (nx_ent (ent_fr (by kernel_rfl)) hk)
      · refine SR 22 (!decide (l[i].tag = [])) true (by simp [htag]) ?_
        refine RV true [] (.d (.d (.d (.d .a)))) (.i 26 (.pointer (some ⟨g0, o0 + i * 2, none⟩)) (.k (.d (.k .a)))) .a [(0 : Int) ≤ (↑i : Int) ∧ (↑i : Int) < (↑l.length : Int)] ⟨by omega, trivial⟩ ?_
        refine wpr_eq (ld (t := 9) (a := ⟨g0, o0 + i * 2, none⟩) (dst := some 27) (by kernel_rfl) false 1 (by kernel_rfl) (by simp) [.string (mkS l[i].tag)] rfl (fun w h => ld_ro h 2 rfl (i * 2 + 0) (obj_fld hlt 0 1 (by decide)))) ?_
        refine RC (dst := some 28) [] .a (hnm) ?_
        rintro r _ ⟨rfl, rfl⟩
        cases hnb : nameB l[i].tag with
        | false =>
          rw [show objB l.length l[i].tag l[i].cells = false by simp [objB, htag, hnb]] at hk
          refine RR [] .z (.i 41 (.bool true) (.d (.d (.d (.d (.k .a)))))) .a ?_
          refine RZ ?_
          exact nx_ent (ent_hp [0, 0, 0, 0, 0, 0] rfl) (nx_ent (ent_fr (by kernel_rfl)) hk)
        | true =>
          rw [show objB l.length l[i].tag l[i].cells = l[i].cells.all (cellB l.length) by simp [objB, hnb]] at hk
          refine RV true [] (.d (.d (.d (.d (.d (.d (.d .a))))))) (.i 35 (.pointer (some ⟨g0, o0 + i * 2 + 1, none⟩)) (.i 31 (.bool false) (.d (.d (.d (.d (.k .a))))))) .a [(0 : Int) ≤ (↑i : Int) ∧ (↑i : Int) < (↑l.length : Int)] ⟨by omega, trivial⟩ ?_
          refine wpr_eq (ld (t := 25) (a := ⟨g0, o0 + i * 2 + 1, none⟩) (dst := some 36) (by kernel_rfl) false 1 (by kernel_rfl) (by simp) [.slice l[i].a l[i].cells.length l[i].c] rfl (fun w h => ld_ro h 2 rfl (i * 2 + 1) (obj_fld hlt 1 1 (by decide)))) ?_
          refine RR [] (.d (.d .a)) (.i 38 (.int .i64 (↑l.length : Int)) (.i 36 (.slice l[i].a l[i].cells.length l[i].c) (.d (.d (.k .a))))) .a ?_
          refine wpr_ent (ent_copy 3 (ro l[i].a (l[i].cells.flatMap valC)) rfl (fun h => h) (view_in (obRo_in hlt) view_ro)) ?_
          refine RCG (dst := some 39) .a (hce) (GV (GI []) 0 view_ro) ?_
          rintro r _ ⟨rfl, rfl⟩
          refine RR [] .z (.i 41 (.bool !l[i].cells.all (cellB (↑l.length : Int))) (.d (.d (.d (.d (.k .a)))))) .a ?_
          refine RZ ?_
          exact nx_ent (ent_hp [1, 1, 1, 1, 1, 1] rfl) (nx_ent (ent_fr (by kernel_rfl)) hk)
    · cases hob : objB l.length l[i].tag l[i].cells with
      | false =>
        refine NT (CT (SQ (RG ?_)))
        refine RR [4, 4] .z (.i 5 (.int .i64 2) (.d (.k (.k (.d (.k .a)))))) .a ?_
        refine RZ (NT (RE (TR (BR (TR (TR (BR (TR ?_))))))))
        refine NE [] .z .a [4, 4] (.tuple #[.agg #[.int .i64 0, .slice none 0 0], .int .i64 2]) ?_
        rw [if_pos (hno hob)]
        exact ⟨rfl, rfl⟩
      | true =>
        refine NT (CF (SK (NT ?_)))
        refine wpc_draw (by kernel_rfl) [ro (some ⟨g0, o0, none⟩) (List.flatMap objC l)] (sub_of [2] (by kernel_rfl)) 18 (by kernel_rfl) ?_
        refine wpa_take true [(0, []), (2, []), (3, []), (4, []), (5, []), (7, []), (8, []), (9, []), (10, [])] ([(53, .pointer (some ⟨g0, o0 + i * 2 + 1, none⟩)), (48, .pointer (some ⟨g0, o0 + i * 2, none⟩)), (43, .pointer (some ⟨g2, 1, none⟩)), (7, .int .i64 (↑i : Int)), (6, .pointer (some ⟨g2, 0, none⟩)), (5, .int .i64 0), (4, .pointer (some ⟨g1, 0, none⟩)), (1, .slice (some ⟨g0, o0, none⟩) l.length c)]) (#[true, false, true, true, true, true, false, true, true, true, true, false, false, false, false, false, false, false]) [(0 : Int) ≤ (↑i : Int) ∧ (↑i : Int) < (↑l.length : Int), (0 : Int) ≤ (↑i : Int) ∧ (↑i : Int) < (↑l.length : Int)] (n := 9) (by kernel_rfl) (by kernel_rfl) (by kernel_rfl) ⟨by omega, by omega, trivial⟩ ?_
        refine wpa_qld (i := 6) (n := 8) (by kernel_rfl) (by kernel_rfl) (by kernel_rfl) (t := 9) (a := ⟨g0, o0 + i * 2, none⟩) (dst := some 49) (by kernel_rfl) false 1 (by kernel_rfl) (by simp) [.string (mkS l[i].tag)] rfl (fun w h => ld_roL h 0 rfl (i * 2 + 0) (obj_fld hlt 0 1 (by decide))) ?_
        refine wpa_qld (i := 11) (n := 7) (by kernel_rfl) (by kernel_rfl) (by kernel_rfl) (t := 25) (a := ⟨g0, o0 + i * 2 + 1, none⟩) (dst := some 54) (by kernel_rfl) false 1 (by kernel_rfl) (by simp) [.slice l[i].a l[i].cells.length l[i].c] rfl (fun w h => ld_roL h 0 rfl (i * 2 + 1) (obj_fld hlt 1 1 (by decide))) ?_
        refine wpa_ent (ent_copy 3 (ro l[i].a (l[i].cells.flatMap valC)) rfl (fun h => h) (view_in (obRo_in hlt) view_ro)) ?_
        refine wpa_joinx (X := {y : Option Addr × Nat × Ob // y.2.2.o = l[i].o}) (fun y => St.mk [(7, .int .i64 (i : Int)), (6, .pointer (some ⟨g2, 0, none⟩)), (5, .int .i64 0), (4, .pointer (some ⟨g1, 0, none⟩)), (1, .slice (some ⟨g0, o0, none⟩) l.length c)]
          [row 43 2 y.1.1 (l1 ++ [y.1.2.2]).length y.1.2.1 ((l1 ++ [y.1.2.2]).flatMap objC), star (l1.map obRow), obRow y.1.2.2, ro (some ⟨g0, o0, none⟩) (l.flatMap objC), gBag l, .blk g1 51 [.int .i64 0, .slice none 0 0], .blk g2 51 [.int .i64 M, .slice y.1.1 (l1 ++ [y.1.2.2]).length y.1.2.1]]) (fun Q1 hQ1 hk => ?_) ?_
        · refine wpa_two (i := 1) (j := 12) (n := 6) (by kernel_rfl) ?_ ?_
          · refine wpi_one (n := 6) true 1 [6] [(44, .slice a1 l1.length c1), (54, .slice l[i].a l[i].cells.length l[i].c), (49, .string (mkS l[i].tag)), (7, .int .i64 (↑i : Int)), (6, .pointer (some ⟨g2, 0, none⟩)), (5, .int .i64 0), (4, .pointer (some ⟨g1, 0, none⟩)), (1, .slice (some ⟨g0, o0, none⟩) l.length c)] [ro l[i].a (List.flatMap valC l[i].cells), row 43 2 a1 l1.length c1 (List.flatMap objC l1), star (List.map obRow l1), ro (some ⟨g0, o0, none⟩) (List.flatMap objC l), gBag l, .blk g1 51 [.int .i64 0, .slice none 0 0], .blk g2 51 [.int .i64 M, .slice a1 l1.length c1]] [] (by kernel_rfl) (by kernel_rfl) trivial (sub_of [3] (by kernel_rfl)) ?_
            refine AC (dst := some 55) 5 12 .a (rown_spec l[i].a l[i].c l[i].cells hnil s3) (GV (GI []) 0 view_ro) [3] ?_
            rintro r _ ⟨a2, c2, hn2, hc2, rfl, rfl⟩
            refine TK 4 [(13, [])] (.i 56 (.agg #[.string (mkS l[i].tag), .slice a2 l[i].cells.length c2]) (.d (.k (.d (.d (.k .a)))))) (#[true, true, true, true, true, true, true, true, true, true, true, true, true, true, false, false, false, false]) ?_
            refine wpa_new (n := 3) true 14 [] (fun g3 => [(57, .slice (some ⟨g3, 0, none⟩) 1 1), (44, .slice a1 l1.length c1), (7, .int .i64 (↑i : Int)), (6, .pointer (some ⟨g2, 0, none⟩)), (5, .int .i64 0), (4, .pointer (some ⟨g1, 0, none⟩)), (1, .slice (some ⟨g0, o0, none⟩) l.length c)]) (fun g3 => [row 28 3 a2 l[i].cells.length c2 (List.flatMap valC l[i].cells), ro l[i].a (List.flatMap valC l[i].cells), row 43 2 a1 l1.length c1 (List.flatMap objC l1), star (List.map obRow l1), ro (some ⟨g0, o0, none⟩) (List.flatMap objC l), gBag l, .blk g1 51 [.int .i64 0, .slice none 0 0], .blk g2 51 [.int .i64 M, .slice a1 l1.length c1], .blk g3 43 [.string (mkS l[i].tag), .slice a2 l[i].cells.length c2]]) (fun g3 => []) (by kernel_rfl) (fun g3 => by kernel_rfl) (fun g3 => by kernel_rfl) (fun g3 => trivial) (fun g3 => sub_of [4] (by kernel_rfl)) fun g3 => ?_
            refine wpa_ent (ent_turn 8 (ro (some ⟨g3, 0, none⟩) (objC (Ob.mk l[i].tag a2 c2 l[i].cells))) rfl (turn_rblk (l := objC (Ob.mk l[i].tag a2 c2 l[i].cells)) (obj_one _)) rfl) ?_
            refine wpa_app (i := 15) (nf := 2) (by kernel_rfl) (a := a1) (n := l1.length) (cap := c1) (x := (.slice (some ⟨g3, 0, none⟩) 1 1)) (t := 37) (xt := 37) (dst := some 58) (by kernel_rfl) (e := 43) (sz := 2) (bytes := 40) (by kernel_rfl) 2 (xs := (List.flatMap objC l1)) (by kernel_rfl) (m := 1) (news := (objC (Ob.mk l[i].tag a2 c2 l[i].cells))) (fun w h => src_ro h 8 rfl rfl (fun e => by cases e)) (by unfold maxLen; omega) (by omega) [3] (by kernel_rfl) ?_
            intro a3 c3 hn3
            rw [objs_snoc, objs_n1 l1 (Ob.mk l[i].tag a2 c2 l[i].cells)]
            refine TK 1 [(16, [])] (.i 59 (.pointer (some ⟨g2, 1, none⟩)) (.k (.d (.d (.k .a))))) (#[true, true, true, true, true, true, true, true, true, true, true, true, true, true, true, true, true, false]) ?_
            refine AO 0 17 [7] (.d (.d (.k .a))) (.k (.k (.k (.k (.k (.k (.k (.u (.k (.i (.slice a3 (l1 ++ [Ob.mk l[i].tag a2 c2 l[i].cells]).length c3) .z)) .a)))))))) [4] ?_
            refine wpa_done 0 (by kernel_rfl) ?_
            rw [show row 28 3 a2 l[i].cells.length c2 (l[i].cells.flatMap valC) = obRow (Ob.mk l[i].tag a2 c2 l[i].cells) from rfl]
            exact nx_ent (ent_hp [2, 2, 0, 1, 1, 1, 1] rfl) (nx_ent (ent_fr (by kernel_rfl)) (hk ⟨(a3, c3, Ob.mk l[i].tag a2 c2 l[i].cells), rfl⟩))
          · refine wpi_call (i := 12) (dst := some 55) (rest := [ro l[i].a (List.flatMap valC l[i].cells), row 43 2 a1 l1.length c1 (List.flatMap objC l1), star (List.map obRow l1), ro (some ⟨g0, o0, none⟩) (List.flatMap objC l), gBag l, .blk g1 51 [.int .i64 0, .slice none 0 0], .blk g2 51 [.int .i64 M, .slice a1 l1.length c1]]) (by kernel_rfl) (rown_spec l[i].a l[i].c l[i].cells hnil s3) (Give.view (c := (ro l[i].a (List.flatMap valC l[i].cells))) (give (pre := []) (rest := [ro l[i].a (List.flatMap valC l[i].cells), row 43 2 a1 l1.length c1 (List.flatMap objC l1), star (List.map obRow l1), ro (some ⟨g0, o0, none⟩) (List.flatMap objC l), gBag l, .blk g1 51 [.int .i64 0, .slice none 0 0], .blk g2 51 [.int .i64 M, .slice a1 l1.length c1]]) [] (by kernel_rfl)) 0 (by kernel_rfl) view_ro) (sub_of [3] (by kernel_rfl)) ?_
            rintro r _ ⟨a2, c2, hn2, hc2, rfl, rfl⟩
            refine TK 5 [(13, [])] (.i 56 (.agg #[.string (mkS l[i].tag), .slice a2 l[i].cells.length c2]) (.d (.d (.d (.d (.d (.k .a))))))) (#[true, false, true, true, true, true, true, true, true, true, true, true, true, true, false, false, false, false]) ?_
            refine wpa_two (i := 1) (j := 14) (n := 4) (by kernel_rfl) ?_ ?_
            · refine wpi_one (n := 4) true 1 [7] [(44, .slice a1 l1.length c1), (56, .agg #[.string (mkS l[i].tag), .slice a2 l[i].cells.length c2]), (7, .int .i64 (↑i : Int)), (6, .pointer (some ⟨g2, 0, none⟩)), (5, .int .i64 0), (4, .pointer (some ⟨g1, 0, none⟩)), (1, .slice (some ⟨g0, o0, none⟩) l.length c)] [row 28 3 a2 l[i].cells.length c2 (List.flatMap valC l[i].cells), ro l[i].a (List.flatMap valC l[i].cells), row 43 2 a1 l1.length c1 (List.flatMap objC l1), star (List.map obRow l1), ro (some ⟨g0, o0, none⟩) (List.flatMap objC l), gBag l, .blk g1 51 [.int .i64 0, .slice none 0 0], .blk g2 51 [.int .i64 M, .slice a1 l1.length c1]] [] (by kernel_rfl) (by kernel_rfl) trivial (sub_of [4] (by kernel_rfl)) ?_
              refine wpa_new (n := 3) true 14 [] (fun g3 => [(57, .slice (some ⟨g3, 0, none⟩) 1 1), (44, .slice a1 l1.length c1), (7, .int .i64 (↑i : Int)), (6, .pointer (some ⟨g2, 0, none⟩)), (5, .int .i64 0), (4, .pointer (some ⟨g1, 0, none⟩)), (1, .slice (some ⟨g0, o0, none⟩) l.length c)]) (fun g3 => [row 28 3 a2 l[i].cells.length c2 (List.flatMap valC l[i].cells), ro l[i].a (List.flatMap valC l[i].cells), row 43 2 a1 l1.length c1 (List.flatMap objC l1), star (List.map obRow l1), ro (some ⟨g0, o0, none⟩) (List.flatMap objC l), gBag l, .blk g1 51 [.int .i64 0, .slice none 0 0], .blk g2 51 [.int .i64 M, .slice a1 l1.length c1], .blk g3 43 [.string (mkS l[i].tag), .slice a2 l[i].cells.length c2]]) (fun g3 => []) (by kernel_rfl) (fun g3 => by kernel_rfl) (fun g3 => by kernel_rfl) (fun g3 => trivial) (fun g3 => sub_of [4] (by kernel_rfl)) fun g3 => ?_
              refine wpa_ent (ent_turn 8 (ro (some ⟨g3, 0, none⟩) (objC (Ob.mk l[i].tag a2 c2 l[i].cells))) rfl (turn_rblk (l := objC (Ob.mk l[i].tag a2 c2 l[i].cells)) (obj_one _)) rfl) ?_
              refine wpa_app (i := 15) (nf := 2) (by kernel_rfl) (a := a1) (n := l1.length) (cap := c1) (x := (.slice (some ⟨g3, 0, none⟩) 1 1)) (t := 37) (xt := 37) (dst := some 58) (by kernel_rfl) (e := 43) (sz := 2) (bytes := 40) (by kernel_rfl) 2 (xs := (List.flatMap objC l1)) (by kernel_rfl) (m := 1) (news := (objC (Ob.mk l[i].tag a2 c2 l[i].cells))) (fun w h => src_ro h 8 rfl rfl (fun e => by cases e)) (by unfold maxLen; omega) (by omega) [3] (by kernel_rfl) ?_
              intro a3 c3 hn3
              rw [objs_snoc, objs_n1 l1 (Ob.mk l[i].tag a2 c2 l[i].cells)]
              refine TK 1 [(16, [])] (.i 59 (.pointer (some ⟨g2, 1, none⟩)) (.k (.d (.d (.k .a))))) (#[true, true, true, true, true, true, true, true, true, true, true, true, true, true, true, true, true, false]) ?_
              refine AO 0 17 [7] (.d (.d (.k .a))) (.k (.k (.k (.k (.k (.k (.k (.u (.k (.i (.slice a3 (l1 ++ [Ob.mk l[i].tag a2 c2 l[i].cells]).length c3) .z)) .a)))))))) [4] ?_
              refine wpa_done 0 (by kernel_rfl) ?_
              rw [show row 28 3 a2 l[i].cells.length c2 (l[i].cells.flatMap valC) = obRow (Ob.mk l[i].tag a2 c2 l[i].cells) from rfl]
              exact nx_ent (ent_hp [2, 2, 0, 1, 1, 1, 1] rfl) (nx_ent (ent_fr (by kernel_rfl)) (hk ⟨(a3, c3, Ob.mk l[i].tag a2 c2 l[i].cells), rfl⟩))
            · refine wpi_new (n := 4) true 14 [] (fun g3 => [(57, .slice (some ⟨g3, 0, none⟩) 1 1), (43, .pointer (some ⟨g2, 1, none⟩)), (7, .int .i64 (↑i : Int)), (6, .pointer (some ⟨g2, 0, none⟩)), (5, .int .i64 0), (4, .pointer (some ⟨g1, 0, none⟩)), (1, .slice (some ⟨g0, o0, none⟩) l.length c)]) (fun g3 => [row 28 3 a2 l[i].cells.length c2 (List.flatMap valC l[i].cells), ro l[i].a (List.flatMap valC l[i].cells), row 43 2 a1 l1.length c1 (List.flatMap objC l1), star (List.map obRow l1), ro (some ⟨g0, o0, none⟩) (List.flatMap objC l), gBag l, .blk g1 51 [.int .i64 0, .slice none 0 0], .blk g2 51 [.int .i64 M, .slice a1 l1.length c1], .blk g3 43 [.string (mkS l[i].tag), .slice a2 l[i].cells.length c2]]) (fun g3 => []) (fun g3 => by kernel_rfl) (fun g3 => by kernel_rfl) (fun g3 => trivial) (fun g3 => sub_of [4] (by kernel_rfl)) fun g3 => ?_
              refine AO 3 1 [7] (.i 44 (.slice a1 l1.length c1) (.k (.d (.k .a)))) .a [4] ?_
              refine wpa_ent (ent_turn 8 (ro (some ⟨g3, 0, none⟩) (objC (Ob.mk l[i].tag a2 c2 l[i].cells))) rfl (turn_rblk (l := objC (Ob.mk l[i].tag a2 c2 l[i].cells)) (obj_one _)) rfl) ?_
              refine wpa_app (i := 15) (nf := 2) (by kernel_rfl) (a := a1) (n := l1.length) (cap := c1) (x := (.slice (some ⟨g3, 0, none⟩) 1 1)) (t := 37) (xt := 37) (dst := some 58) (by kernel_rfl) (e := 43) (sz := 2) (bytes := 40) (by kernel_rfl) 2 (xs := (List.flatMap objC l1)) (by kernel_rfl) (m := 1) (news := (objC (Ob.mk l[i].tag a2 c2 l[i].cells))) (fun w h => src_ro h 8 rfl rfl (fun e => by cases e)) (by unfold maxLen; omega) (by omega) [3] (by kernel_rfl) ?_
              intro a3 c3 hn3
              rw [objs_snoc, objs_n1 l1 (Ob.mk l[i].tag a2 c2 l[i].cells)]
              refine TK 1 [(16, [])] (.i 59 (.pointer (some ⟨g2, 1, none⟩)) (.k (.d (.d (.k .a))))) (#[true, true, true, true, true, true, true, true, true, true, true, true, true, true, true, true, true, false]) ?_
              refine AO 0 17 [7] (.d (.d (.k .a))) (.k (.k (.k (.k (.k (.k (.k (.u (.k (.i (.slice a3 (l1 ++ [Ob.mk l[i].tag a2 c2 l[i].cells]).length c3) .z)) .a)))))))) [4] ?_
              refine wpa_done 0 (by kernel_rfl) ?_
              rw [show row 28 3 a2 l[i].cells.length c2 (l[i].cells.flatMap valC) = obRow (Ob.mk l[i].tag a2 c2 l[i].cells) from rfl]
              exact nx_ent (ent_hp [2, 2, 0, 1, 1, 1, 1] rfl) (nx_ent (ent_fr (by kernel_rfl)) (hk ⟨(a3, c3, Ob.mk l[i].tag a2 c2 l[i].cells), rfl⟩))
        · rintro ⟨⟨a3, c3, o⟩, ho⟩
          dsimp only at ho ⊢
          refine BN (NT (RG ?_))
          refine RV true [] .z (.i 7 (.int .i64 ((↑i : Int) + 1)) (.d (.k .a))) .a ([inI64 ((↑i : Int) + (1 : Int))]) ⟨by unfold inI64; omega, trivial⟩ ?_
          refine RZ ?_
          refine nx_ent (Ent.trans (ent_hp [1, 1, 0, 0, 0, 0, 0] rfl) (ent_star_snoc trivial)) ?_
          rw [show l1.map obRow ++ [obRow o] = (l1 ++ [o]).map obRow by simp]
          exact fun a' w' hS' => ⟨⟨(i + 1, a3, c3, l1 ++ [o]), hlt, by rw [take_snoc Ob.o hlt, ← hm, List.map_append, ← ho]; rfl, fun j hj => by
                      rcases Nat.lt_or_ge j i with h | h
                      · exact hall j h
                      · obtain rfl : j = i := by omega
                        exact hob⟩, by dsimp only; omega, ent_fr (by kernel_rfl) _ _ (ent_hp [1, 0, 0, 0, 0, 0] rfl _ _ hS')⟩
  · obtain rfl : i = l.length := by omega
    have hok : okObs l.length l = true := List.all_eq_true.2 fun x hx => by
      obtain ⟨j, hj⟩ := List.getElem?_of_mem hx
      obtain ⟨hj1, rfl⟩ := List.getElem?_eq_some_iff.1 hj
      exact hall j (by omega)
    rw [List.take_length] at hm
    have hus := rUsed_spec M a1 c1 l1 (by omega) (by rw [hm]; exact hu)
    rw [hm] at hus
    rw [hok]
    refine SQ (SQ (RG ?_))
    refine RR [] .z (.i 13 (.bool (decide ((↑l.length : Int) < (↑l.length : Int)))) .a) .a ?_
    refine RZ (NT ?_)
    refine SC 13 (decide ((↑l.length : Int) < (↑l.length : Int))) false (by simp) ?_
    refine CF (EX (TE (TE (BH (NT (SQ (SQ ?_)))))))
    refine wpc_draw (by kernel_rfl) [.blk g2 51 [.int .i64 M, .slice a1 l1.length c1]] (sub_of [5] (by kernel_rfl)) 5 (by kernel_rfl) ?_
    refine TK 2 [(0, [0, 0]), (2, []), (3, [0])] (.i 63 (.int .i64 M) (.i 60 (.agg #[.int .i64 M, .slice a1 l1.length c1]) (.d (.d (.d (.k (.k (.k .z)))))))) (#[true, false, true, true, false]) ?_
    refine AC (dst := some 61) 1 1 .a (hus) (GV (GI []) 0 view_row) [5] ?_
    rintro r _ ⟨rfl, rfl⟩
    by_cases hf : (usedO (l.map Ob.o) : Int) ≤ M
    · refine TK 0 [(4, [])] (.i 64 (.bool (decide ((↑(usedO (List.map Ob.o l)) : Int) > M))) (.d (.d (.d (.k .a))))) (#[true, true, true, true, true]) ?_
      refine wpa_done 0 (by kernel_rfl) ?_
      refine NT ?_
      refine SC 64 (decide ((↑(usedO (List.map Ob.o l)) : Int) > M)) false (decide_eq_false (by omega)) ?_
      refine CF (SK (NT (SQ (RG ?_))))
      refine RR [5, 5, 4, 4] .z (.d (.d (.d (.k .a)))) (.k (.k (.k (.k (.u (.i (.int .i64 M) (.i (.slice a1 l1.length c1) .z)) .a))))) ?_
      refine RZ (NT (RE ?_))
      refine NE [0, 0] (.k (.k .z)) (.d (.d (.k .a))) [4, 4] (.tuple #[.agg #[.int .i64 M, .slice a1 l1.length c1], .int .i64 0]) ?_
      rw [if_neg (by simp), if_pos hf]
      exact ⟨a1, c1, l1, hm, rfl, rfl⟩
    · refine TK 0 [(4, [])] (.i 64 (.bool (decide ((↑(usedO (List.map Ob.o l)) : Int) > M))) (.d (.d (.d (.k .a))))) (#[true, true, true, true, true]) ?_
      refine wpa_done 0 (by kernel_rfl) ?_
      refine NT ?_
      refine SC 64 (decide ((↑(usedO (List.map Ob.o l)) : Int) > M)) true (decide_eq_true (by omega)) ?_
      refine CT (SQ (RG ?_))
      refine RR [4, 4] .z (.i 5 (.int .i64 12) (.d (.d (.k (.d (.k .a)))))) .a ?_
      refine RZ (NT (RE (TR ?_)))
      refine NE [] .z .a [4, 4] (.tuple #[.agg #[.int .i64 0, .slice none 0 0], .int .i64 12]) ?_
      rw [if_neg (by simp), if_neg hf]
      exact ⟨rfl, rfl⟩
end Go.Proofs.YtpfhleghgkeemaaGreatDoor
namespace Go.Proofs.YtpfhleghgkeemaaGreatDoor
open Go Go.Sx
theorem fold_spec (n : Int) (h1 : -9223372036854775808 ≤ n) (h2 : n ≤ 9223372036854775807) : Does Tryz.prog 106 [.int .i64 n] [] (fun v hp' => v = .int .u64 (foldN n) ∧ hp' = []) := by
  refine fn_enter Tryz.func106 rfl 10 rfl fun w0 h0 => ?_
  refine SQ (RG ?_)
  refine RR [] .z (.i 2 (.int .u64 0) .a) .a ?_
  refine RZ (NT (SQ (RG ?_)))
  refine RV true [] .z (.i 2 (.int .u64 (IntKind.wrap IntKind.u64 (↑(BitVec.toNat (BitVec.ofInt (IntKind.bits IntKind.u64) (IntKind.wrap IntKind.u64 (IntKind.wrap IntKind.u64 n * 2 ^ min (Int.toNat 1) (IntKind.bits IntKind.u64))) ^^^ BitVec.ofInt (IntKind.bits IntKind.u64) (IntKind.wrap IntKind.u64 (Int.fdiv n (2 ^ min (Int.toNat 63) (IntKind.bits IntKind.i64)))))) : Int))) .z) .a [(0 : Int) ≤ (1 : Int), (0 : Int) ≤ (63 : Int)] ⟨by omega, by omega, trivial⟩ ?_
  refine RZ (NT (RE ?_))
  refine NE [] .a .a [] (.int .u64 (IntKind.wrap IntKind.u64 (↑(BitVec.toNat (BitVec.ofInt (IntKind.bits IntKind.u64) (IntKind.wrap IntKind.u64 (IntKind.wrap IntKind.u64 n * 2 ^ min (Int.toNat 1) (IntKind.bits IntKind.u64))) ^^^ BitVec.ofInt (IntKind.bits IntKind.u64) (IntKind.wrap IntKind.u64 (Int.fdiv n (2 ^ min (Int.toNat 63) (IntKind.bits IntKind.i64)))))) : Int))) ?_
  exact ⟨congrArg _ (fold_math n h1 h2), rfl⟩
theorem unfold_spec (n : Int) (h1 : 0 ≤ n) (h2 : n < 18446744073709551616) : Does Tryz.prog 146 [.int .u64 n] [] (fun v hp' => v = .int .i64 (unfoldN n) ∧ hp' = []) := by
  refine fn_enter Tryz.func146 rfl 11 rfl fun w0 h0 => ?_
  refine SQ (RG ?_)
  refine RR [] .z (.i 2 (.int .i64 0) .a) .a ?_
  refine RZ (NT (SQ (RG ?_)))
  refine RV true [] .z (.i 2 (.int .i64 (IntKind.wrap IntKind.i64 (↑(BitVec.toNat (BitVec.ofInt (IntKind.bits IntKind.i64) (IntKind.wrap IntKind.i64 (Int.fdiv n (2 ^ min (Int.toNat 1) (IntKind.bits IntKind.u64)))) ^^^ BitVec.ofInt (IntKind.bits IntKind.i64) (IntKind.wrap IntKind.i64 (0 - IntKind.wrap IntKind.i64 (IntKind.wrap IntKind.u64 (↑(BitVec.toNat (BitVec.ofInt (IntKind.bits IntKind.u64) n &&& BitVec.ofInt (IntKind.bits IntKind.u64) 1)) : Int)))))) : Int))) .z) .a [(0 : Int) ≤ (1 : Int)] ⟨by omega, trivial⟩ ?_
  refine RZ (NT (RE ?_))
  refine NE [] .a .a [] (.int .i64 (IntKind.wrap IntKind.i64 (↑(BitVec.toNat (BitVec.ofInt (IntKind.bits IntKind.i64) (IntKind.wrap IntKind.i64 (Int.fdiv n (2 ^ min (Int.toNat 1) (IntKind.bits IntKind.u64)))) ^^^ BitVec.ofInt (IntKind.bits IntKind.i64) (IntKind.wrap IntKind.i64 (0 - IntKind.wrap IntKind.i64 (IntKind.wrap IntKind.u64 (↑(BitVec.toNat (BitVec.ofInt (IntKind.bits IntKind.u64) n &&& BitVec.ofInt (IntKind.bits IntKind.u64) 1)) : Int)))))) : Int))) ?_
  exact ⟨congrArg _ (unfold_math n h1 h2), rfl⟩
theorem rfold_spec (n : Int) (h1 : -9223372036854775808 ≤ n) (h2 : n ≤ 9223372036854775807) : Does Tryz.prog 144 [.int .i64 n] [] (fun v hp' => v = .int .u64 (foldN n) ∧ hp' = []) := by
  refine fn_enter Tryz.func144 rfl 14 rfl fun w0 h0 => ?_
  refine SQ (RG ?_)
  refine RR [] .z (.i 2 (.int .u64 0) .a) .a ?_
  refine RZ (NT (SQ (SQ (RG ?_))))
  refine RR [] .z (.i 4 (.bool (decide (n < (0 : Int)))) .a) .a ?_
  refine RZ (NT ?_)
  refine wpc_if ((n < 0)) (by kernel_rfl) (fun h => ?_) (fun h => ?_)
  · refine SQ (RG ?_)
    refine RV true [] .z (.i 2 (.int .u64 (IntKind.u64.wrap (IntKind.u64.wrap (IntKind.u64.wrap (IntKind.i64.wrap (0 - (n + 1))) * 2) + 1))) (.d (.d (.k .a)))) .a ([inI64 (n + (1 : Int))]) ⟨by unfold inI64; omega, trivial⟩ ?_
    refine RZ (NT (RE (TR ?_)))
    refine NE [] .a .a [] (.int .u64 (IntKind.u64.wrap (IntKind.u64.wrap (IntKind.u64.wrap (IntKind.i64.wrap (0 - (n + 1))) * 2) + 1))) ?_
    exact ⟨congrArg _ (by simp only [u64_wrap, i64_wrap, foldN]; rw [if_pos h]; split <;> omega), rfl⟩
  · refine SK (NT (SQ (RG ?_)))
    refine RR [] .z (.i 2 (.int .u64 (IntKind.u64.wrap (IntKind.u64.wrap n * 2))) .z) .a ?_
    refine RZ (NT (RE ?_))
    refine NE [] .a .a [] (.int .u64 (IntKind.u64.wrap (IntKind.u64.wrap n * 2))) ?_
    exact ⟨congrArg _ (by simp only [u64_wrap, foldN]; rw [if_neg h]; omega), rfl⟩
theorem runfold_spec (n : Int) (h1 : 0 ≤ n) (h2 : n < 18446744073709551616) : Does Tryz.prog 157 [.int .u64 n] [] (fun v hp' => v = .int .i64 (unfoldN n) ∧ hp' = []) := by
  refine fn_enter Tryz.func157 rfl 14 rfl fun w0 h0 => ?_
  have ht : n.tdiv 2 = n / 2 := Int.tdiv_eq_ediv_of_nonneg h1
  have hm : n.tmod 2 = n % 2 := Int.tmod_eq_emod_of_nonneg h1
  have hq0 : 0 ≤ n.tdiv 2 := by omega
  have hw1 : IntKind.i64.wrap (n.tdiv 2) = n / 2 := by rw [ht, i64_wrap]; split <;> omega
  have hw : IntKind.i64.wrap (0 - IntKind.i64.wrap (n.tdiv 2)) = - (n / 2) := by rw [hw1, i64_wrap]; split <;> omega
  refine SQ (RG ?_)
  refine RR [] .z (.i 2 (.int .i64 0) .a) .a ?_
  refine RZ (NT (SQ (SQ (RG ?_))))
  refine RV true [] .z (.i 5 (.bool (n.tmod (2 : Int) == (1 : Int))) .a) .a [(2 : Int) ≠ (0 : Int)] ⟨by omega, trivial⟩ ?_
  refine RZ (NT ?_)
  refine wpc_cond ((n.tmod 2 == 1)) (by kernel_rfl) (fun h => ?_) (fun h => ?_)
  · refine SQ (RG ?_)
    refine RV true [] .z (.i 2 (.int .i64 (IntKind.i64.wrap (0 - IntKind.i64.wrap (n.tdiv 2)) - 1)) (.d (.d (.k .a)))) .a [(2 : Int) ≠ (0 : Int) ∧ (0 : Int) ≤ n.tdiv (2 : Int) ∧ n.tdiv (2 : Int) < (18446744073709551616 : Int), inI64 (IntKind.i64.wrap ((0 : Int) - IntKind.i64.wrap (n.tdiv (2 : Int))) - (1 : Int))] ⟨by omega, by unfold inI64; omega, trivial⟩ ?_
    refine RZ (NT (RE (TR ?_)))
    refine NE [] .a .a [] (.int .i64 (IntKind.i64.wrap (0 - IntKind.i64.wrap (n.tdiv 2)) - 1)) ?_
    have h' : n % 2 = 1 := by rw [← hm]; simpa using h
    exact ⟨congrArg _ (by rw [hw, unfoldN, if_pos h']), rfl⟩
  · refine SK (NT (SQ (RG ?_)))
    refine RV true [] .z (.i 2 (.int .i64 (IntKind.i64.wrap (n.tdiv 2))) .z) .a [(2 : Int) ≠ (0 : Int) ∧ (0 : Int) ≤ n.tdiv (2 : Int) ∧ n.tdiv (2 : Int) < (18446744073709551616 : Int)] ⟨by omega, trivial⟩ ?_
    refine RZ (NT (RE ?_))
    refine NE [] .a .a [] (.int .i64 (IntKind.i64.wrap (n.tdiv 2))) ?_
    have h' : ¬ n % 2 = 1 := by rw [← hm]; simpa using h
    exact ⟨congrArg _ (by rw [hw1, unfoldN, if_neg h']), rfl⟩
def vb (f : Nat) : List UInt8 := if h : f < 128 then [UInt8.ofNat f] else UInt8.ofNat (f % 128 + 128) :: vb (f / 128)
termination_by f
decreasing_by omega
theorem vb_lt {f : Nat} (h : f < 128) : vb f = [UInt8.ofNat f] := by rw [vb, dif_pos h]
theorem vb_ge {f : Nat} (h : ¬ f < 128) : vb f = UInt8.ofNat (f % 128 + 128) :: vb (f / 128) := by rw [vb, dif_neg h]
theorem vb_len : ∀ (k f : Nat), f < 128 ^ (k + 1) → (vb f).length ≤ k + 1
  | 0, f, h => by rw [vb_lt (by simpa using h)]; simp
  | k + 1, f, h => by
    by_cases hf : f < 128
    · rw [vb_lt hf]; simp
    · rw [vb_ge hf, List.length_cons]
      have := vb_len k (f / 128) (by rw [Nat.div_lt_iff_lt_mul (by decide)]; rw [Nat.pow_succ] at h; exact h)
      omega
theorem vb_len10 {f : Nat} (h : f < 18446744073709551616) : (vb f).length ≤ 10 := vb_len 9 f (Nat.lt_of_lt_of_le h (by decide))
def encI (n : Int) : List UInt8 := vb (foldN n).toNat
theorem foldN_nn (n : Int) : 0 ≤ foldN n := by unfold foldN; split <;> omega
theorem foldN_lt {n : Int} (h1 : -9223372036854775808 ≤ n) (h2 : n ≤ 9223372036854775807) : foldN n < 18446744073709551616 := by unfold foldN; split <;> omega
theorem encI_len {n : Int} (h1 : -9223372036854775808 ≤ n) (h2 : n ≤ 9223372036854775807) : (encI n).length ≤ 10 := vb_len10 (by have := foldN_lt h1 h2; have := foldN_nn n; omega)
theorem u8_wrap (x : Int) : IntKind.u8.wrap x = x % 256 := by simp [IntKind.wrap, IntKind.signed, IntKind.bits]
set_option maxRecDepth 20000 in
theorem or128 : ∀ g : Nat, g < 256 → g ||| 128 = g % 128 + 128 := by decide
theorem or_math (f : Nat) : IntKind.u8.wrap ↑(BitVec.ofInt IntKind.u8.bits (IntKind.u8.wrap (f : Int)) ||| BitVec.ofInt IntKind.u8.bits 128).toNat = ((UInt8.ofNat (f % 128 + 128)).toNat : Int) := by
  have e8 : IntKind.u8.bits = 8 := rfl
  rw [e8, BitVec.toNat_or, u8_wrap, u8_wrap]
  have h1 : (BitVec.ofInt 8 ((f : Int) % 256)).toNat = f % 256 := by rw [BitVec.toNat_ofInt]; omega
  have h2 : (BitVec.ofInt 8 128).toNat = 128 := by decide
  rw [h1, h2, or128 _ (Nat.mod_lt _ (by decide)), UInt8.toNat_ofNat']
  omega
theorem low_math (f : Nat) (h : f < 128) : IntKind.u8.wrap (f : Int) = ((UInt8.ofNat f).toNat : Int) := by
  rw [u8_wrap, UInt8.toNat_ofNat']; omega
theorem shr7 (f : Nat) : (f : Int).fdiv (2 ^ min (Int.toNat 7) IntKind.u64.bits) = ((f / 128 : Nat) : Int) := by
  have e : (2 : Int) ^ min (Int.toNat 7) IntKind.u64.bits = 128 := by decide
  rw [e, Int.fdiv_eq_ediv_of_nonneg _ (by omega)]
  omega
structure PI (F : Nat) where
  f : Nat
  ys : List UInt8
  a : Option Addr
  c : Nat
  h : ys ++ vb f = vb F
  hf : f < 18446744073709551616
theorem PutInt_spec (a : Option Addr) (c : Nat) (bs : List UInt8) (n : Int) (h1 : -9223372036854775808 ≤ n) (h2 : n ≤ 9223372036854775807) (hl : bs.length ≤ 1099511627776) :
    Does Tryz.prog 67 [.slice a bs.length c, .int .i64 n] [row 5 1 a bs.length c (u8s bs)] (fun v hp' => ∃ a' c', v = .slice a' (bs ++ encI n).length c' ∧ hp' = [row 5 1 a' (bs ++ encI n).length c' (u8s (bs ++ encI n))]) := by
  refine fn_enter Tryz.func67 rfl 23 rfl fun w0 h0 => ?_
  obtain ⟨F, hF⟩ : ∃ F : Nat, (F : Int) = foldN n := ⟨(foldN n).toNat, Int.toNat_of_nonneg (foldN_nn n)⟩
  have hF2 : F < 18446744073709551616 := by have := foldN_lt h1 h2; omega
  have hE : encI n = vb F := by unfold encI; rw [← hF]; rfl
  refine SQ (RG ?_)
  refine RR [] .z (.i 4 (.slice none 0 0) .a) .a ?_
  refine RZ (NT (SQ (RG ?_)))
  refine RR [] (.d .a) (.i 6 (.int .i64 n) (.k (.k .z))) .a ?_
  refine RC (dst := some 7) [] .a (fold_spec n h1 h2) ?_
  rintro v hp' ⟨rfl, rfl⟩
  rw [← hF, hE]
  refine RR [] .z (.i 5 (.int .u64 (↑F : Int)) (.d (.d (.k .a)))) .a ?_
  refine RZ (NT (SQ (BK ?_)))
  refine wpc_loop (X := PI F) (fun x => St.mk [(5, .int .u64 (x.f : Int)), (0, .slice x.a (bs ++ x.ys).length x.c), (4, .slice none 0 0)] [row 5 1 x.a (bs ++ x.ys).length x.c (u8s (bs ++ x.ys))]) (fun x => x.f) ⟨F, [], a, c, rfl, hF2⟩ (by simp only [List.append_nil]; exact ent_fr (by kernel_rfl)) ?_
  rintro ⟨f, ys, a1, c1, hi, hf⟩
  dsimp only
  have hlen := congrArg List.length hi
  rw [List.length_append] at hlen
  have h10 := vb_len10 hF2
  have hL : (bs ++ ys).length = bs.length + ys.length := List.length_append
  refine SQ (SQ (RG ?_))
  refine RR [] .z (.i 9 (.bool (decide ((↑f : Int) ≥ (128 : Int)))) .a) .a ?_
  refine RZ (NT ?_)
  refine wpc_if (((↑f : Int) ≥ 128)) (by kernel_rfl) (fun hge => ?_) (fun hge => ?_)
  · have hv := vb_ge (f := f) (by omega)
    rw [hv] at hi
    rw [hv, List.length_cons] at hlen
    refine SK (NT (SQ (BK (RG ?_))))
    refine RN [] (.d (.d (.d (.d (.d .a))))) 16 (fun g1 => (.slice (some ⟨g1, 0, none⟩) 1 1)) (.i 12 (.slice a1 (bs ++ ys).length c1) (.d (.k .a))) .a 5 [.int .u8 (IntKind.u8.wrap (↑(BitVec.ofInt IntKind.u8.bits (IntKind.u8.wrap (↑f : Int)) ||| BitVec.ofInt IntKind.u8.bits 128).toNat : Int))] fun g1 => ?_
    refine wpr_ent (ent_turn 1 (ro (some ⟨g1, 0, none⟩) (u8s [UInt8.ofNat (f % 128 + 128)])) rfl (turn_ro [UInt8.ofNat (f % 128 + 128)] (by rw [or_math]; rfl)) rfl) ?_
    refine wpr_app (a := a1) (n := ((bs ++ ys).length)) (cap := c1) (x := (.slice (some ⟨g1, 0, none⟩) 1 1)) (t := 77) (xt := 77) (dst := some 17) (by kernel_rfl) (e := 5) (sz := 1) (bytes := 1) (by kernel_rfl) 0 (xs := (u8s (bs ++ ys))) (by kernel_rfl) (m := 1) (news := (u8s [UInt8.ofNat (f % 128 + 128)])) (fun w h => src_ro h 1 rfl rfl (fun e => by cases e)) (by unfold maxLen; omega) (by omega) ?_
    intro a2 c2 hn
    rw [show (bs ++ ys).length + 1 = (bs ++ (ys ++ [UInt8.ofNat (f % 128 + 128)])).length from by simp; omega, show u8s (bs ++ ys) ++ u8s [UInt8.ofNat (f % 128 + 128)] = u8s (bs ++ (ys ++ [UInt8.ofNat (f % 128 + 128)])) from by simp [u8s]]
    refine RR [] .z (.i 0 (.slice a2 (bs ++ (ys ++ [UInt8.ofNat (f % 128 + 128)])).length c2) (.d (.d (.d (.k (.d (.k .a))))))) .a ?_
    refine RZ (BN (NT (RG ?_)))
    refine RV true [] .z (.i 5 (.int .u64 (Int.fdiv (↑f : Int) (2 ^ min (Int.toNat 7) (IntKind.bits IntKind.u64)))) (.k (.d (.k .a)))) .a [(0 : Int) ≤ (7 : Int)] ⟨by omega, trivial⟩ ?_
    refine RZ ?_
    refine nx_ent (ent_set 5 (.int .u64 (Int.fdiv (↑f : Int) (2 ^ min (Int.toNat 7) (IntKind.bits IntKind.u64)))) (Value.int .u64 ((f / 128 : Nat) : Int)) (by kernel_rfl) (congrArg _ (shr7 f))) ?_
    exact fun a' w hS => ⟨⟨f / 128, ys ++ [UInt8.ofNat (f % 128 + 128)], a2, c2, by rw [List.append_assoc]; exact hi, by omega⟩, by dsimp only; omega, ent_fr (by kernel_rfl) _ _ (ent_hp [0] rfl _ _ hS)⟩
  · have hv := vb_lt (f := f) (by omega)
    rw [hv] at hi
    refine EX (TE (TE (BH (NT (SQ (RG ?_))))))
    refine RN [] (.d (.d (.d (.d .a)))) 21 (fun g1 => (.slice (some ⟨g1, 0, none⟩) 1 1)) (.i 18 (.slice a1 (bs ++ ys).length c1) (.d (.d (.d (.k .a))))) .a 5 [.int .u8 (IntKind.u8.wrap (↑f : Int))] fun g1 => ?_
    refine wpr_ent (ent_turn 1 (ro (some ⟨g1, 0, none⟩) (u8s [UInt8.ofNat f])) rfl (turn_ro [UInt8.ofNat f] (by rw [low_math f (by omega)]; rfl)) rfl) ?_
    refine wpr_app (a := a1) (n := ((bs ++ ys).length)) (cap := c1) (x := (.slice (some ⟨g1, 0, none⟩) 1 1)) (t := 77) (xt := 77) (dst := some 22) (by kernel_rfl) (e := 5) (sz := 1) (bytes := 1) (by kernel_rfl) 0 (xs := (u8s (bs ++ ys))) (by kernel_rfl) (m := 1) (news := (u8s [UInt8.ofNat f])) (fun w h => src_ro h 1 rfl rfl (fun e => by cases e)) (by unfold maxLen; omega) (by omega) ?_
    intro a2 c2 hn
    rw [show (bs ++ ys).length + 1 = (bs ++ vb F).length from by rw [← hi]; simp; omega, show u8s (bs ++ ys) ++ u8s [UInt8.ofNat f] = u8s (bs ++ vb F) from by rw [← hi]; simp [u8s]]
    refine RR [] .z (.i 4 (.slice a2 (bs ++ vb F).length c2) .z) .a ?_
    refine RZ (NT (RE ?_))
    refine NE [0] (.k .z) (.d (.k .a)) [] (.slice a2 (bs ++ vb F).length c2) ?_
    exact ⟨a2, c2, rfl, rfl⟩
theorem quo128 (f : Nat) : (f : Int).tdiv 128 = ((f / 128 : Nat) : Int) := by
  rw [Int.tdiv_eq_ediv_of_nonneg (by omega)]; omega
theorem add128 (f : Nat) : IntKind.u8.wrap (IntKind.u8.wrap ((f : Int).tmod 128) + 128) = ((UInt8.ofNat (f % 128 + 128)).toNat : Int) := by
  rw [Int.tmod_eq_emod_of_nonneg (by omega), u8_wrap, u8_wrap, UInt8.toNat_ofNat']; omega
theorem RInt_spec (n : Int) (h1 : -9223372036854775808 ≤ n) (h2 : n ≤ 9223372036854775807) :
    Does Tryz.prog 110 [.int .i64 n] [] (fun v hp' => v = .string (mkS (encI n)) ∧ hp' = []) := by
  refine fn_enter Tryz.func110 rfl 24 rfl fun w0 h0 => ?_
  obtain ⟨F, hF⟩ : ∃ F : Nat, (F : Int) = foldN n := ⟨(foldN n).toNat, Int.toNat_of_nonneg (foldN_nn n)⟩
  have hF2 : F < 18446744073709551616 := by have := foldN_lt h1 h2; omega
  have hE : encI n = vb F := by unfold encI; rw [← hF]; rfl
  refine SQ (RG ?_)
  refine RR [] .z (.i 2 (.string ⟨#[]⟩) .a) .a ?_
  refine RZ (NT (SQ (RG ?_)))
  refine RR [] (.d .a) (.i 5 (.int .i64 n) (.k .z)) .a ?_
  refine RCA (dst := some 6) (rfold_spec n h1 h2) ?_
  rintro v hp' ⟨rfl, rfl⟩
  rw [← hF, hE]
  refine RR [] .z (.i 3 (.int .u64 (↑F : Int)) (.d (.d (.k .a)))) .a ?_
  refine RZ (NT (SQ (RG ?_)))
  refine RR [] .z (.i 4 (.slice none 0 0) .a) .a ?_
  refine RZ (NT (SQ (BK ?_)))
  refine wpc_ent (ent_nil 5 1) ?_
  refine wpc_loop (X := PI F) (fun x => St.mk [(4, .slice x.a x.ys.length x.c), (3, .int .u64 (x.f : Int)), (2, .string (mkS []))] [row 5 1 x.a x.ys.length x.c (u8s x.ys)]) (fun x => x.f) ⟨F, [], none, 0, rfl, hF2⟩ (ent_fr (by kernel_rfl)) ?_
  rintro ⟨f, ys, a1, c1, hi, hf⟩
  dsimp only
  have hlen := congrArg List.length hi
  rw [List.length_append] at hlen
  have h10 := vb_len10 hF2
  refine SQ (SQ (RG ?_))
  refine RR [] .z (.i 8 (.bool (decide ((↑f : Int) ≥ (128 : Int)))) .a) .a ?_
  refine RZ (NT ?_)
  refine wpc_if (((↑f : Int) ≥ 128)) (by kernel_rfl) (fun hge => ?_) (fun hge => ?_)
  · have hq := quo128 f
    have hv := vb_ge (f := f) (by omega)
    rw [hv] at hi
    rw [hv, List.length_cons] at hlen
    refine SK (NT (BK (SQ (RG ?_))))
    refine wpr_new (l₂ := [6, 7]) true [0, 1, 2, 3, 4, 5] [] (fun g1 => [(14, .slice (some ⟨g1, 0, none⟩) 1 1), (9, .slice a1 ys.length c1), (4, .slice a1 ys.length c1), (3, .int .u64 (↑f : Int)), (2, .string (mkS []))]) (fun g1 => ([row 5 1 a1 ys.length c1 (u8s ys), .blk g1 5 [.int .u8 (IntKind.u8.wrap (IntKind.u8.wrap ((↑f : Int).tmod 128) + 128))]])) (fun g1 => [(128 : Int) ≠ (0 : Int)]) (fun g1 => by kernel_rfl) (fun g1 => by kernel_rfl) (fun g1 => ⟨by omega, trivial⟩) fun g1 => ?_
    refine wpr_ent (ent_turn 1 (ro (some ⟨g1, 0, none⟩) (u8s [UInt8.ofNat (f % 128 + 128)])) rfl (turn_ro [UInt8.ofNat (f % 128 + 128)] (by rw [add128]; rfl)) rfl) ?_
    refine wpr_app (a := a1) (n := ys.length) (cap := c1) (x := (.slice (some ⟨g1, 0, none⟩) 1 1)) (t := 77) (xt := 77) (dst := some 15) (by kernel_rfl) (e := 5) (sz := 1) (bytes := 1) (by kernel_rfl) 0 (xs := (u8s ys)) (by kernel_rfl) (m := 1) (news := (u8s [UInt8.ofNat (f % 128 + 128)])) (fun w h => src_ro h 1 rfl rfl (fun e => by cases e)) (by unfold maxLen; omega) (by omega) ?_
    intro a2 c2 hn
    rw [show ys.length + 1 = (ys ++ [UInt8.ofNat (f % 128 + 128)]).length from by simp, show u8s ys ++ u8s [UInt8.ofNat (f % 128 + 128)] = u8s (ys ++ [UInt8.ofNat (f % 128 + 128)]) from by simp [u8s]]
    refine RR [] .z (.i 4 (.slice a2 (ys ++ [UInt8.ofNat (f % 128 + 128)]).length c2) (.d (.d (.d (.d (.k .a)))))) .a ?_
    refine RZ (NT (RG ?_))
    refine RV true [] .z (.i 3 (.int .u64 ((↑f : Int).tdiv 128)) (.k (.d (.k .a)))) .a [(128 : Int) ≠ (0 : Int) ∧ (0 : Int) ≤ (↑f : Int).tdiv (128 : Int) ∧ (↑f : Int).tdiv (128 : Int) < (18446744073709551616 : Int)] ⟨by omega, trivial⟩ ?_
    refine RZ (BN ?_)
    refine nx_ent (ent_set 3 (.int .u64 ((↑f : Int).tdiv 128)) (Value.int .u64 ((f / 128 : Nat) : Int)) (by kernel_rfl) (congrArg _ (quo128 f))) ?_
    exact fun a' w hS => ⟨⟨f / 128, ys ++ [UInt8.ofNat (f % 128 + 128)], a2, c2, by rw [List.append_assoc]; exact hi, by omega⟩, by dsimp only; omega, ent_fr (by kernel_rfl) _ _ (ent_hp [0] rfl _ _ hS)⟩
  · have hv := vb_lt (f := f) (by omega)
    rw [hv] at hi
    refine EX (TE (TE (BH (NT (SQ (RG ?_))))))
    refine RN [] (.d (.d (.d (.d .a)))) 21 (fun g1 => (.slice (some ⟨g1, 0, none⟩) 1 1)) (.i 18 (.slice a1 ys.length c1) (.d (.d (.d (.k .a))))) .a 5 [.int .u8 (IntKind.u8.wrap (↑f : Int))] fun g1 => ?_
    refine wpr_ent (ent_turn 1 (ro (some ⟨g1, 0, none⟩) (u8s [UInt8.ofNat f])) rfl (turn_ro [UInt8.ofNat f] (by rw [low_math f (by omega)]; rfl)) rfl) ?_
    refine wpr_app (a := a1) (n := ys.length) (cap := c1) (x := (.slice (some ⟨g1, 0, none⟩) 1 1)) (t := 77) (xt := 77) (dst := some 22) (by kernel_rfl) (e := 5) (sz := 1) (bytes := 1) (by kernel_rfl) 0 (xs := (u8s ys)) (by kernel_rfl) (m := 1) (news := (u8s [UInt8.ofNat f])) (fun w h => src_ro h 1 rfl rfl (fun e => by cases e)) (by unfold maxLen; omega) (by omega) ?_
    intro a2 c2 hn
    rw [show ys.length + 1 = (vb F).length from by rw [← hi]; simp, show u8s ys ++ u8s [UInt8.ofNat f] = u8s (vb F) from by rw [← hi]; simp [u8s]]
    refine wpr_eq (b2s (a := 77) (b := 9) (ad := a2) (n := ((vb F).length)) (c := c2) (dst := some 23) (by kernel_rfl) (by kernel_rfl) (vb F) (by first | rfl | simp) (fun w h => b2s_row h 0 rfl)) ?_
    refine RR [] .z (.i 2 (.string (mkS (vb F))) .z) .a ?_
    refine RZ (NT (RE ?_))
    refine NE [] .z .a [] (.string (mkS (vb F))) ?_
    exact ⟨rfl, rfl⟩
def encT (t : List UInt8) : List UInt8 := encI t.length ++ t
theorem PutText_spec (a : Option Addr) (c : Nat) (bs t : List UInt8) (hl : bs.length ≤ 1099511627000) (ht : t.length ≤ 1099511627000) :
    Does Tryz.prog 68 [.slice a bs.length c, .string (mkS t)] [row 5 1 a bs.length c (u8s bs)] (fun v hp' => ∃ a' c', v = .slice a' (bs ++ encT t).length c' ∧ hp' = [row 5 1 a' (bs ++ encT t).length c' (u8s (bs ++ encT t))]) := by
  refine fn_enter Tryz.func68 rfl 11 rfl fun w0 h0 => ?_
  have hE := encI_len (n := t.length) (by omega) (by omega)
  have hL : (bs ++ encI t.length).length = bs.length + (encI t.length).length := List.length_append
  refine SQ (RG ?_)
  refine RR [] .z (.i 4 (.slice none 0 0) .a) .a ?_
  refine RZ (NT (SQ (RG ?_)))
  refine RR [] (.d (.d (.d .a))) (.i 7 (.int .i64 (↑t.length : Int)) (.i 5 (.slice a bs.length c) (.k (.d (.k .a))))) .a ?_
  refine RCA (dst := some 8) (PutInt_spec a c bs t.length (by omega) (by omega) (by omega)) ?_
  rintro v hp' ⟨a1, c1, rfl, rfl⟩
  refine RR [] (.d .a) (.i 9 (.string (mkS t)) (.k (.d (.d (.k .z))))) .a ?_
  refine wpr_app (a := a1) (n := ((bs ++ encI (↑t.length : Int)).length)) (cap := c1) (x := (.string (mkS t))) (t := 77) (xt := 9) (dst := some 10) (by kernel_rfl) (e := 5) (sz := 1) (bytes := 1) (by kernel_rfl) 0 (xs := (u8s (bs ++ encI (↑t.length : Int)))) (by kernel_rfl) (m := (t.length)) (news := (u8s t)) (fun w h => src_str (mkS t)) (by unfold maxLen; omega) (by omega) ?_
  intro a2 c2 hn
  rw [show (bs ++ encI t.length).length + t.length = (bs ++ encT t).length from by simp [encT]; omega, show u8s (bs ++ encI t.length) ++ u8s t = u8s (bs ++ encT t) from by simp [u8s, encT]]
  refine RR [] .z (.i 4 (.slice a2 (bs ++ encT t).length c2) .z) .a ?_
  refine RZ (NT (RE ?_))
  refine NE [0] .a .z [] (.slice a2 (bs ++ encT t).length c2) ?_
  exact ⟨a2, c2, rfl, rfl⟩
theorem RText_spec (t : List UInt8) (ht : t.length ≤ 1099511627000) :
    Does Tryz.prog 111 [.string (mkS t)] [] (fun v hp' => v = .string (mkS (encT t)) ∧ hp' = []) := by
  refine fn_enter Tryz.func111 rfl 8 rfl fun w0 h0 => ?_
  have hE := encI_len (n := t.length) (by omega) (by omega)
  refine SQ (RG ?_)
  refine RR [] .z (.i 2 (.string ⟨#[]⟩) .a) .a ?_
  refine RZ (NT (SQ (RG ?_)))
  refine RR [] (.d (.d .a)) (.i 4 (.int .i64 (↑t.length : Int)) .a) .a ?_
  refine RCA (dst := some 5) (RInt_spec t.length (by omega) (by omega)) ?_
  rintro v hp' ⟨rfl, rfl⟩
  refine RV true [] .z (.i 2 (.string (mkS (encI (↑t.length : Int) ++ t))) .z) .a ([(encI (↑t.length : Int)).length + t.length ≤ (9223372036854775807 : Nat)]) ⟨by omega, trivial⟩ ?_
  refine RZ (NT (RE ?_))
  refine NE [] .a .a [] (.string (mkS (encI (↑t.length : Int) ++ t))) ?_
  exact ⟨rfl, rfl⟩
/-! ### a reader -/
def rdr (r : Nat) (s : List UInt8) (at_ e : Int) : Ch := .blk r 166 [.bool true, .string (mkS s), .int .i64 at_, .int .i64 e]
theorem NewReader_spec (a : Option Addr) (c : Nat) (bs : List UInt8) (ha : a = none → bs = []) :
    Does Tryz.prog 76 [.slice a bs.length c] [ro a (u8s bs)] (fun v hp' => ∃ r, v = .pointer (some ⟨r, 0, none⟩) ∧ hp' = [rdr r bs 0 0]) := by
  refine fn_enter Tryz.func76 rfl 7 rfl fun w0 h0 => ?_
  refine SQ (RG ?_)
  refine RR [] .z (.i 2 (.pointer none) .a) .a ?_
  refine RZ (NT (SQ (RG ?_)))
  refine RR [] (.d .a) (.i 3 (.slice a bs.length c) (.k .z)) .a ?_
  refine wpr_eq (b2s (a := 77) (b := 9) (ad := a) (n := bs.length) (c := c) (dst := some 4) (by kernel_rfl) (by kernel_rfl) bs (by first | rfl | simp) (fun w h => b2s_ro h 0 rfl)) ?_
  refine RP [] (.d (.d .a)) 6 (.d (.d (.k .a))) .a 166 [.bool true, .string (mkS bs), .int .i64 0, .int .i64 0] fun g1 => ?_
  refine RR [] .z (.i 2 (.pointer (some ⟨g1, 0, none⟩)) .z) .a ?_
  refine RZ (NT (RE ?_))
  refine NE [1] (.d (.k .a)) (.k .z) [] (.pointer (some ⟨g1, 0, none⟩)) ?_
  exact ⟨_, rfl, rfl⟩
theorem Err_spec (r : Nat) (s : List UInt8) (at_ e : Int) : Does Tryz.prog 121 [.pointer (some ⟨r, 0, none⟩)] [rdr r s at_ e] (fun v hp' => v = .int .i64 e ∧ hp' = [rdr r s at_ e]) := by
  refine fn_enter Tryz.func121 rfl 16 rfl fun w0 h0 => ?_
  unfold rdr
  refine SQ (RG ?_)
  refine RR [] .z (.i 2 (.int .i64 0) .a) .a ?_
  refine RZ (NT (SQ (SQ (RG ?_))))
  refine RR [0] .z (.i 11 (.bool false) .a) .a ?_
  refine RZ (NT (CF (SK (NT (SQ (RG ?_))))))
  refine RR [0] .z (.i 2 (.int .i64 e) .z) .a ?_
  refine RZ (NT (RE ?_))
  refine NE [0] .a .z [] (.int .i64 e) ?_
  exact ⟨rfl, rfl⟩
def endE (s : List UInt8) (at_ e : Int) : Int := if e ≠ 0 then e else if at_ < s.length then 5 else 0
theorem End_spec (r : Nat) (s : List UInt8) (at_ e : Int) : Does Tryz.prog 83 [.pointer (some ⟨r, 0, none⟩)] [rdr r s at_ e] (fun v hp' => v = .int .i64 (endE s at_ e) ∧ hp' = [rdr r s at_ e]) := by
  refine fn_enter Tryz.func83 rfl 19 rfl fun w0 h0 => ?_
  refine SQ (RG ?_)
  refine RR [] .z (.i 2 (.int .i64 0) .a) (.i (.blk r 166 [.bool true, .string (mkS s), .int .i64 at_, .int .i64 e]) .z) ?_
  refine RZ (NT (SQ (SQ (RG ?_))))
  refine RR [] (.d .a) (.i 4 (.pointer (some ⟨r, 0, none⟩)) .a) .a ?_
  refine RCA (dst := some 5) (Err_spec r s at_ e) ?_
  rintro v hp' ⟨rfl, rfl⟩
  unfold rdr
  refine RR [] .z (.i 3 (.int .i64 e) (.d (.d (.k .a)))) .a ?_
  refine RZ (NT (SQ (RG ?_)))
  refine RR [] .z (.i 7 (.bool (e != (0 : Int))) .a) .a ?_
  refine RZ (NT ?_)
  refine wpc_cond ((e != 0)) (by kernel_rfl) (fun he => ?_) (fun he => ?_)
  · refine SQ (RG ?_)
    refine RR [] .z (.i 2 (.int .i64 e) (.d (.d (.d (.k .a))))) .a ?_
    refine RZ (NT (RE (TR ?_)))
    refine NE [0] .a .z [] (.int .i64 e) ?_
    exact ⟨by rw [endE, if_pos (by simpa using he)], rfl⟩
  · refine SK (NT (SQ (SQ ?_)))
    refine wpc_draw (by kernel_rfl) [.blk r 166 [.bool true, .string (mkS s), .int .i64 at_, .int .i64 e]] (sub_of [0] (by kernel_rfl)) 10 (by kernel_rfl) ?_
    refine TK 0 [(0, []), (1, []), (2, []), (3, [0]), (4, []), (5, []), (6, []), (7, [0]), (8, []), (9, [])] (.i 18 (.bool (decide (at_ < (↑s.length : Int)))) (.d (.d (.k .z)))) (#[true, true, true, true, true, true, true, true, true, true]) ?_
    refine wpa_done 0 (by kernel_rfl) ?_
    refine NT ?_
    refine wpc_if ((at_ < (↑s.length : Int))) (by kernel_rfl) (fun hlt => ?_) (fun hlt => ?_)
    · refine SQ (RG ?_)
      refine RR [] .z (.i 2 (.int .i64 5) .z) .a ?_
      refine RZ (NT (RE (TR ?_)))
      refine NE [0] .a .z [] (.int .i64 5) ?_
      exact ⟨by rw [endE, if_neg (by simpa using he), if_pos hlt], rfl⟩
    · refine SK (NT (SQ (RG ?_)))
      refine RR [] .z (.d (.k .a)) .a ?_
      refine RZ (NT (RE ?_))
      refine NE [0] .a .z [] (.int .i64 0) ?_
      exact ⟨by rw [endE, if_neg (by simpa using he), if_neg hlt], rfl⟩
end Go.Proofs.YtpfhleghgkeemaaGreatDoor
namespace Go.Proofs.YtpfhleghgkeemaaGreatDoor
open Go Go.Sx
/-! A state's bytes, from the values on. -/
def encV (v : V) : List UInt8 := encI v.k ++ (if v.k = 1 ∨ v.k = 2 ∨ v.k = 4 then encI v.n else if v.k = 3 then encT v.s else [])
def encVs (l : List V) : List UInt8 := encI l.length ++ l.flatMap encV
def V.ok (v : V) : Prop := (-9223372036854775808 ≤ v.k ∧ v.k ≤ 9223372036854775807) ∧ (-9223372036854775808 ≤ v.n ∧ v.n ≤ 9223372036854775807) ∧ v.s.length ≤ 1048576
theorem encT_len {t : List UInt8} (h : t.length ≤ 1048576) : (encT t).length ≤ 10 + t.length := by
  have := encI_len (n := (t.length : Int)) (by omega) (by omega)
  unfold encT; rw [List.length_append]; omega
theorem snapVal_spec (a : Option Addr) (c : Nat) (bs : List UInt8) (v : V) (hv : v.ok) (hl : bs.length ≤ 549755813888) :
    Does Tryz.prog 108 [.slice a bs.length c, valV v] [row 5 1 a bs.length c (u8s bs)] (fun r hp' => ∃ a' c', r = .slice a' (bs ++ encV v).length c' ∧ hp' = [row 5 1 a' (bs ++ encV v).length c' (u8s (bs ++ encV v))]) := by
  obtain ⟨⟨h1, h2⟩, ⟨h3, h4⟩, h5⟩ := hv
  have e1 := encI_len h1 h2
  have hP := PutInt_spec a c bs v.k h1 h2 (by omega)
  unfold valV
  refine fn_enter Tryz.func108 rfl 28 rfl fun w0 h0 => ?_
  refine SQ (RG ?_)
  refine RP [] (.d .a) 3 (.k .z) .a 28 [.int .i64 v.k, .int .i64 v.n, .string (mkS v.s)] fun g1 => ?_
  refine RR [] .z (.i 4 (.slice none 0 0) .a) .a ?_
  refine RZ (NT (SQ (RG ?_)))
  refine RR [1] (.d (.d (.d .a))) (.i 7 (.int .i64 v.k) (.i 5 (.slice a bs.length c) .a)) .a ?_
  refine RC (dst := some 8) [0] (.d (.k .a)) (hP) ?_
  rintro r _ ⟨a1, c1, rfl, rfl⟩
  have e2 : (bs ++ encI v.k).length ≤ 549755813900 := by rw [List.length_append]; omega
  by_cases k1 : v.k = 1
  · refine RR [] .z (.i 0 (.slice a1 (bs ++ encI v.k).length c1) (.d (.d (.d (.k (.k .z)))))) .a ?_
    refine RZ (NT (SQ (SQ (RG ?_))))
    refine RR [1] .z (.i 10 (.int .i64 v.k) .a) .a ?_
    refine RZ (NT (BK (SQ (BK (SQ (BK (BK (BK (SQ (SQ (SQ (RG ?_))))))))))))
    refine RR [] .z (.i 11 (.bool (v.k == (1 : Int))) .a) .a ?_
    refine RZ (NT ?_)
    refine SC 11 (v.k == (1 : Int)) true (by simp only [bne_iff_ne, beq_iff_eq, ne_eq]; omega) ?_
    refine CT (EX (TE (TE (BH (BN (BN (NT (SQ (SQ (RG ?_))))))))))
    refine RR [1] (.d (.d (.d .a))) (.i 21 (.int .i64 v.n) (.i 19 (.slice a1 (bs ++ encI v.k).length c1) (.d (.d (.d (.k .a)))))) .a ?_
    refine RC (dst := some 22) [0] (.d (.k .a)) (PutInt_spec a1 c1 (bs ++ encI v.k) v.n h3 h4 (by rw [List.length_append]; omega)) ?_
    rintro r _ ⟨a2, c2, rfl, rfl⟩
    refine RR [] .z (.i 4 (.slice a2 (bs ++ encI v.k ++ encI v.n).length c2) (.d (.d (.d (.k (.d (.k .a))))))) .a ?_
    refine RZ (NT (RE (TR (BR (TR (BR (TR ?_)))))))
    refine NE [0] (.k .z) (.d (.k .a)) [] (.slice a2 (bs ++ encI v.k ++ encI v.n).length c2) ?_
    rw [show encV v = encI v.k ++ encI v.n from by unfold encV; rw [if_pos (by omega)], ← List.append_assoc]
    exact ⟨a2, c2, rfl, rfl⟩
  by_cases k2 : v.k = 2
  · refine RR [] .z (.i 0 (.slice a1 (bs ++ encI v.k).length c1) (.d (.d (.d (.k (.k .z)))))) .a ?_
    refine RZ (NT (SQ (SQ (RG ?_))))
    refine RR [1] .z (.i 10 (.int .i64 v.k) .a) .a ?_
    refine RZ (NT (BK (SQ (BK (SQ (BK (BK (BK (SQ (SQ (SQ (RG ?_))))))))))))
    refine RR [] .z (.i 11 (.bool (v.k == (1 : Int))) .a) .a ?_
    refine RZ (NT ?_)
    refine SC 11 (v.k == (1 : Int)) false (by simp only [bne_eq_false_iff_eq, beq_eq_false_iff_ne, ne_eq]; omega) ?_
    refine CF (SK (NT (SQ (SQ (RG ?_)))))
    refine RR [] .z (.i 13 (.bool (v.k == (2 : Int))) (.d (.d (.k .a)))) .a ?_
    refine RZ (NT ?_)
    refine SC 13 (v.k == (2 : Int)) true (by simp only [bne_iff_ne, beq_iff_eq, ne_eq]; omega) ?_
    refine CT (EX (TE (TE (BF (BH (BN (NT (SQ (SQ (RG ?_))))))))))
    refine RR [1] (.d (.d (.d .a))) (.i 21 (.int .i64 v.n) (.i 19 (.slice a1 (bs ++ encI v.k).length c1) (.d (.d (.d (.k .a)))))) .a ?_
    refine RC (dst := some 22) [0] (.d (.k .a)) (PutInt_spec a1 c1 (bs ++ encI v.k) v.n h3 h4 (by rw [List.length_append]; omega)) ?_
    rintro r _ ⟨a2, c2, rfl, rfl⟩
    refine RR [] .z (.i 4 (.slice a2 (bs ++ encI v.k ++ encI v.n).length c2) (.d (.d (.d (.k (.d (.k .a))))))) .a ?_
    refine RZ (NT (RE (TR (BR (TR (BR (TR ?_)))))))
    refine NE [0] (.k .z) (.d (.k .a)) [] (.slice a2 (bs ++ encI v.k ++ encI v.n).length c2) ?_
    rw [show encV v = encI v.k ++ encI v.n from by unfold encV; rw [if_pos (by omega)], ← List.append_assoc]
    exact ⟨a2, c2, rfl, rfl⟩
  by_cases k4 : v.k = 4
  · refine RR [] .z (.i 0 (.slice a1 (bs ++ encI v.k).length c1) (.d (.d (.d (.k (.k .z)))))) .a ?_
    refine RZ (NT (SQ (SQ (RG ?_))))
    refine RR [1] .z (.i 10 (.int .i64 v.k) .a) .a ?_
    refine RZ (NT (BK (SQ (BK (SQ (BK (BK (BK (SQ (SQ (SQ (RG ?_))))))))))))
    refine RR [] .z (.i 11 (.bool (v.k == (1 : Int))) .a) .a ?_
    refine RZ (NT ?_)
    refine SC 11 (v.k == (1 : Int)) false (by simp only [bne_eq_false_iff_eq, beq_eq_false_iff_ne, ne_eq]; omega) ?_
    refine CF (SK (NT (SQ (SQ (RG ?_)))))
    refine RR [] .z (.i 13 (.bool (v.k == (2 : Int))) (.d (.d (.k .a)))) .a ?_
    refine RZ (NT ?_)
    refine SC 13 (v.k == (2 : Int)) false (by simp only [bne_eq_false_iff_eq, beq_eq_false_iff_ne, ne_eq]; omega) ?_
    refine CF (SK (NT (SQ (SQ (RG ?_)))))
    refine RR [] .z (.i 15 (.bool (v.k == (4 : Int))) (.d (.d (.k .a)))) .a ?_
    refine RZ (NT ?_)
    refine SC 15 (v.k == (4 : Int)) true (by simp only [bne_iff_ne, beq_iff_eq, ne_eq]; omega) ?_
    refine CT (EX (TE (TE (BF (BF (BH (NT (SQ (SQ (RG ?_))))))))))
    refine RR [1] (.d (.d (.d .a))) (.i 21 (.int .i64 v.n) (.i 19 (.slice a1 (bs ++ encI v.k).length c1) (.d (.d (.d (.k .a)))))) .a ?_
    refine RC (dst := some 22) [0] (.d (.k .a)) (PutInt_spec a1 c1 (bs ++ encI v.k) v.n h3 h4 (by rw [List.length_append]; omega)) ?_
    rintro r _ ⟨a2, c2, rfl, rfl⟩
    refine RR [] .z (.i 4 (.slice a2 (bs ++ encI v.k ++ encI v.n).length c2) (.d (.d (.d (.k (.d (.k .a))))))) .a ?_
    refine RZ (NT (RE (TR (BR (TR (BR (TR ?_)))))))
    refine NE [0] (.k .z) (.d (.k .a)) [] (.slice a2 (bs ++ encI v.k ++ encI v.n).length c2) ?_
    rw [show encV v = encI v.k ++ encI v.n from by unfold encV; rw [if_pos (by omega)], ← List.append_assoc]
    exact ⟨a2, c2, rfl, rfl⟩
  by_cases k3 : v.k = 3
  · refine RR [] .z (.i 0 (.slice a1 (bs ++ encI v.k).length c1) (.d (.d (.d (.k (.k .z)))))) .a ?_
    refine RZ (NT (SQ (SQ (RG ?_))))
    refine RR [1] .z (.i 10 (.int .i64 v.k) .a) .a ?_
    refine RZ (NT (BK (SQ (BK (SQ (BK (BK (BK (SQ (SQ (SQ (RG ?_))))))))))))
    refine RR [] .z (.i 11 (.bool (v.k == (1 : Int))) .a) .a ?_
    refine RZ (NT ?_)
    refine SC 11 (v.k == (1 : Int)) false (by simp only [bne_eq_false_iff_eq, beq_eq_false_iff_ne, ne_eq]; omega) ?_
    refine CF (SK (NT (SQ (SQ (RG ?_)))))
    refine RR [] .z (.i 13 (.bool (v.k == (2 : Int))) (.d (.d (.k .a)))) .a ?_
    refine RZ (NT ?_)
    refine SC 13 (v.k == (2 : Int)) false (by simp only [bne_eq_false_iff_eq, beq_eq_false_iff_ne, ne_eq]; omega) ?_
    refine CF (SK (NT (SQ (SQ (RG ?_)))))
    refine RR [] .z (.i 15 (.bool (v.k == (4 : Int))) (.d (.d (.k .a)))) .a ?_
    refine RZ (NT ?_)
    refine SC 15 (v.k == (4 : Int)) false (by simp only [bne_eq_false_iff_eq, beq_eq_false_iff_ne, ne_eq]; omega) ?_
    refine CF (SK (NT (SQ (RG ?_))))
    refine RR [] .z (.i 17 (.bool (v.k == (3 : Int))) (.d (.d (.d (.k .a))))) .a ?_
    refine RZ (NT ?_)
    refine SC 17 (v.k == (3 : Int)) true (by simp only [bne_iff_ne, beq_iff_eq, ne_eq]; omega) ?_
    refine CT (EX (TE (BF (BF (BF (TE (BH (NT (SQ (SQ (RG ?_)))))))))))
    refine RR [1] (.d (.d (.d .a))) (.i 25 (.string (mkS v.s)) (.i 23 (.slice a1 (bs ++ encI v.k).length c1) (.d (.d (.k (.k .z)))))) .a ?_
    refine RC (dst := some 26) [0] (.d (.k .a)) (PutText_spec a1 c1 (bs ++ encI v.k) v.s (by omega) (by omega)) ?_
    rintro r _ ⟨a2, c2, rfl, rfl⟩
    refine RR [] .z (.i 4 (.slice a2 (bs ++ encI v.k ++ encT v.s).length c2) (.d (.d (.d (.k .z))))) .a ?_
    refine RZ (NT (RE (TR (BR (TR ?_)))))
    refine NE [0] (.k .z) (.d (.k .a)) [] (.slice a2 (bs ++ encI v.k ++ encT v.s).length c2) ?_
    rw [show encV v = encI v.k ++ encT v.s from by unfold encV; rw [if_neg (by omega), if_pos k3], ← List.append_assoc]
    exact ⟨a2, c2, rfl, rfl⟩
  · refine RR [] .z (.i 0 (.slice a1 (bs ++ encI v.k).length c1) (.d (.d (.d (.k (.k .z)))))) .a ?_
    refine RZ (NT (SQ (SQ (RG ?_))))
    refine RR [1] .z (.i 10 (.int .i64 v.k) .a) .a ?_
    refine RZ (NT (BK (SQ (BK (SQ (BK (BK (BK (SQ (SQ (SQ (RG ?_))))))))))))
    refine RR [] .z (.i 11 (.bool (v.k == (1 : Int))) .a) .a ?_
    refine RZ (NT ?_)
    refine SC 11 (v.k == (1 : Int)) false (by simp only [bne_eq_false_iff_eq, beq_eq_false_iff_ne, ne_eq]; omega) ?_
    refine CF (SK (NT (SQ (SQ (RG ?_)))))
    refine RR [] .z (.i 13 (.bool (v.k == (2 : Int))) (.d (.d (.k .a)))) .a ?_
    refine RZ (NT ?_)
    refine SC 13 (v.k == (2 : Int)) false (by simp only [bne_eq_false_iff_eq, beq_eq_false_iff_ne, ne_eq]; omega) ?_
    refine CF (SK (NT (SQ (SQ (RG ?_)))))
    refine RR [] .z (.i 15 (.bool (v.k == (4 : Int))) (.d (.d (.k .a)))) .a ?_
    refine RZ (NT ?_)
    refine SC 15 (v.k == (4 : Int)) false (by simp only [bne_eq_false_iff_eq, beq_eq_false_iff_ne, ne_eq]; omega) ?_
    refine CF (SK (NT (SQ (RG ?_))))
    refine RR [] .z (.i 17 (.bool (v.k == (3 : Int))) (.d (.d (.d (.k .a))))) .a ?_
    refine RZ (NT ?_)
    refine SC 17 (v.k == (3 : Int)) false (by simp only [bne_eq_false_iff_eq, beq_eq_false_iff_ne, ne_eq]; omega) ?_
    refine CF (SK (NT (EX (BF (BF (BF (TE (BF (TE (BH (NT (SQ (RG ?_)))))))))))))
    refine RR [] .z (.i 4 (.slice a1 (bs ++ encI v.k).length c1) .z) .a ?_
    refine RZ (NT (RE ?_))
    refine NE [0] (.k .z) (.d (.k .a)) [] (.slice a1 (bs ++ encI v.k).length c1) ?_
    rw [show encV v = encI v.k from by unfold encV; rw [if_neg (by omega), if_neg k3, List.append_nil]]
    exact ⟨a1, c1, rfl, rfl⟩
theorem flat_take_len {α : Type} (f : α → List UInt8) (l : List α) (i : Nat) : ((l.take i).flatMap f).length ≤ (l.flatMap f).length := by
  have h : l.flatMap f = (l.take i).flatMap f ++ (l.drop i).flatMap f := by rw [← List.flatMap_append, List.take_append_drop]
  rw [h, List.length_append]; omega
theorem flat_take_succ {α : Type} (f : α → List UInt8) {l : List α} {i : Nat} (h : i < l.length) : (l.take (i + 1)).flatMap f = (l.take i).flatMap f ++ f l[i] := by
  rw [← List.take_append_getElem h, List.flatMap_append]; simp
theorem rowV_spec (a : Option Addr) (c : Nat) (bs : List UInt8) (la : Option Addr) (lc : Nat) (l : List V) (hl : l.length ≤ 1048576) (hv : ∀ v ∈ l, v.ok) (hB : bs.length + (encVs l).length ≤ 549755813888) :
    Does Tryz.prog 107 [.slice a bs.length c, .slice la l.length lc, .func (.func 108) #[] #[]] [row 5 1 a bs.length c (u8s bs), ro la (l.flatMap valC)]
      (fun r hp' => ∃ a' c', r = .slice a' (bs ++ encVs l).length c' ∧ hp' = [row 5 1 a' (bs ++ encVs l).length c' (u8s (bs ++ encVs l))]) := by
  refine fn_enter Tryz.func107 rfl 25 rfl fun w0 h0 => ?_
  refine SQ (RG ?_)
  refine RR [] .z (.i 6 (.slice none 0 0) .a) .a ?_
  refine RZ (NT (SQ (RG ?_)))
  refine RR [] (.d (.d (.d .a))) (.i 11 (.int .i64 (↑l.length : Int)) (.i 9 (.slice a bs.length c) .a)) .a ?_
  refine RC (dst := some 12) [0] (.d (.k .a)) (PutInt_spec a c bs l.length (by omega) (by omega) (by omega)) ?_
  rintro r _ ⟨a1, c1, rfl, rfl⟩
  refine RR [] .z (.i 0 (.slice a1 (bs ++ encI (↑l.length : Int)).length c1) (.d (.d (.d (.k (.d (.k .a))))))) .a ?_
  refine RZ (NT (SQ (SQ (RG ?_))))
  refine RR [] .z (.i 15 (.int .i64 0) (.i 14 (.int .i64 (↑l.length : Int)) (.i 13 (.slice la l.length lc) (.k (.k (.d (.k .a))))))) .a ?_
  refine RZ (NT (BK ?_))
  refine wpc_loop (X := {x : Nat × Option Addr × Nat // x.1 ≤ l.length}) (fun x => St.mk [(15, .int .i64 (x.1.1 : Int)), (14, .int .i64 l.length), (13, .slice la l.length lc), (0, .slice x.1.2.1 (bs ++ encI l.length ++ (l.take x.1.1).flatMap encV).length x.1.2.2), (6, .slice none 0 0), (2, .func (.func 108) #[] #[])]
    [row 5 1 x.1.2.1 (bs ++ encI l.length ++ (l.take x.1.1).flatMap encV).length x.1.2.2 (u8s (bs ++ encI l.length ++ (l.take x.1.1).flatMap encV)), ro la (l.flatMap valC)]) (fun x => l.length - x.1.1) ⟨(0, a1, c1), Nat.zero_le _⟩ ?_ ?_
  · show Ent _ _ (St.mk [_, _, _, (0, .slice a1 (bs ++ encI l.length ++ []).length c1), _, _] [row _ 1 a1 (bs ++ encI l.length ++ []).length c1 (u8s (bs ++ encI l.length ++ [])), _])
    rw [List.append_nil]
    exact ent_fr (by kernel_rfl)
  rintro ⟨⟨i, a2, c2⟩, hi⟩
  dsimp only at hi ⊢
  have hpre : ((l.take i).flatMap encV).length ≤ (l.flatMap encV).length := flat_take_len encV l i
  have hEl : (encVs l).length = (encI l.length).length + (l.flatMap encV).length := by unfold encVs; rw [List.length_append]
  by_cases hlt : i < l.length
  · refine wpc_fact (fun w h => ro_addr h 1 rfl (by rw [vals_len]; omega)) ?_
    rintro ⟨g0, o0, rfl⟩
    refine SQ (RG ?_)
    refine RR [] .z (.i 16 (.bool (decide ((↑i : Int) < (↑l.length : Int)))) .a) .a ?_
    refine RZ (NT (SQ ?_))
    refine SC 16 (decide ((↑i : Int) < (↑l.length : Int))) true (decide_eq_true (by omega)) ?_
    refine CT (SK (NT (SQ (BK (SQ (RG ?_))))))
    refine RV true [] (.d .a) (.i 17 (.pointer (some ⟨g0, o0 + i * 3, none⟩)) (.d (.d (.k .a)))) .a [(0 : Int) ≤ (↑i : Int) ∧ (↑i : Int) < (↑l.length : Int)] ⟨by omega, trivial⟩ ?_
    refine wpr_eq (ld (t := 28) (a := ⟨g0, o0 + i * 3, none⟩) (dst := some 18) (by kernel_rfl) true 3 (by kernel_rfl) (by simp) (valC l[i]) rfl (fun w h => ld_ro h 1 rfl (i * 3) (vals_at hlt))) ?_
    refine RP [] (.d .a) 8 (.i 18 (.agg #[.int .i64 l[i].k, .int .i64 l[i].n, .string (mkS l[i].s)]) (.d (.d (.k .a)))) .a 28 [.int .i64 0, .int .i64 0, .string ⟨#[]⟩] fun g1 => ?_
    refine RR [2, 2, 2] .z (.k (.d (.k .a))) (.k (.k (.u (.i (.int .i64 l[i].k) (.i (.int .i64 l[i].n) (.i (.string (mkS l[i].s)) .z))) .a))) ?_
    refine RZ (NT (RG ?_))
    refine RR [2, 2, 2] (.d (.d (.d .a))) (.i 21 (.agg #[.int .i64 l[i].k, .int .i64 l[i].n, .string (mkS l[i].s)]) (.i 20 (.slice a2 (bs ++ encI (↑l.length : Int) ++ List.flatMap encV (List.take i l)).length c2) (.i 19 (Value.func (Fn.func 108) #[] #[]) (.d (.k .a))))) .a ?_
    have hlen : (bs ++ encI l.length ++ (l.take i).flatMap encV).length ≤ 549755813888 := by rw [List.length_append, List.length_append]; omega
    refine wpr_callv (dst := some 22) (rest := [ro (some ⟨g0, o0, none⟩) (List.flatMap valC l), .blk g1 28 [.int .i64 l[i].k, .int .i64 l[i].n, .string (mkS l[i].s)]]) (first := (#[])) (caps := (#[])) (args := ([.slice a2 (bs ++ encI (↑l.length : Int) ++ List.flatMap encV (List.take i l)).length c2, .agg #[.int .i64 l[i].k, .int .i64 l[i].n, .string (mkS l[i].s)]])) (f := 108) (by kernel_rfl) (by kernel_rfl) (snapVal_spec a2 c2 (bs ++ encI l.length ++ (l.take i).flatMap encV) l[i] (hv _ (List.getElem_mem hlt)) hlen) (give [0] (by kernel_rfl)) ?_
    rintro r _ ⟨a3, c3, rfl, rfl⟩
    rw [show bs ++ encI l.length ++ (l.take i).flatMap encV ++ encV l[i] = bs ++ encI l.length ++ (l.take (i + 1)).flatMap encV from by rw [flat_take_succ encV hlt, List.append_assoc]]
    refine RR [] .z (.i 0 (.slice a3 (bs ++ encI (↑l.length : Int) ++ List.flatMap encV (List.take (i + 1) l)).length c3) (.d (.d (.d (.d (.k (.k (.k (.d (.k .a)))))))))) .a ?_
    refine RZ (BN (NT (RG ?_)))
    refine RV true [] .z (.i 15 (.int .i64 ((↑i : Int) + 1)) (.k (.d (.k .a)))) .a ([inI64 ((↑i : Int) + (1 : Int))]) ⟨by unfold inI64; omega, trivial⟩ ?_
    refine RZ ?_
    exact fun a' w' hS' => ⟨⟨(i + 1, a3, c3), hlt⟩, by dsimp only; omega, ent_fr (by kernel_rfl) _ _ (ent_hp [0, 0] rfl _ _ hS')⟩
  · obtain rfl : i = l.length := by omega
    refine SQ (RG ?_)
    refine RR [] .z (.i 16 (.bool (decide ((↑l.length : Int) < (↑l.length : Int)))) .a) .a ?_
    refine RZ (NT (SQ ?_))
    refine SC 16 (decide ((↑l.length : Int) < (↑l.length : Int))) false (by simp) ?_
    refine CF (EX (TE (TE (BH (NT (SQ (RG ?_)))))))
    refine RR [] .z (.i 6 (.slice a2 (bs ++ encI (↑l.length : Int) ++ List.flatMap encV (List.take l.length l)).length c2) .z) .a ?_
    refine RZ (NT (RE ?_))
    refine NE [0] (.k .z) (.d (.k .a)) [] (.slice a2 (bs ++ encI (↑l.length : Int) ++ List.flatMap encV (List.take l.length l)).length c2) ?_
    rw [List.take_length, List.append_assoc]
    exact ⟨a2, c2, rfl, rfl⟩
end Go.Proofs.YtpfhleghgkeemaaGreatDoor
namespace Go.Proofs.YtpfhleghgkeemaaGreatDoor
open Go Go.Sx
def numGo : Nat → Nat → Nat → List UInt8 → Int × Int × Int
  | 0, _, _, _ => (0, 0, 4)
  | _ + 1, _, _, [] => (0, 0, 3)
  | k + 1, i, f, c :: s =>
    if i = 9 ∧ c ≠ 1 then (0, 0, 4)
    else if 128 ≤ c.toNat then numGo k (i + 1) (f + c.toNat % 128 * 128 ^ i) s
    else if c = 0 ∧ 0 < i then (0, 0, 4)
    else (unfoldN (f + c.toNat % 128 * 128 ^ i : Nat), i + 1, 0)
def num (s : List UInt8) : Int × Int × Int := numGo 10 0 0 s
theorem wbt_at {s : List UInt8} {i : Nat} (h : i < s.length) : bt (mkS s) (i : Int) = (s[i].toNat : Int) := by
  simp [bt, mkS, List.getD, h]
theorem and127 (c : UInt8) : IntKind.u8.wrap ↑(BitVec.ofInt IntKind.u8.bits (c.toNat : Int) &&& BitVec.ofInt IntKind.u8.bits 127).toNat = ((c.toNat % 128 : Nat) : Int) := by
  have e8 : IntKind.u8.bits = 8 := rfl
  have hc := c.toNat_lt
  rw [e8, BitVec.toNat_and, u8_wrap]
  have h1 : (BitVec.ofInt 8 (c.toNat : Int)).toNat = c.toNat := by rw [BitVec.toNat_ofInt]; omega
  have h2 : (BitVec.ofInt 8 127).toNat = 2 ^ 7 - 1 := by decide
  rw [h1, h2, Nat.and_two_pow_sub_one_eq_mod]
  omega
set_option maxRecDepth 20000 in
theorem and128' : ∀ g : Nat, g < 256 → (((g &&& 128 : Nat) : Int) % 256 != 0) = decide (128 ≤ g) := by decide
theorem and128 (c : UInt8) : (IntKind.u8.wrap ↑(BitVec.ofInt IntKind.u8.bits (c.toNat : Int) &&& BitVec.ofInt IntKind.u8.bits 128).toNat != 0) = decide (128 ≤ c.toNat) := by
  have e8 : IntKind.u8.bits = 8 := rfl
  have hc := c.toNat_lt
  rw [e8, BitVec.toNat_and, u8_wrap]
  have h1 : (BitVec.ofInt 8 (c.toNat : Int)).toNat = c.toNat := by rw [BitVec.toNat_ofInt]; omega
  have h2 : (BitVec.ofInt 8 128).toNat = 128 := by decide
  rw [h1, h2, and128' _ hc]
theorem acc_lt {f i x : Nat} (hf : f < 128 ^ i) (hi : i ≤ 9) (hx : x < 128) (h9 : i = 9 → x ≤ 1) : x * 128 ^ i < 18446744073709551616 ∧ f + x * 128 ^ i < 18446744073709551616 := by
  rcases Nat.lt_or_ge i 9 with h | h
  · have hp : 128 ^ i ≤ 128 ^ 8 := Nat.pow_le_pow_right (by decide) (by omega)
    have h2 : x * 128 ^ i ≤ 127 * 128 ^ 8 := Nat.mul_le_mul (by omega) hp
    have e : (128 : Nat) ^ 8 = 72057594037927936 := by decide
    rw [e] at hp h2
    constructor <;> omega
  · have e : i = 9 := by omega
    subst e
    have := h9 rfl
    have e : (128 : Nat) ^ 9 = 9223372036854775808 := by decide
    rw [e] at hf ⊢
    constructor <;> omega
theorem or_acc {f i x : Nat} (hf : f < 128 ^ i) (hi : i ≤ 9) (hx : x < 128) (h9 : i = 9 → x ≤ 1) :
    IntKind.u64.wrap ↑(BitVec.ofInt IntKind.u64.bits (f : Int) ||| BitVec.ofInt IntKind.u64.bits (IntKind.u64.wrap (IntKind.u64.wrap (x : Int) * 2 ^ min (7 * (i : Int)).toNat IntKind.u64.bits))).toNat = ((f + x * 128 ^ i : Nat) : Int) := by
  have e64 : IntKind.u64.bits = 64 := rfl
  obtain ⟨h1, h2⟩ := acc_lt hf hi hx h9
  have hm : min (7 * (i : Int)).toNat 64 = 7 * i := by omega
  have hp : (128 : Nat) ^ i = 2 ^ (7 * i) := by rw [Nat.pow_mul]
  rw [e64, hm, BitVec.toNat_or]
  simp only [u64_wrap]
  have hx2 : (x : Int) % 18446744073709551616 = x := by omega
  have hpi : ((2 : Int) ^ (7 * i)) = ((128 ^ i : Nat) : Int) := by rw [hp]; simp
  rw [hx2, hpi, ← Int.natCast_mul]
  have ef : (BitVec.ofInt 64 (f : Int)).toNat = f := by rw [BitVec.toNat_ofInt]; omega
  have ex : (BitVec.ofInt 64 (((x * 128 ^ i : Nat) : Int) % 18446744073709551616)).toNat = x * 128 ^ i := by rw [BitVec.toNat_ofInt]; omega
  rw [ef, ex]
  have hor : f ||| x * 128 ^ i = f + x * 128 ^ i := by
    rw [hp] at hf ⊢
    rw [Nat.mul_comm x, Nat.or_comm, ← Nat.two_pow_add_eq_or_of_lt hf, Nat.add_comm]
  rw [hor]
  omega
structure NI (s : List UInt8) where
  i : Nat
  f : Nat
  hi : i ≤ 10
  hs : i ≤ s.length
  hf : f < 128 ^ i
  hn : numGo (10 - i) i f (s.drop i) = num s
theorem wnumber_spec (s : List UInt8) (hl : s.length ≤ 1099511627776) :
    Does Tryz.prog 115 [.string (mkS s)] [] (fun v hp' => v = .tuple #[.int .i64 (num s).1, .int .i64 (num s).2.1, .int .i64 (num s).2.2] ∧ hp' = []) := by
  refine fn_enter Tryz.func115 rfl 46 rfl fun w0 h0 => ?_
  refine SQ (RG ?_)
  refine RR [] .z (.i 4 (.int .i64 0) (.i 3 (.int .i64 0) (.i 2 (.int .i64 0) .a))) .a ?_
  refine RZ (NT (SQ (RG ?_)))
  refine RR [] .z (.i 5 (.int .u64 0) .a) .a ?_
  refine RZ (NT (SQ (SQ (RG ?_))))
  refine RR [] .z (.i 8 (.int .i64 0) .a) .a ?_
  refine RZ (NT (BK ?_))
  refine wpc_loop (X := NI s) (fun x => St.mk [(8, .int .i64 (x.i : Int)), (5, .int .u64 (x.f : Int)), (0, .string (mkS s)), (2, .int .i64 0), (3, .int .i64 0), (4, .int .i64 0)] []) (fun x => 10 - x.i) ⟨0, 0, by omega, by omega, by decide, rfl⟩ (ent_fr (by kernel_rfl)) ?_
  rintro ⟨i, f, hi, hs, hf, hn⟩
  dsimp only
  refine SQ (RG ?_)
  refine RR [] .z (.i 9 (.bool (decide ((↑i : Int) < (10 : Int)))) .a) .a ?_
  refine RZ (NT (SQ ?_))
  refine wpc_if (((↑i : Int) < 10)) (by kernel_rfl) (fun hlt => ?_) (fun hlt => ?_)
  · refine SK (NT (SQ (BK (SQ (RG ?_)))))
    refine RR [] .z (.i 6 (.int .i64 (↑i : Int)) (.d (.k .a))) .a ?_
    refine RZ (NT (SQ (SQ (RG ?_))))
    refine RR [] .z (.i 14 (.bool ((↑i : Int) == (↑s.length : Int))) .a) .a ?_
    refine RZ (NT ?_)
    refine wpc_cond (((↑i : Int) == (↑s.length : Int))) (by kernel_rfl) (fun hend => ?_) (fun hend => ?_)
    · have he : i = s.length := by have := eq_of_beq hend; omega
      refine SQ (RG ?_)
      refine RR [] .z (.i 4 (.int .i64 3) (.i 3 (.int .i64 0) (.i 2 (.int .i64 0) (.d (.k (.k (.k (.k .z)))))))) .a ?_
      refine RZ (NT (RE (TR (BR (TR (TR (BR (TR ?_))))))))
      refine NE [] .a .a [] (.tuple #[.int .i64 0, .int .i64 0, .int .i64 3]) ?_
      refine ⟨?_, rfl⟩
      rw [← hn, List.drop_eq_nil_of_le (by omega)]
      rw [show 10 - i = (9 - i) + 1 by omega]
      rfl
    · have hlen : i < s.length := by
        rcases Nat.lt_or_ge i s.length with h | h
        · exact h
        · have e : i = s.length := by omega
          rw [e] at hend; simp at hend
      obtain ⟨c, hc⟩ : ∃ c, c = s[i] := ⟨_, rfl⟩
      have hbt : bt (mkS s) (i : Int) = (c.toNat : Int) := by rw [hc]; exact wbt_at hlen
      have hd : s.drop i = c :: s.drop (i + 1) := by rw [hc]; exact List.drop_eq_getElem_cons hlen
      rw [hd, show 10 - i = (9 - i) + 1 by omega] at hn
      unfold numGo at hn
      by_cases h9 : i = 9 ∧ c ≠ 1
      · rw [if_pos h9] at hn
        have hne : (!((c.toNat : Int) == 1)) = true := by
          have : c.toNat ≠ 1 := fun e => h9.2 (UInt8.toNat_inj.1 e)
          simp; omega
        obtain ⟨rfl, _⟩ := h9
        refine SK (NT (SQ (RG ?_)))
        refine RV true [] .z (.i 7 (.int .u8 (bt (mkS s) 9)) (.i 6 (.int .i64 9) (.i 8 (.int .i64 9) (.d (.d (.d (.k .a))))))) .a [(0 : Int) ≤ (9 : Int) ∧ (9 : Int) < (↑s.length : Int)] ⟨by omega, trivial⟩ ?_
        refine RZ (NT (SQ (SQ (RG ?_))))
        refine RR [] .z (.i 23 (.bool (bt (mkS s) (9 : Int) != (1 : Int))) .a) .a ?_
        refine RZ (NT ?_)
        refine wpc_ent (ent_set 23 (.bool (bt (mkS s) 9 != 1)) (.bool true) (by kernel_rfl) (congrArg _ (by show (bt (mkS s) ((9 : Nat) : Int) != 1) = true; rw [hbt]; exact hne))) ?_
        refine CT (EX (TE (BF (TE (TE (BH (NT (SQ (RG ?_)))))))))
        refine RR [] .z (.i 4 (.int .i64 4) (.i 3 (.int .i64 0) (.d (.d (.d (.d (.d (.d (.d (.k .z)))))))))) .a ?_
        refine RZ (NT (RE ?_))
        refine NE [] .a .a [] (.tuple #[.int .i64 0, .int .i64 0, .int .i64 4]) ?_
        exact ⟨by rw [← hn], rfl⟩
      · rw [if_neg h9] at hn
        refine SK (NT (SQ (RG ?_)))
        refine RV true [] .z (.i 7 (.int .u8 (bt (mkS s) (↑i : Int))) (.d (.k .a))) .a [(0 : Int) ≤ (↑i : Int) ∧ (↑i : Int) < (↑s.length : Int)] ⟨by omega, trivial⟩ ?_
        refine RZ (NT (SQ (SQ (RG ?_))))
        refine RR [] (.d (.d (.d .a))) (.i 20 (.bool ((↑i : Int) == (9 : Int))) .a) .a ?_
        refine wpr_join ⟨[(23, .bool false), (7, (.int .u8 (bt (mkS s) (↑i : Int)))), (6, (.int .i64 (↑i : Int))), (8, (.int .i64 (↑i : Int))), (5, (.int .u64 (↑f : Int))), (0, (.string (mkS s))), (2, (.int .i64 0)), (3, (.int .i64 0)), (4, (.int .i64 0))], []⟩ (fun Q1 hQ1 hk => ?_) ?_
        · refine wpr_case 20 (((↑i : Int) == 9)) (by kernel_rfl) (fun h => ?_) (fun h => ?_)
          · refine RR [] .z (.i 23 (.bool (bt (mkS s) (↑i : Int) != (1 : Int))) (.d (.d (.k .a)))) .a ?_
            refine RZ ?_
            refine nx_ent (ent_set 23 (.bool (bt (mkS s) (↑i : Int) != 1)) (.bool false) (by kernel_rfl) (congrArg _ (by
                          rw [hbt]
                          have e9 : i = 9 := by have := eq_of_beq h; omega
                          have e1 : c = 1 := Classical.byContradiction fun hc1 => h9 ⟨e9, hc1⟩
                          rw [e1]; rfl))) ?_
            exact nx_ent (ent_fr (by kernel_rfl)) hk
          · refine RR [] .z (.i 23 (.bool false) (.d (.d (.k .a)))) .a ?_
            refine RZ ?_
            exact nx_ent (ent_fr (by kernel_rfl)) hk
        have h9x : i = 9 → c.toNat % 128 ≤ 1 := fun e => by
          have e1 : c = 1 := Classical.byContradiction fun hc1 => h9 ⟨e, hc1⟩
          rw [e1]; decide
        have hacc := acc_lt hf (by omega) (Nat.mod_lt c.toNat (show 0 < 128 by decide)) h9x
        refine NT (CF (SK (NT (SQ (RG ?_)))))
        refine RV true [] .z (.i 5 (.int .u64 (IntKind.wrap IntKind.u64 (↑(BitVec.toNat (BitVec.ofInt (IntKind.bits IntKind.u64) (↑f : Int) ||| BitVec.ofInt (IntKind.bits IntKind.u64) (IntKind.wrap IntKind.u64 (IntKind.wrap IntKind.u64 (IntKind.wrap IntKind.u8 (↑(BitVec.toNat (BitVec.ofInt (IntKind.bits IntKind.u8) (bt (mkS s) (↑i : Int)) &&& BitVec.ofInt (IntKind.bits IntKind.u8) 127)) : Int)) * 2 ^ min (Int.toNat (7 * (↑i : Int))) (IntKind.bits IntKind.u64))))) : Int))) (.d (.k (.k (.k (.d (.k .a))))))) .a [inI64 ((7 : Int) * (↑i : Int)), (0 : Int) ≤ (7 : Int) * (↑i : Int)] ⟨by unfold inI64; omega, by omega, trivial⟩ ?_
        refine RZ (NT (SQ (SQ (RG ?_))))
        refine RR [] .z (.i 34 (.bool (IntKind.u8.wrap (↑(BitVec.ofInt IntKind.u8.bits (bt (mkS s) (↑i : Int)) &&& BitVec.ofInt IntKind.u8.bits (128 : Int)).toNat : Int) != (0 : Int))) .a) .a ?_
        refine RZ (NT ?_)
        refine wpc_ent (ent_set 34 (.bool (IntKind.u8.wrap (↑(BitVec.ofInt IntKind.u8.bits (bt (mkS s) (↑i : Int)) &&& BitVec.ofInt IntKind.u8.bits 128).toNat : Int) != 0)) (.bool (decide (128 ≤ c.toNat))) (by kernel_rfl) (congrArg _ (by rw [hbt, and128]))) ?_
        refine wpc_ent (ent_set 5 (.int .u64 (IntKind.wrap IntKind.u64 (↑(BitVec.toNat (BitVec.ofInt (IntKind.bits IntKind.u64) (↑f : Int) ||| BitVec.ofInt (IntKind.bits IntKind.u64) (IntKind.wrap IntKind.u64 (IntKind.wrap IntKind.u64 (IntKind.wrap IntKind.u8 (↑(BitVec.toNat (BitVec.ofInt (IntKind.bits IntKind.u8) (bt (mkS s) (↑i : Int)) &&& BitVec.ofInt (IntKind.bits IntKind.u8) 127)) : Int)) * 2 ^ min (Int.toNat (7 * (↑i : Int))) (IntKind.bits IntKind.u64))))) : Int))) (Value.int .u64 ((f + c.toNat % 128 * 128 ^ i : Nat) : Int)) (by kernel_rfl) (congrArg _ (by rw [hbt, and127]; exact or_acc hf (by omega) (Nat.mod_lt _ (by decide)) h9x))) ?_
        refine wpc_if ((128 ≤ c.toNat)) (by kernel_rfl) (fun hbig => ?_) (fun hbig => ?_)
        · rw [if_pos hbig] at hn
          refine EX (TE (BH (NT (RG ?_))))
          refine RV true [] .z (.i 8 (.int .i64 ((↑i : Int) + 1)) (.k (.d (.d (.d (.d (.d (.d (.k .a))))))))) .a ([inI64 ((↑i : Int) + (1 : Int))]) ⟨by unfold inI64; omega, trivial⟩ ?_
          refine RZ ?_
          exact fun a' w hS => ⟨⟨i + 1, f + c.toNat % 128 * 128 ^ i, by omega, by omega, by
            have : c.toNat % 128 * 128 ^ i ≤ 127 * 128 ^ i := Nat.mul_le_mul_right _ (by omega)
            rw [Nat.pow_succ]; omega, by rw [show 10 - (i + 1) = 9 - i by omega]; exact hn⟩, by dsimp only; omega, ent_fr (by kernel_rfl) _ _ hS⟩
        · rw [if_neg hbig] at hn
          refine SK (NT (SQ (SQ (RG ?_))))
          refine RR [] (.d (.d (.d .a))) (.i 37 (.bool (bt (mkS s) (↑i : Int) == (0 : Int))) (.k (.d (.d (.d (.d (.k .a))))))) .a ?_
          refine wpr_case 37 ((bt (mkS s) (↑i : Int) == 0)) (by kernel_rfl) (fun hz => ?_) (fun hz => ?_)
          · have hc0 : c = 0 := by
              rw [hbt] at hz
              have := eq_of_beq hz
              exact UInt8.toNat_inj.1 (by show c.toNat = 0; omega)
            refine RR [] .z (.i 40 (.bool (decide ((↑i : Int) > (0 : Int)))) (.d (.d (.k .a)))) .a ?_
            refine RZ (NT ?_)
            refine wpc_if (((↑i : Int) > 0)) (by kernel_rfl) (fun hi0 => ?_) (fun hi0 => ?_)
            · rw [if_pos ⟨hc0, by omega⟩] at hn
              refine EX (TE (BF (TE (TE (BH (NT (SQ (RG ?_))))))))
              refine RR [] .z (.i 4 (.int .i64 4) (.i 3 (.int .i64 0) (.d (.d (.d (.d (.d (.k .z)))))))) .a ?_
              refine RZ (NT (RE ?_))
              refine NE [] .a .a [] (.tuple #[.int .i64 0, .int .i64 0, .int .i64 4]) ?_
              exact ⟨by rw [← hn], rfl⟩
            · rw [if_neg (fun h => hi0 (by omega))] at hn
              refine SK (NT (SQ (RG ?_)))
              refine RR [] (.d .a) (.i 41 (.int .u64 (↑(f + c.toNat % 128 * 128 ^ i) : Int)) (.d (.k .a))) .a ?_
              refine RCA (dst := some 42) (unfold_spec (f + c.toNat % 128 * 128 ^ i : Nat) (by omega) (by omega)) ?_
              rintro v hp' ⟨rfl, rfl⟩
              refine RV true [] .z (.i 4 (.int .i64 0) (.i 3 (.int .i64 ((↑i : Int) + 1)) (.i 2 (.int .i64 (unfoldN (↑(f + c.toNat % 128 * 128 ^ i) : Int))) (.d (.d (.k (.d (.k (.k .z))))))))) .a ([inI64 ((↑i : Int) + (1 : Int))]) ⟨by unfold inI64; omega, trivial⟩ ?_
              refine RZ (NT (RE (BR (TR (TR (BR (TR ?_)))))))
              refine NE [] .a .a [] (.tuple #[.int .i64 (unfoldN (↑(f + c.toNat % 128 * 128 ^ i) : Int)), .int .i64 ((↑i : Int) + 1), .int .i64 0]) ?_
              exact ⟨by rw [← hn], rfl⟩
          · have hc0 : c ≠ 0 := fun e => by
              rw [hbt, e] at hz
              simp at hz
            rw [if_neg (fun h => hc0 h.1)] at hn
            refine RR [] .z (.i 40 (.bool false) (.d (.d (.k .a)))) .a ?_
            refine RZ (NT (CF (SK (NT (SQ (RG ?_))))))
            refine RR [] (.d .a) (.i 41 (.int .u64 (↑(f + c.toNat % 128 * 128 ^ i) : Int)) (.d (.k .a))) .a ?_
            refine RCA (dst := some 42) (unfold_spec (f + c.toNat % 128 * 128 ^ i : Nat) (by omega) (by omega)) ?_
            rintro v hp' ⟨rfl, rfl⟩
            refine RV true [] .z (.i 4 (.int .i64 0) (.i 3 (.int .i64 ((↑i : Int) + 1)) (.i 2 (.int .i64 (unfoldN (↑(f + c.toNat % 128 * 128 ^ i) : Int))) (.d (.d (.k (.d (.k (.k .z))))))))) .a ([inI64 ((↑i : Int) + (1 : Int))]) ⟨by unfold inI64; omega, trivial⟩ ?_
            refine RZ (NT (RE (BR (TR (TR (BR (TR ?_)))))))
            refine NE [] .a .a [] (.tuple #[.int .i64 (unfoldN (↑(f + c.toNat % 128 * 128 ^ i) : Int)), .int .i64 ((↑i : Int) + 1), .int .i64 0]) ?_
            exact ⟨by rw [← hn], rfl⟩
  · refine EX (TE (TE (BH (NT (SQ (RG ?_))))))
    refine RR [] .z (.i 4 (.int .i64 4) (.i 3 (.int .i64 0) (.d (.d (.d (.d (.k .z))))))) .a ?_
    refine RZ (NT (RE ?_))
    refine NE [] .a .a [] (.tuple #[.int .i64 0, .int .i64 0, .int .i64 4]) ?_
    refine ⟨?_, rfl⟩
    rw [show 10 - i = 0 by omega] at hn
    rw [← hn]; rfl
end Go.Proofs.YtpfhleghgkeemaaGreatDoor
namespace Go.Proofs.YtpfhleghgkeemaaGreatDoor
open Go.RowKit
set_option maxHeartbeats 4000000 in
set_option maxRecDepth 100000 in
theorem clone_calls (s : ByteArray) (w : World) (hlim : s.size ≤ 281474976710656) :
    Calls Tryz.prog 147 #[.string s] w fun e w' => e = .returned (.string s) ∧ Below w.heap.size w w' := by
  by_cases h0 : s.size = 0
  · have hs : s = ⟨#[]⟩ := by
      apply ByteArray.ext
      exact Array.eq_empty_of_size_eq_zero h0
    subst hs
    go_enter Tryz.func147, Tryz.ntmps147
    go_wp2
    go_ret
    exact ⟨rfl, Below.refl _ _⟩
  · obtain ⟨i0, hi, hz0, hz1, hz2⟩ : ∃ i0, Tryz.prog.info? 5 = some i0 ∧ i0.zero = some (.int .u8 0) ∧ i0.size = 1 ∧ i0.bytes = 1 := ⟨_, rfl, rfl, rfl, rfl⟩
    have hinfo : (Tryz.prog.info? 5).map (·.size) = some 1 := by rw [hi]; simp [hz1]
    have hco : Tryz.prog.cellsOf 5 = 1 := by simp [Program.cellsOf, hi, hz1]
    obtain ⟨M, hM⟩ : ∃ M, M = madeCells (Value.int .u8 0).cells (((s.size : Nat) : Int).toNat * i0.size) := ⟨_, rfl⟩
    have hMs : M.size = s.size := by rw [hM, size_madeCells, hz1]; simp
    have hmk : ∀ W : World, (Instr.makeSlice 77 (.int .i64 (s.size : Int)) (.int .i64 (s.size : Int))).run Tryz.prog W = .ok (.slice (some ⟨W.heap.size, 0, none⟩) s.size s.size) (W.alloc (.cells M 5)) := fun W => by
      have h := run_make (P := Tryz.prog) W 77 5 i0 (.int .u8 0) Tryz.underlying77 hi hz0 .i64 .i64 (s.size : Int) (s.size : Int) (by omega) (by omega) (by rw [hz2]; omega) (by omega)
      rw [← hM] at h
      simpa using h
    clear hM
    have hcp := Lib.run_copy_row_string (P := Tryz.prog) (w.alloc (.cells M 5)) 77 9 3 5 w.heap.size 0 s.size s.size s M 5 Tryz.underlying77 hinfo (heap_alloc_new w _) (Nat.le_refl _) (by omega)
    obtain ⟨Y, hY⟩ : ∃ Y, Y = (M.toList.take 0 ++ Lib.byteCells s.data.toList ++ M.toList.drop (0 + s.size)).toArray := ⟨_, rfl⟩
    rw [← hY] at hcp
    have hYl : Y.toList = Lib.byteCells s.data.toList := by
      rw [hY, List.toList_toArray, List.take_zero, List.nil_append, List.drop_of_length_le (by rw [Array.length_toList]; omega), List.append_nil]
    have hYs : Y.size = s.size := by rw [← Array.length_toList, hYl, Lib.byteCells_length, ← Lib.size_eq]
    have hgY : ((w.alloc (.cells M 5)).setRow w.heap.size Y).heap[w.heap.size]? = some (.cells Y 5 (0, 0)) := setRow_heap _ _ M _ 5 (0, 0) (heap_alloc_new w _)
    have hne : s.data.toList ≠ [] := fun e => h0 (by rw [Lib.size_eq, e]; rfl)
    have hUS := Lib.run_unsafeString_row (P := Tryz.prog) ((w.alloc (.cells M 5)).setRow w.heap.size Y) 152 3 9 5 Tryz.underlying152 hco w.heap.size Y.size (by unfold World.shape?; rw [hgY]) s.data.toList hne (by rw [← Lib.size_eq]; omega) (by rw [← Lib.size_eq]; omega)
      (fun j x hx => Lib.cells_of_row hgY Y.size j _ (by rw [List.take_of_length_le (by rw [Array.length_toList]; exact Nat.le_refl _), hYl]; simp [Lib.byteCells, hx]))
    rw [← Lib.size_eq] at hUS
    clear hY
    go_enter Tryz.func147, Tryz.ntmps147
    go_wp2
    go_ret
    have hb1 : Below w.heap.size w (w.alloc (.cells M 5)) := (Below.refl _ w).alloc (Nat.le_refl _) _
    have hb2 : Below w.heap.size (w.alloc (.cells M 5)) ((w.alloc (.cells M 5)).setRow w.heap.size Y) := ⟨rfl, rfl, rfl, by simp, fun k hk => setRow_other _ _ _ _ (by omega)⟩
    exact ⟨rfl, Lib.below_freeze (hb1.trans hb2) (p := ⟨w.heap.size, 0, none⟩) (Nat.le_refl _) _⟩
open Go.Sx in
theorem does_of_calls {P : Program} {f : FuncId} {args : List Value} {v : Value} (h : ∀ w, Calls P f args.toArray w fun e w' => e = .returned v ∧ Below w.heap.size w w') : Does P f args [] (fun v' hp' => v' = v ∧ hp' = []) := fun w _ =>
  (h w).mono fun e w' ⟨h1, h2⟩ => ⟨v, [], ⟨rfl, rfl⟩, h1, ⟨(fun c hc => by cases hc), List.Pairwise.nil⟩, ⟨h2.os, h2.tape, h2.output, h2.size, fun k hk _ => h2.block k hk⟩, (fun c hc => by cases hc), fun c hc => by cases hc⟩
open Go.Sx in
theorem Clone0_spec (t : List UInt8) (ht : t.length ≤ 1099511627776) : Does Tryz.prog 147 [.string (mkS t)] [] (fun v hp' => v = .string (mkS t) ∧ hp' = []) :=
  does_of_calls fun w => clone_calls (mkS t) w (by rw [size_mkS]; omega)
end Go.Proofs.YtpfhleghgkeemaaGreatDoor
