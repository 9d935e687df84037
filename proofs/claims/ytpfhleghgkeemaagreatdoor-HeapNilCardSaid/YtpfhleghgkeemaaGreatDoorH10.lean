import Derived.Test.YtpfhleghgkeemaaGreatDoorH9
import Derived.Test.YtpfhleghgkeemaaGreatDoorY2
namespace Go.Proofs.YtpfhleghgkeemaaGreatDoor
open Go Go.Sx
set_option linter.unusedVariables false
set_option linter.unusedSimpArgs false

/-- Is a value right among so many objects? -/
def rightB (v : V) (m : Int) : Bool :=
  if v.k = 0 then decide (v.n = 0) && decide (v.s = [])
  else if v.k = 1 then decide (v.s = [])
  else if v.k = 2 then decide (v.s = []) && (decide (v.n = 0) || decide (v.n = 1))
  else if v.k = 3 then decide (v.n = 0) && plainB v.s
  else if v.k = 4 then decide (v.s = []) && decide (0 ≤ v.n) && decide (v.n < m)
  else false

theorem Check_spec (v : V) (m : Int) (hl : v.s.length ≤ 1048576) : Does Tryz.prog 27 [valV v, .int .i64 m] [] (fun u hp' => u = .int .i64 (if rightB v m then 0 else 2) ∧ hp' = []) := by
  obtain ⟨k, n, s⟩ := v
  unfold valV
  dsimp only at hl ⊢
  by_cases k0 : k = 0
  · subst k0
    by_cases hn : n = 0
    · subst hn
      cases s with
      | nil =>
        refine fn_enter Tryz.func27 rfl 74 rfl fun w0 h0 => ?_
        refine SQ (RG ?_)
        refine RP [] (.d .a) 2 (.d (.k .a)) .a 28 [.int .i64 0, .int .i64 0, .string (mkS [])] fun g1 => ?_
        refine RR [] .z (.i 4 (.int .i64 0) .a) (.i (.blk g1 28 [.int .i64 0, .int .i64 0, .string (mkS [])]) .z) ?_
        refine RZ (NT (SQ (RG ?_)))
        refine RR [] .z (.i 5 (.bool false) .a) (.i (.blk g1 28 [.int .i64 0, .int .i64 0, .string (mkS [])]) .z) ?_
        refine RZ (NT (SQ (SQ (RG ?_))))
        refine RR [0] .z (.i 9 (.int .i64 0) .a) (.i (.blk g1 28 [.int .i64 0, .int .i64 0, .string (mkS [])]) .z) ?_
        refine RZ (NT (BK (SQ (RG ?_))))
        refine RR [] .z (.i 10 (.bool true) .a) (.i (.blk g1 28 [.int .i64 0, .int .i64 0, .string (mkS [])]) .z) ?_
        refine RZ (NT (CT (RG ?_)))
        refine RR [0, 0] .z (.i 5 (.bool true) (.d (.d (.d (.k .z))))) (.i (.blk g1 28 [.int .i64 0, .int .i64 0, .string (mkS [])]) .z) ?_
        refine RZ (BN (NT (SQ (SQ (RG ?_)))))
        refine RR [] .z (.i 73 (.bool false) (.d (.k .a))) (.i (.blk g1 28 [.int .i64 0, .int .i64 0, .string (mkS [])]) .z) ?_
        refine RZ (NT (CF (SK (NT (SQ (RG ?_))))))
        refine RR [] .z (.d (.k .a)) (.i (.blk g1 28 [.int .i64 0, .int .i64 0, .string (mkS [])]) .z) ?_
        refine RZ (NT (RE ?_))
        refine NE [] .z (.i (.blk g1 28 [.int .i64 0, .int .i64 0, .string (mkS [])]) .z) [] (.int .i64 0) ?_
        exact ⟨by simp [rightB, *], rfl⟩
      | cons c r =>
        refine fn_enter Tryz.func27 rfl 74 rfl fun w0 h0 => ?_
        refine SQ (RG ?_)
        refine RP [] (.d .a) 2 (.d (.k .a)) .a 28 [.int .i64 0, .int .i64 0, .string (mkS (c :: r))] fun g1 => ?_
        refine RR [] .z (.i 4 (.int .i64 0) .a) (.i (.blk g1 28 [.int .i64 0, .int .i64 0, .string (mkS (c :: r))]) .z) ?_
        refine RZ (NT (SQ (RG ?_)))
        refine RR [] .z (.i 5 (.bool false) .a) (.i (.blk g1 28 [.int .i64 0, .int .i64 0, .string (mkS (c :: r))]) .z) ?_
        refine RZ (NT (SQ (SQ (RG ?_))))
        refine RR [0] .z (.i 9 (.int .i64 0) .a) (.i (.blk g1 28 [.int .i64 0, .int .i64 0, .string (mkS (c :: r))]) .z) ?_
        refine RZ (NT (BK (SQ (RG ?_))))
        refine RR [] .z (.i 10 (.bool true) .a) (.i (.blk g1 28 [.int .i64 0, .int .i64 0, .string (mkS (c :: r))]) .z) ?_
        refine RZ (NT (CT (RG ?_)))
        refine RR [0, 0] .z (.d (.d (.k (.k .z)))) (.i (.blk g1 28 [.int .i64 0, .int .i64 0, .string (mkS (c :: r))]) .z) ?_
        refine RZ (BN (NT (SQ (SQ (RG ?_)))))
        refine RR [] .z (.i 73 (.bool true) (.d (.k .a))) (.i (.blk g1 28 [.int .i64 0, .int .i64 0, .string (mkS (c :: r))]) .z) ?_
        refine RZ (NT (CT (SQ (RG ?_))))
        refine RR [] .z (.i 4 (.int .i64 2) .z) (.i (.blk g1 28 [.int .i64 0, .int .i64 0, .string (mkS (c :: r))]) .z) ?_
        refine RZ (NT (RE (TR ?_)))
        refine NE [] .z (.i (.blk g1 28 [.int .i64 0, .int .i64 0, .string (mkS (c :: r))]) .z) [] (.int .i64 2) ?_
        exact ⟨by simp [rightB, *], rfl⟩
    · refine fn_enter Tryz.func27 rfl 74 rfl fun w0 h0 => ?_
      refine SQ (RG ?_)
      refine RP [] (.d .a) 2 (.d (.k .a)) .a 28 [.int .i64 0, .int .i64 n, .string (mkS s)] fun g1 => ?_
      refine RR [] .z (.i 4 (.int .i64 0) .a) (.i (.blk g1 28 [.int .i64 0, .int .i64 n, .string (mkS s)]) .z) ?_
      refine RZ (NT (SQ (RG ?_)))
      refine RR [] .z (.i 5 (.bool false) .a) (.i (.blk g1 28 [.int .i64 0, .int .i64 n, .string (mkS s)]) .z) ?_
      refine RZ (NT (SQ (SQ (RG ?_))))
      refine RR [0] .z (.i 9 (.int .i64 0) .a) (.i (.blk g1 28 [.int .i64 0, .int .i64 n, .string (mkS s)]) .z) ?_
      refine RZ (NT (BK (SQ (RG ?_))))
      refine RR [] .z (.i 10 (.bool true) .a) (.i (.blk g1 28 [.int .i64 0, .int .i64 n, .string (mkS s)]) .z) ?_
      refine RZ (NT (CT (RG ?_)))
      refine RR [0] (.d (.d (.d (.d .a)))) (.i 15 (.bool (n == 0)) (.d (.d (.k (.k (.k .z)))))) (.i (.blk g1 28 [.int .i64 0, .int .i64 n, .string (mkS s)]) .z) ?_
      refine SR 15 (n == 0) false (by simp only [bne_eq_false_iff_eq, beq_eq_false_iff_ne, ne_eq]; omega) ?_
      refine RR [] .z (.d (.d (.k (.k .z)))) (.i (.blk g1 28 [.int .i64 0, .int .i64 n, .string (mkS s)]) .z) ?_
      refine RZ (BN (NT (SQ (SQ (RG ?_)))))
      refine RR [] .z (.i 73 (.bool true) (.d (.k .a))) (.i (.blk g1 28 [.int .i64 0, .int .i64 n, .string (mkS s)]) .z) ?_
      refine RZ (NT (CT (SQ (RG ?_))))
      refine RR [] .z (.i 4 (.int .i64 2) .z) (.i (.blk g1 28 [.int .i64 0, .int .i64 n, .string (mkS s)]) .z) ?_
      refine RZ (NT (RE (TR ?_)))
      refine NE [] .z (.i (.blk g1 28 [.int .i64 0, .int .i64 n, .string (mkS s)]) .z) [] (.int .i64 2) ?_
      exact ⟨by simp [rightB, *], rfl⟩
  by_cases k1 : k = 1
  · subst k1
    cases s with
    | nil =>
      refine fn_enter Tryz.func27 rfl 74 rfl fun w0 h0 => ?_
      refine SQ (RG ?_)
      refine RP [] (.d .a) 2 (.d (.k .a)) .a 28 [.int .i64 1, .int .i64 n, .string (mkS [])] fun g1 => ?_
      refine RR [] .z (.i 4 (.int .i64 0) .a) (.i (.blk g1 28 [.int .i64 1, .int .i64 n, .string (mkS [])]) .z) ?_
      refine RZ (NT (SQ (RG ?_)))
      refine RR [] .z (.i 5 (.bool false) .a) (.i (.blk g1 28 [.int .i64 1, .int .i64 n, .string (mkS [])]) .z) ?_
      refine RZ (NT (SQ (SQ (RG ?_))))
      refine RR [0] .z (.i 9 (.int .i64 1) .a) (.i (.blk g1 28 [.int .i64 1, .int .i64 n, .string (mkS [])]) .z) ?_
      refine RZ (NT (BK (SQ (RG ?_))))
      refine RR [] .z (.i 10 (.bool false) .a) (.i (.blk g1 28 [.int .i64 1, .int .i64 n, .string (mkS [])]) .z) ?_
      refine RZ (NT (CF (SQ (RG ?_))))
      refine RR [] .z (.i 20 (.bool true) (.d (.k .a))) (.i (.blk g1 28 [.int .i64 1, .int .i64 n, .string (mkS [])]) .z) ?_
      refine RZ (NT (CT (RG ?_)))
      refine RR [0] .z (.i 5 (.bool true) (.d (.d (.d (.k .z))))) (.i (.blk g1 28 [.int .i64 1, .int .i64 n, .string (mkS [])]) .z) ?_
      refine RZ (BN (NT (SQ (SQ (RG ?_)))))
      refine RR [] .z (.i 73 (.bool false) (.d (.k .a))) (.i (.blk g1 28 [.int .i64 1, .int .i64 n, .string (mkS [])]) .z) ?_
      refine RZ (NT (CF (SK (NT (SQ (RG ?_))))))
      refine RR [] .z (.d (.k .a)) (.i (.blk g1 28 [.int .i64 1, .int .i64 n, .string (mkS [])]) .z) ?_
      refine RZ (NT (RE ?_))
      refine NE [] .z (.i (.blk g1 28 [.int .i64 1, .int .i64 n, .string (mkS [])]) .z) [] (.int .i64 0) ?_
      exact ⟨by simp [rightB, *], rfl⟩
    | cons c r =>
      refine fn_enter Tryz.func27 rfl 74 rfl fun w0 h0 => ?_
      refine SQ (RG ?_)
      refine RP [] (.d .a) 2 (.d (.k .a)) .a 28 [.int .i64 1, .int .i64 n, .string (mkS (c :: r))] fun g1 => ?_
      refine RR [] .z (.i 4 (.int .i64 0) .a) (.i (.blk g1 28 [.int .i64 1, .int .i64 n, .string (mkS (c :: r))]) .z) ?_
      refine RZ (NT (SQ (RG ?_)))
      refine RR [] .z (.i 5 (.bool false) .a) (.i (.blk g1 28 [.int .i64 1, .int .i64 n, .string (mkS (c :: r))]) .z) ?_
      refine RZ (NT (SQ (SQ (RG ?_))))
      refine RR [0] .z (.i 9 (.int .i64 1) .a) (.i (.blk g1 28 [.int .i64 1, .int .i64 n, .string (mkS (c :: r))]) .z) ?_
      refine RZ (NT (BK (SQ (RG ?_))))
      refine RR [] .z (.i 10 (.bool false) .a) (.i (.blk g1 28 [.int .i64 1, .int .i64 n, .string (mkS (c :: r))]) .z) ?_
      refine RZ (NT (CF (SQ (RG ?_))))
      refine RR [] .z (.i 20 (.bool true) (.d (.k .a))) (.i (.blk g1 28 [.int .i64 1, .int .i64 n, .string (mkS (c :: r))]) .z) ?_
      refine RZ (NT (CT (RG ?_)))
      refine RR [0] .z (.d (.d (.k (.k .z)))) (.i (.blk g1 28 [.int .i64 1, .int .i64 n, .string (mkS (c :: r))]) .z) ?_
      refine RZ (BN (NT (SQ (SQ (RG ?_)))))
      refine RR [] .z (.i 73 (.bool true) (.d (.k .a))) (.i (.blk g1 28 [.int .i64 1, .int .i64 n, .string (mkS (c :: r))]) .z) ?_
      refine RZ (NT (CT (SQ (RG ?_))))
      refine RR [] .z (.i 4 (.int .i64 2) .z) (.i (.blk g1 28 [.int .i64 1, .int .i64 n, .string (mkS (c :: r))]) .z) ?_
      refine RZ (NT (RE (TR ?_)))
      refine NE [] .z (.i (.blk g1 28 [.int .i64 1, .int .i64 n, .string (mkS (c :: r))]) .z) [] (.int .i64 2) ?_
      exact ⟨by simp [rightB, *], rfl⟩
  by_cases k2 : k = 2
  · subst k2
    cases s with
    | nil =>
      by_cases hn : n = 0
      · subst hn
        refine fn_enter Tryz.func27 rfl 74 rfl fun w0 h0 => ?_
        refine SQ (RG ?_)
        refine RP [] (.d .a) 2 (.d (.k .a)) .a 28 [.int .i64 2, .int .i64 0, .string (mkS [])] fun g1 => ?_
        refine RR [] .z (.i 4 (.int .i64 0) .a) (.i (.blk g1 28 [.int .i64 2, .int .i64 0, .string (mkS [])]) .z) ?_
        refine RZ (NT (SQ (RG ?_)))
        refine RR [] .z (.i 5 (.bool false) .a) (.i (.blk g1 28 [.int .i64 2, .int .i64 0, .string (mkS [])]) .z) ?_
        refine RZ (NT (SQ (SQ (RG ?_))))
        refine RR [0] .z (.i 9 (.int .i64 2) .a) (.i (.blk g1 28 [.int .i64 2, .int .i64 0, .string (mkS [])]) .z) ?_
        refine RZ (NT (BK (SQ (RG ?_))))
        refine RR [] .z (.i 10 (.bool false) .a) (.i (.blk g1 28 [.int .i64 2, .int .i64 0, .string (mkS [])]) .z) ?_
        refine RZ (NT (CF (SQ (RG ?_))))
        refine RR [] .z (.i 20 (.bool false) (.d (.k .a))) (.i (.blk g1 28 [.int .i64 2, .int .i64 0, .string (mkS [])]) .z) ?_
        refine RZ (NT (CF (SQ (RG ?_))))
        refine RR [] .z (.i 25 (.bool true) (.d (.k .a))) (.i (.blk g1 28 [.int .i64 2, .int .i64 0, .string (mkS [])]) .z) ?_
        refine RZ (NT (CT (RG ?_)))
        refine RR [0, 0] .z (.i 5 (.bool true) (.d (.d (.d (.k .z))))) (.i (.blk g1 28 [.int .i64 2, .int .i64 0, .string (mkS [])]) .z) ?_
        refine RZ (BN (NT (SQ (SQ (RG ?_)))))
        refine RR [] .z (.i 73 (.bool false) (.d (.k .a))) (.i (.blk g1 28 [.int .i64 2, .int .i64 0, .string (mkS [])]) .z) ?_
        refine RZ (NT (CF (SK (NT (SQ (RG ?_))))))
        refine RR [] .z (.d (.k .a)) (.i (.blk g1 28 [.int .i64 2, .int .i64 0, .string (mkS [])]) .z) ?_
        refine RZ (NT (RE ?_))
        refine NE [] .z (.i (.blk g1 28 [.int .i64 2, .int .i64 0, .string (mkS [])]) .z) [] (.int .i64 0) ?_
        exact ⟨by simp [rightB, *], rfl⟩
      · by_cases hn1 : n = 1
        · subst hn1
          refine fn_enter Tryz.func27 rfl 74 rfl fun w0 h0 => ?_
          refine SQ (RG ?_)
          refine RP [] (.d .a) 2 (.d (.k .a)) .a 28 [.int .i64 2, .int .i64 1, .string (mkS [])] fun g1 => ?_
          refine RR [] .z (.i 4 (.int .i64 0) .a) (.i (.blk g1 28 [.int .i64 2, .int .i64 1, .string (mkS [])]) .z) ?_
          refine RZ (NT (SQ (RG ?_)))
          refine RR [] .z (.i 5 (.bool false) .a) (.i (.blk g1 28 [.int .i64 2, .int .i64 1, .string (mkS [])]) .z) ?_
          refine RZ (NT (SQ (SQ (RG ?_))))
          refine RR [0] .z (.i 9 (.int .i64 2) .a) (.i (.blk g1 28 [.int .i64 2, .int .i64 1, .string (mkS [])]) .z) ?_
          refine RZ (NT (BK (SQ (RG ?_))))
          refine RR [] .z (.i 10 (.bool false) .a) (.i (.blk g1 28 [.int .i64 2, .int .i64 1, .string (mkS [])]) .z) ?_
          refine RZ (NT (CF (SQ (RG ?_))))
          refine RR [] .z (.i 20 (.bool false) (.d (.k .a))) (.i (.blk g1 28 [.int .i64 2, .int .i64 1, .string (mkS [])]) .z) ?_
          refine RZ (NT (CF (SQ (RG ?_))))
          refine RR [] .z (.i 25 (.bool true) (.d (.k .a))) (.i (.blk g1 28 [.int .i64 2, .int .i64 1, .string (mkS [])]) .z) ?_
          refine RZ (NT (CT (RG ?_)))
          refine RR [0, 0, 0] .z (.i 5 (.bool true) (.d (.d (.d (.k .z))))) (.i (.blk g1 28 [.int .i64 2, .int .i64 1, .string (mkS [])]) .z) ?_
          refine RZ (BN (NT (SQ (SQ (RG ?_)))))
          refine RR [] .z (.i 73 (.bool false) (.d (.k .a))) (.i (.blk g1 28 [.int .i64 2, .int .i64 1, .string (mkS [])]) .z) ?_
          refine RZ (NT (CF (SK (NT (SQ (RG ?_))))))
          refine RR [] .z (.d (.k .a)) (.i (.blk g1 28 [.int .i64 2, .int .i64 1, .string (mkS [])]) .z) ?_
          refine RZ (NT (RE ?_))
          refine NE [] .z (.i (.blk g1 28 [.int .i64 2, .int .i64 1, .string (mkS [])]) .z) [] (.int .i64 0) ?_
          exact ⟨by simp [rightB, *], rfl⟩
        · refine fn_enter Tryz.func27 rfl 74 rfl fun w0 h0 => ?_
          refine SQ (RG ?_)
          refine RP [] (.d .a) 2 (.d (.k .a)) .a 28 [.int .i64 2, .int .i64 n, .string (mkS [])] fun g1 => ?_
          refine RR [] .z (.i 4 (.int .i64 0) .a) (.i (.blk g1 28 [.int .i64 2, .int .i64 n, .string (mkS [])]) .z) ?_
          refine RZ (NT (SQ (RG ?_)))
          refine RR [] .z (.i 5 (.bool false) .a) (.i (.blk g1 28 [.int .i64 2, .int .i64 n, .string (mkS [])]) .z) ?_
          refine RZ (NT (SQ (SQ (RG ?_))))
          refine RR [0] .z (.i 9 (.int .i64 2) .a) (.i (.blk g1 28 [.int .i64 2, .int .i64 n, .string (mkS [])]) .z) ?_
          refine RZ (NT (BK (SQ (RG ?_))))
          refine RR [] .z (.i 10 (.bool false) .a) (.i (.blk g1 28 [.int .i64 2, .int .i64 n, .string (mkS [])]) .z) ?_
          refine RZ (NT (CF (SQ (RG ?_))))
          refine RR [] .z (.i 20 (.bool false) (.d (.k .a))) (.i (.blk g1 28 [.int .i64 2, .int .i64 n, .string (mkS [])]) .z) ?_
          refine RZ (NT (CF (SQ (RG ?_))))
          refine RR [] .z (.i 25 (.bool true) (.d (.k .a))) (.i (.blk g1 28 [.int .i64 2, .int .i64 n, .string (mkS [])]) .z) ?_
          refine RZ (NT (CT (RG ?_)))
          refine RR [0, 0] (.d (.d (.d (.d (.d (.d (.d (.d .a)))))))) (.i 34 (.bool (n == 0)) (.i 30 (.bool true) (.d (.d (.k (.k (.k .z))))))) (.i (.blk g1 28 [.int .i64 2, .int .i64 n, .string (mkS [])]) .z) ?_
          refine SR 34 (n == 0) false (by simp only [bne_eq_false_iff_eq, beq_eq_false_iff_ne, ne_eq]; omega) ?_
          refine RR [0] .z (.i 5 (.bool (n == 1)) (.d (.d (.d (.d (.k .z)))))) (.i (.blk g1 28 [.int .i64 2, .int .i64 n, .string (mkS [])]) .z) ?_
          refine RZ (BN (NT (SQ (SQ (RG ?_)))))
          refine RR [] .z (.i 73 (.bool !n == 1) (.d (.k .a))) (.i (.blk g1 28 [.int .i64 2, .int .i64 n, .string (mkS [])]) .z) ?_
          refine RZ (NT ?_)
          refine SC 73 (!n == 1) true (by simp; omega) ?_
          refine CT (SQ (RG ?_))
          refine RR [] .z (.i 4 (.int .i64 2) .z) (.i (.blk g1 28 [.int .i64 2, .int .i64 n, .string (mkS [])]) .z) ?_
          refine RZ (NT (RE (TR ?_)))
          refine NE [] .z (.i (.blk g1 28 [.int .i64 2, .int .i64 n, .string (mkS [])]) .z) [] (.int .i64 2) ?_
          exact ⟨by simp [rightB, *], rfl⟩
    | cons c r =>
      refine fn_enter Tryz.func27 rfl 74 rfl fun w0 h0 => ?_
      refine SQ (RG ?_)
      refine RP [] (.d .a) 2 (.d (.k .a)) .a 28 [.int .i64 2, .int .i64 n, .string (mkS (c :: r))] fun g1 => ?_
      refine RR [] .z (.i 4 (.int .i64 0) .a) (.i (.blk g1 28 [.int .i64 2, .int .i64 n, .string (mkS (c :: r))]) .z) ?_
      refine RZ (NT (SQ (RG ?_)))
      refine RR [] .z (.i 5 (.bool false) .a) (.i (.blk g1 28 [.int .i64 2, .int .i64 n, .string (mkS (c :: r))]) .z) ?_
      refine RZ (NT (SQ (SQ (RG ?_))))
      refine RR [0] .z (.i 9 (.int .i64 2) .a) (.i (.blk g1 28 [.int .i64 2, .int .i64 n, .string (mkS (c :: r))]) .z) ?_
      refine RZ (NT (BK (SQ (RG ?_))))
      refine RR [] .z (.i 10 (.bool false) .a) (.i (.blk g1 28 [.int .i64 2, .int .i64 n, .string (mkS (c :: r))]) .z) ?_
      refine RZ (NT (CF (SQ (RG ?_))))
      refine RR [] .z (.i 20 (.bool false) (.d (.k .a))) (.i (.blk g1 28 [.int .i64 2, .int .i64 n, .string (mkS (c :: r))]) .z) ?_
      refine RZ (NT (CF (SQ (RG ?_))))
      refine RR [] .z (.i 25 (.bool true) (.d (.k .a))) (.i (.blk g1 28 [.int .i64 2, .int .i64 n, .string (mkS (c :: r))]) .z) ?_
      refine RZ (NT (CT (RG ?_)))
      refine RR [0] .z (.d (.d (.k (.k .z)))) (.i (.blk g1 28 [.int .i64 2, .int .i64 n, .string (mkS (c :: r))]) .z) ?_
      refine RZ (BN (NT (SQ (SQ (RG ?_)))))
      refine RR [] .z (.i 73 (.bool true) (.d (.k .a))) (.i (.blk g1 28 [.int .i64 2, .int .i64 n, .string (mkS (c :: r))]) .z) ?_
      refine RZ (NT (CT (SQ (RG ?_))))
      refine RR [] .z (.i 4 (.int .i64 2) .z) (.i (.blk g1 28 [.int .i64 2, .int .i64 n, .string (mkS (c :: r))]) .z) ?_
      refine RZ (NT (RE (TR ?_)))
      refine NE [] .z (.i (.blk g1 28 [.int .i64 2, .int .i64 n, .string (mkS (c :: r))]) .z) [] (.int .i64 2) ?_
      exact ⟨by simp [rightB, *], rfl⟩
  by_cases k3 : k = 3
  · subst k3
    by_cases hn : n = 0
    · subst hn
      cases hp : plainB s with
      | true =>
        refine fn_enter Tryz.func27 rfl 74 rfl fun w0 h0 => ?_
        refine SQ (RG ?_)
        refine RP [] (.d .a) 2 (.d (.k .a)) .a 28 [.int .i64 3, .int .i64 0, .string (mkS s)] fun g1 => ?_
        refine RR [] .z (.i 4 (.int .i64 0) .a) (.i (.blk g1 28 [.int .i64 3, .int .i64 0, .string (mkS s)]) .z) ?_
        refine RZ (NT (SQ (RG ?_)))
        refine RR [] .z (.i 5 (.bool false) .a) (.i (.blk g1 28 [.int .i64 3, .int .i64 0, .string (mkS s)]) .z) ?_
        refine RZ (NT (SQ (SQ (RG ?_))))
        refine RR [0] .z (.i 9 (.int .i64 3) .a) (.i (.blk g1 28 [.int .i64 3, .int .i64 0, .string (mkS s)]) .z) ?_
        refine RZ (NT (BK (SQ (RG ?_))))
        refine RR [] .z (.i 10 (.bool false) .a) (.i (.blk g1 28 [.int .i64 3, .int .i64 0, .string (mkS s)]) .z) ?_
        refine RZ (NT (CF (SQ (RG ?_))))
        refine RR [] .z (.i 20 (.bool false) (.d (.k .a))) (.i (.blk g1 28 [.int .i64 3, .int .i64 0, .string (mkS s)]) .z) ?_
        refine RZ (NT (CF (SQ (RG ?_))))
        refine RR [] .z (.i 25 (.bool false) (.d (.k .a))) (.i (.blk g1 28 [.int .i64 3, .int .i64 0, .string (mkS s)]) .z) ?_
        refine RZ (NT (CF (SQ (RG ?_))))
        refine RR [] .z (.i 40 (.bool true) (.d (.k .a))) (.i (.blk g1 28 [.int .i64 3, .int .i64 0, .string (mkS s)]) .z) ?_
        refine RZ (NT (CT (SQ (RG ?_))))
        refine RR [0] (.d (.d (.d .a))) (.i 45 (.agg #[.int .i64 3, .string (mkS s), .int .i64 0, .int .i64 0, .int .i64 0]) (.d (.d (.k (.k (.k .z)))))) (.i (.blk g1 28 [.int .i64 3, .int .i64 0, .string (mkS s)]) .z) ?_
        refine RC (dst := some 46) [] (.i (.blk g1 28 [.int .i64 3, .int .i64 0, .string (mkS s)]) .z) (TextStr_spec s hl) ?_
        rintro v _ ⟨rfl, rfl⟩
        rw [hp]
        refine RR [] .z (.i 7 (.int .i64 0) (.d (.d (.k .a)))) (.i (.blk g1 28 [.int .i64 3, .int .i64 0, .string (mkS s)]) .z) ?_
        refine RZ (NT (RG ?_))
        refine RR [0] .z (.i 5 (.bool true) (.d (.d (.k .z)))) (.i (.blk g1 28 [.int .i64 3, .int .i64 0, .string (mkS s)]) .z) ?_
        refine RZ (BN (NT (SQ (SQ (RG ?_)))))
        refine RR [] .z (.i 73 (.bool false) (.d (.k .a))) (.i (.blk g1 28 [.int .i64 3, .int .i64 0, .string (mkS s)]) .z) ?_
        refine RZ (NT (CF (SK (NT (SQ (RG ?_))))))
        refine RR [] .z (.d (.k .a)) (.i (.blk g1 28 [.int .i64 3, .int .i64 0, .string (mkS s)]) .z) ?_
        refine RZ (NT (RE ?_))
        refine NE [] .z (.i (.blk g1 28 [.int .i64 3, .int .i64 0, .string (mkS s)]) .z) [] (.int .i64 0) ?_
        exact ⟨by simp [rightB, *], rfl⟩
      | false =>
        refine fn_enter Tryz.func27 rfl 74 rfl fun w0 h0 => ?_
        refine SQ (RG ?_)
        refine RP [] (.d .a) 2 (.d (.k .a)) .a 28 [.int .i64 3, .int .i64 0, .string (mkS s)] fun g1 => ?_
        refine RR [] .z (.i 4 (.int .i64 0) .a) (.i (.blk g1 28 [.int .i64 3, .int .i64 0, .string (mkS s)]) .z) ?_
        refine RZ (NT (SQ (RG ?_)))
        refine RR [] .z (.i 5 (.bool false) .a) (.i (.blk g1 28 [.int .i64 3, .int .i64 0, .string (mkS s)]) .z) ?_
        refine RZ (NT (SQ (SQ (RG ?_))))
        refine RR [0] .z (.i 9 (.int .i64 3) .a) (.i (.blk g1 28 [.int .i64 3, .int .i64 0, .string (mkS s)]) .z) ?_
        refine RZ (NT (BK (SQ (RG ?_))))
        refine RR [] .z (.i 10 (.bool false) .a) (.i (.blk g1 28 [.int .i64 3, .int .i64 0, .string (mkS s)]) .z) ?_
        refine RZ (NT (CF (SQ (RG ?_))))
        refine RR [] .z (.i 20 (.bool false) (.d (.k .a))) (.i (.blk g1 28 [.int .i64 3, .int .i64 0, .string (mkS s)]) .z) ?_
        refine RZ (NT (CF (SQ (RG ?_))))
        refine RR [] .z (.i 25 (.bool false) (.d (.k .a))) (.i (.blk g1 28 [.int .i64 3, .int .i64 0, .string (mkS s)]) .z) ?_
        refine RZ (NT (CF (SQ (RG ?_))))
        refine RR [] .z (.i 40 (.bool true) (.d (.k .a))) (.i (.blk g1 28 [.int .i64 3, .int .i64 0, .string (mkS s)]) .z) ?_
        refine RZ (NT (CT (SQ (RG ?_))))
        refine RR [0] (.d (.d (.d .a))) (.i 45 (.agg #[.int .i64 3, .string (mkS s), .int .i64 0, .int .i64 0, .int .i64 0]) (.d (.d (.k (.k (.k .z)))))) (.i (.blk g1 28 [.int .i64 3, .int .i64 0, .string (mkS s)]) .z) ?_
        refine RC (dst := some 46) [] (.i (.blk g1 28 [.int .i64 3, .int .i64 0, .string (mkS s)]) .z) (TextStr_spec s hl) ?_
        rintro v _ ⟨rfl, rfl⟩
        rw [hp]
        refine RR [] .z (.i 7 (.int .i64 2) (.d (.d (.k .a)))) (.i (.blk g1 28 [.int .i64 3, .int .i64 0, .string (mkS s)]) .z) ?_
        refine RZ (NT (RG ?_))
        refine RR [0] .z (.d (.k (.k .z))) (.i (.blk g1 28 [.int .i64 3, .int .i64 0, .string (mkS s)]) .z) ?_
        refine RZ (BN (NT (SQ (SQ (RG ?_)))))
        refine RR [] .z (.i 73 (.bool true) (.d (.k .a))) (.i (.blk g1 28 [.int .i64 3, .int .i64 0, .string (mkS s)]) .z) ?_
        refine RZ (NT (CT (SQ (RG ?_))))
        refine RR [] .z (.i 4 (.int .i64 2) .z) (.i (.blk g1 28 [.int .i64 3, .int .i64 0, .string (mkS s)]) .z) ?_
        refine RZ (NT (RE (TR ?_)))
        refine NE [] .z (.i (.blk g1 28 [.int .i64 3, .int .i64 0, .string (mkS s)]) .z) [] (.int .i64 2) ?_
        exact ⟨by simp [rightB, *], rfl⟩
    · cases hp : plainB s with
      | true =>
        refine fn_enter Tryz.func27 rfl 74 rfl fun w0 h0 => ?_
        refine SQ (RG ?_)
        refine RP [] (.d .a) 2 (.d (.k .a)) .a 28 [.int .i64 3, .int .i64 n, .string (mkS s)] fun g1 => ?_
        refine RR [] .z (.i 4 (.int .i64 0) .a) (.i (.blk g1 28 [.int .i64 3, .int .i64 n, .string (mkS s)]) .z) ?_
        refine RZ (NT (SQ (RG ?_)))
        refine RR [] .z (.i 5 (.bool false) .a) (.i (.blk g1 28 [.int .i64 3, .int .i64 n, .string (mkS s)]) .z) ?_
        refine RZ (NT (SQ (SQ (RG ?_))))
        refine RR [0] .z (.i 9 (.int .i64 3) .a) (.i (.blk g1 28 [.int .i64 3, .int .i64 n, .string (mkS s)]) .z) ?_
        refine RZ (NT (BK (SQ (RG ?_))))
        refine RR [] .z (.i 10 (.bool false) .a) (.i (.blk g1 28 [.int .i64 3, .int .i64 n, .string (mkS s)]) .z) ?_
        refine RZ (NT (CF (SQ (RG ?_))))
        refine RR [] .z (.i 20 (.bool false) (.d (.k .a))) (.i (.blk g1 28 [.int .i64 3, .int .i64 n, .string (mkS s)]) .z) ?_
        refine RZ (NT (CF (SQ (RG ?_))))
        refine RR [] .z (.i 25 (.bool false) (.d (.k .a))) (.i (.blk g1 28 [.int .i64 3, .int .i64 n, .string (mkS s)]) .z) ?_
        refine RZ (NT (CF (SQ (RG ?_))))
        refine RR [] .z (.i 40 (.bool true) (.d (.k .a))) (.i (.blk g1 28 [.int .i64 3, .int .i64 n, .string (mkS s)]) .z) ?_
        refine RZ (NT (CT (SQ (RG ?_))))
        refine RR [0] (.d (.d (.d .a))) (.i 45 (.agg #[.int .i64 3, .string (mkS s), .int .i64 0, .int .i64 0, .int .i64 0]) (.d (.d (.k (.k (.k .z)))))) (.i (.blk g1 28 [.int .i64 3, .int .i64 n, .string (mkS s)]) .z) ?_
        refine RC (dst := some 46) [] (.i (.blk g1 28 [.int .i64 3, .int .i64 n, .string (mkS s)]) .z) (TextStr_spec s hl) ?_
        rintro v _ ⟨rfl, rfl⟩
        rw [hp]
        refine RR [] .z (.i 7 (.int .i64 0) (.d (.d (.k .a)))) (.i (.blk g1 28 [.int .i64 3, .int .i64 n, .string (mkS s)]) .z) ?_
        refine RZ (NT (RG ?_))
        refine RR [0] (.d (.d (.d (.d .a)))) (.i 52 (.bool (n == 0)) (.k (.k (.k .z)))) (.i (.blk g1 28 [.int .i64 3, .int .i64 n, .string (mkS s)]) .z) ?_
        refine SR 52 (n == 0) false (by simp only [bne_eq_false_iff_eq, beq_eq_false_iff_ne, ne_eq]; omega) ?_
        refine RR [] .z (.d (.d (.d (.k .a)))) (.i (.blk g1 28 [.int .i64 3, .int .i64 n, .string (mkS s)]) .z) ?_
        refine RZ (BN (NT (SQ (SQ (RG ?_)))))
        refine RR [] .z (.i 73 (.bool true) (.d (.k .a))) (.i (.blk g1 28 [.int .i64 3, .int .i64 n, .string (mkS s)]) .z) ?_
        refine RZ (NT (CT (SQ (RG ?_))))
        refine RR [] .z (.i 4 (.int .i64 2) .z) (.i (.blk g1 28 [.int .i64 3, .int .i64 n, .string (mkS s)]) .z) ?_
        refine RZ (NT (RE (TR ?_)))
        refine NE [] .z (.i (.blk g1 28 [.int .i64 3, .int .i64 n, .string (mkS s)]) .z) [] (.int .i64 2) ?_
        exact ⟨by simp [rightB, *], rfl⟩
      | false =>
        refine fn_enter Tryz.func27 rfl 74 rfl fun w0 h0 => ?_
        refine SQ (RG ?_)
        refine RP [] (.d .a) 2 (.d (.k .a)) .a 28 [.int .i64 3, .int .i64 n, .string (mkS s)] fun g1 => ?_
        refine RR [] .z (.i 4 (.int .i64 0) .a) (.i (.blk g1 28 [.int .i64 3, .int .i64 n, .string (mkS s)]) .z) ?_
        refine RZ (NT (SQ (RG ?_)))
        refine RR [] .z (.i 5 (.bool false) .a) (.i (.blk g1 28 [.int .i64 3, .int .i64 n, .string (mkS s)]) .z) ?_
        refine RZ (NT (SQ (SQ (RG ?_))))
        refine RR [0] .z (.i 9 (.int .i64 3) .a) (.i (.blk g1 28 [.int .i64 3, .int .i64 n, .string (mkS s)]) .z) ?_
        refine RZ (NT (BK (SQ (RG ?_))))
        refine RR [] .z (.i 10 (.bool false) .a) (.i (.blk g1 28 [.int .i64 3, .int .i64 n, .string (mkS s)]) .z) ?_
        refine RZ (NT (CF (SQ (RG ?_))))
        refine RR [] .z (.i 20 (.bool false) (.d (.k .a))) (.i (.blk g1 28 [.int .i64 3, .int .i64 n, .string (mkS s)]) .z) ?_
        refine RZ (NT (CF (SQ (RG ?_))))
        refine RR [] .z (.i 25 (.bool false) (.d (.k .a))) (.i (.blk g1 28 [.int .i64 3, .int .i64 n, .string (mkS s)]) .z) ?_
        refine RZ (NT (CF (SQ (RG ?_))))
        refine RR [] .z (.i 40 (.bool true) (.d (.k .a))) (.i (.blk g1 28 [.int .i64 3, .int .i64 n, .string (mkS s)]) .z) ?_
        refine RZ (NT (CT (SQ (RG ?_))))
        refine RR [0] (.d (.d (.d .a))) (.i 45 (.agg #[.int .i64 3, .string (mkS s), .int .i64 0, .int .i64 0, .int .i64 0]) (.d (.d (.k (.k (.k .z)))))) (.i (.blk g1 28 [.int .i64 3, .int .i64 n, .string (mkS s)]) .z) ?_
        refine RC (dst := some 46) [] (.i (.blk g1 28 [.int .i64 3, .int .i64 n, .string (mkS s)]) .z) (TextStr_spec s hl) ?_
        rintro v _ ⟨rfl, rfl⟩
        rw [hp]
        refine RR [] .z (.i 7 (.int .i64 2) (.d (.d (.k .a)))) (.i (.blk g1 28 [.int .i64 3, .int .i64 n, .string (mkS s)]) .z) ?_
        refine RZ (NT (RG ?_))
        refine RR [0] (.d (.d (.d (.d .a)))) (.i 52 (.bool (n == 0)) (.k (.k (.k .z)))) (.i (.blk g1 28 [.int .i64 3, .int .i64 n, .string (mkS s)]) .z) ?_
        refine SR 52 (n == 0) false (by simp only [bne_eq_false_iff_eq, beq_eq_false_iff_ne, ne_eq]; omega) ?_
        refine RR [] .z (.d (.d (.d (.k .a)))) (.i (.blk g1 28 [.int .i64 3, .int .i64 n, .string (mkS s)]) .z) ?_
        refine RZ (BN (NT (SQ (SQ (RG ?_)))))
        refine RR [] .z (.i 73 (.bool true) (.d (.k .a))) (.i (.blk g1 28 [.int .i64 3, .int .i64 n, .string (mkS s)]) .z) ?_
        refine RZ (NT (CT (SQ (RG ?_))))
        refine RR [] .z (.i 4 (.int .i64 2) .z) (.i (.blk g1 28 [.int .i64 3, .int .i64 n, .string (mkS s)]) .z) ?_
        refine RZ (NT (RE (TR ?_)))
        refine NE [] .z (.i (.blk g1 28 [.int .i64 3, .int .i64 n, .string (mkS s)]) .z) [] (.int .i64 2) ?_
        exact ⟨by simp [rightB, *], rfl⟩
  by_cases k4 : k = 4
  · subst k4
    cases s with
    | nil =>
      by_cases h0 : 0 ≤ n
      · by_cases hm : n < m
        · refine fn_enter Tryz.func27 rfl 74 rfl fun w0 h0 => ?_
          refine SQ (RG ?_)
          refine RP [] (.d .a) 2 (.d (.k .a)) .a 28 [.int .i64 4, .int .i64 n, .string (mkS [])] fun g1 => ?_
          refine RR [] .z (.i 4 (.int .i64 0) .a) (.i (.blk g1 28 [.int .i64 4, .int .i64 n, .string (mkS [])]) .z) ?_
          refine RZ (NT (SQ (RG ?_)))
          refine RR [] .z (.i 5 (.bool false) .a) (.i (.blk g1 28 [.int .i64 4, .int .i64 n, .string (mkS [])]) .z) ?_
          refine RZ (NT (SQ (SQ (RG ?_))))
          refine RR [0] .z (.i 9 (.int .i64 4) .a) (.i (.blk g1 28 [.int .i64 4, .int .i64 n, .string (mkS [])]) .z) ?_
          refine RZ (NT (BK (SQ (RG ?_))))
          refine RR [] .z (.i 10 (.bool false) .a) (.i (.blk g1 28 [.int .i64 4, .int .i64 n, .string (mkS [])]) .z) ?_
          refine RZ (NT (CF (SQ (RG ?_))))
          refine RR [] .z (.i 20 (.bool false) (.d (.k .a))) (.i (.blk g1 28 [.int .i64 4, .int .i64 n, .string (mkS [])]) .z) ?_
          refine RZ (NT (CF (SQ (RG ?_))))
          refine RR [] .z (.i 25 (.bool false) (.d (.k .a))) (.i (.blk g1 28 [.int .i64 4, .int .i64 n, .string (mkS [])]) .z) ?_
          refine RZ (NT (CF (SQ (RG ?_))))
          refine RR [] .z (.i 40 (.bool false) (.d (.k .a))) (.i (.blk g1 28 [.int .i64 4, .int .i64 n, .string (mkS [])]) .z) ?_
          refine RZ (NT (CF (SQ (RG ?_))))
          refine RR [] .z (.i 56 (.bool true) (.d (.d (.k .a)))) (.i (.blk g1 28 [.int .i64 4, .int .i64 n, .string (mkS [])]) .z) ?_
          refine RZ (NT (CT (RG ?_)))
          refine RR [0, 0] (.d (.d (.d (.d (.d (.d (.d (.d (.d .a))))))))) (.i 66 (.bool (decide (n ≥ 0))) (.d (.k .a))) (.i (.blk g1 28 [.int .i64 4, .int .i64 n, .string (mkS [])]) .z) ?_
          refine SR 66 (decide (n ≥ 0)) true (decide_eq_true (by omega)) ?_
          refine RR [0] .z (.i 5 (.bool (decide (n < m))) (.d (.d (.d (.k .z))))) (.i (.blk g1 28 [.int .i64 4, .int .i64 n, .string (mkS [])]) .z) ?_
          refine RZ (BN (NT (SQ (SQ (RG ?_)))))
          refine RR [] .z (.i 73 (.bool !decide (n < m)) (.d (.k .a))) (.i (.blk g1 28 [.int .i64 4, .int .i64 n, .string (mkS [])]) .z) ?_
          refine RZ (NT ?_)
          refine SC 73 (!decide (n < m)) false (by simp; omega) ?_
          refine CF (SK (NT (SQ (RG ?_))))
          refine RR [] .z (.d (.d (.k .a))) (.i (.blk g1 28 [.int .i64 4, .int .i64 n, .string (mkS [])]) .z) ?_
          refine RZ (NT (RE ?_))
          refine NE [] .z (.i (.blk g1 28 [.int .i64 4, .int .i64 n, .string (mkS [])]) .z) [] (.int .i64 0) ?_
          exact ⟨by simp [rightB, *], rfl⟩
        · refine fn_enter Tryz.func27 rfl 74 rfl fun w0 h0 => ?_
          refine SQ (RG ?_)
          refine RP [] (.d .a) 2 (.d (.k .a)) .a 28 [.int .i64 4, .int .i64 n, .string (mkS [])] fun g1 => ?_
          refine RR [] .z (.i 4 (.int .i64 0) .a) (.i (.blk g1 28 [.int .i64 4, .int .i64 n, .string (mkS [])]) .z) ?_
          refine RZ (NT (SQ (RG ?_)))
          refine RR [] .z (.i 5 (.bool false) .a) (.i (.blk g1 28 [.int .i64 4, .int .i64 n, .string (mkS [])]) .z) ?_
          refine RZ (NT (SQ (SQ (RG ?_))))
          refine RR [0] .z (.i 9 (.int .i64 4) .a) (.i (.blk g1 28 [.int .i64 4, .int .i64 n, .string (mkS [])]) .z) ?_
          refine RZ (NT (BK (SQ (RG ?_))))
          refine RR [] .z (.i 10 (.bool false) .a) (.i (.blk g1 28 [.int .i64 4, .int .i64 n, .string (mkS [])]) .z) ?_
          refine RZ (NT (CF (SQ (RG ?_))))
          refine RR [] .z (.i 20 (.bool false) (.d (.k .a))) (.i (.blk g1 28 [.int .i64 4, .int .i64 n, .string (mkS [])]) .z) ?_
          refine RZ (NT (CF (SQ (RG ?_))))
          refine RR [] .z (.i 25 (.bool false) (.d (.k .a))) (.i (.blk g1 28 [.int .i64 4, .int .i64 n, .string (mkS [])]) .z) ?_
          refine RZ (NT (CF (SQ (RG ?_))))
          refine RR [] .z (.i 40 (.bool false) (.d (.k .a))) (.i (.blk g1 28 [.int .i64 4, .int .i64 n, .string (mkS [])]) .z) ?_
          refine RZ (NT (CF (SQ (RG ?_))))
          refine RR [] .z (.i 56 (.bool true) (.d (.d (.k .a)))) (.i (.blk g1 28 [.int .i64 4, .int .i64 n, .string (mkS [])]) .z) ?_
          refine RZ (NT (CT (RG ?_)))
          refine RR [0, 0] (.d (.d (.d (.d (.d (.d (.d (.d (.d .a))))))))) (.i 66 (.bool (decide (n ≥ 0))) (.d (.k .a))) (.i (.blk g1 28 [.int .i64 4, .int .i64 n, .string (mkS [])]) .z) ?_
          refine SR 66 (decide (n ≥ 0)) true (decide_eq_true (by omega)) ?_
          refine RR [0] .z (.i 5 (.bool (decide (n < m))) (.d (.d (.d (.k .z))))) (.i (.blk g1 28 [.int .i64 4, .int .i64 n, .string (mkS [])]) .z) ?_
          refine RZ (BN (NT (SQ (SQ (RG ?_)))))
          refine RR [] .z (.i 73 (.bool !decide (n < m)) (.d (.k .a))) (.i (.blk g1 28 [.int .i64 4, .int .i64 n, .string (mkS [])]) .z) ?_
          refine RZ (NT ?_)
          refine SC 73 (!decide (n < m)) true (by simp; omega) ?_
          refine CT (SQ (RG ?_))
          refine RR [] .z (.i 4 (.int .i64 2) .z) (.i (.blk g1 28 [.int .i64 4, .int .i64 n, .string (mkS [])]) .z) ?_
          refine RZ (NT (RE (TR ?_)))
          refine NE [] .z (.i (.blk g1 28 [.int .i64 4, .int .i64 n, .string (mkS [])]) .z) [] (.int .i64 2) ?_
          exact ⟨by simp [rightB, *], rfl⟩
      · refine fn_enter Tryz.func27 rfl 74 rfl fun w0 h0 => ?_
        refine SQ (RG ?_)
        refine RP [] (.d .a) 2 (.d (.k .a)) .a 28 [.int .i64 4, .int .i64 n, .string (mkS [])] fun g1 => ?_
        refine RR [] .z (.i 4 (.int .i64 0) .a) (.i (.blk g1 28 [.int .i64 4, .int .i64 n, .string (mkS [])]) .z) ?_
        refine RZ (NT (SQ (RG ?_)))
        refine RR [] .z (.i 5 (.bool false) .a) (.i (.blk g1 28 [.int .i64 4, .int .i64 n, .string (mkS [])]) .z) ?_
        refine RZ (NT (SQ (SQ (RG ?_))))
        refine RR [0] .z (.i 9 (.int .i64 4) .a) (.i (.blk g1 28 [.int .i64 4, .int .i64 n, .string (mkS [])]) .z) ?_
        refine RZ (NT (BK (SQ (RG ?_))))
        refine RR [] .z (.i 10 (.bool false) .a) (.i (.blk g1 28 [.int .i64 4, .int .i64 n, .string (mkS [])]) .z) ?_
        refine RZ (NT (CF (SQ (RG ?_))))
        refine RR [] .z (.i 20 (.bool false) (.d (.k .a))) (.i (.blk g1 28 [.int .i64 4, .int .i64 n, .string (mkS [])]) .z) ?_
        refine RZ (NT (CF (SQ (RG ?_))))
        refine RR [] .z (.i 25 (.bool false) (.d (.k .a))) (.i (.blk g1 28 [.int .i64 4, .int .i64 n, .string (mkS [])]) .z) ?_
        refine RZ (NT (CF (SQ (RG ?_))))
        refine RR [] .z (.i 40 (.bool false) (.d (.k .a))) (.i (.blk g1 28 [.int .i64 4, .int .i64 n, .string (mkS [])]) .z) ?_
        refine RZ (NT (CF (SQ (RG ?_))))
        refine RR [] .z (.i 56 (.bool true) (.d (.d (.k .a)))) (.i (.blk g1 28 [.int .i64 4, .int .i64 n, .string (mkS [])]) .z) ?_
        refine RZ (NT (CT (RG ?_)))
        refine RR [0, 0] (.d (.d (.d (.d (.d (.d (.d (.d (.d .a))))))))) (.i 66 (.bool (decide (n ≥ 0))) (.d (.k .a))) (.i (.blk g1 28 [.int .i64 4, .int .i64 n, .string (mkS [])]) .z) ?_
        refine SR 66 (decide (n ≥ 0)) false (decide_eq_false (by omega)) ?_
        refine RR [] .z (.d (.d (.k (.k .z)))) (.i (.blk g1 28 [.int .i64 4, .int .i64 n, .string (mkS [])]) .z) ?_
        refine RZ (BN (NT (SQ (SQ (RG ?_)))))
        refine RR [] .z (.i 73 (.bool true) (.d (.k .a))) (.i (.blk g1 28 [.int .i64 4, .int .i64 n, .string (mkS [])]) .z) ?_
        refine RZ (NT (CT (SQ (RG ?_))))
        refine RR [] .z (.i 4 (.int .i64 2) .z) (.i (.blk g1 28 [.int .i64 4, .int .i64 n, .string (mkS [])]) .z) ?_
        refine RZ (NT (RE (TR ?_)))
        refine NE [] .z (.i (.blk g1 28 [.int .i64 4, .int .i64 n, .string (mkS [])]) .z) [] (.int .i64 2) ?_
        exact ⟨by simp [rightB, *], rfl⟩
    | cons c r =>
      refine fn_enter Tryz.func27 rfl 74 rfl fun w0 h0 => ?_
      refine SQ (RG ?_)
      refine RP [] (.d .a) 2 (.d (.k .a)) .a 28 [.int .i64 4, .int .i64 n, .string (mkS (c :: r))] fun g1 => ?_
      refine RR [] .z (.i 4 (.int .i64 0) .a) (.i (.blk g1 28 [.int .i64 4, .int .i64 n, .string (mkS (c :: r))]) .z) ?_
      refine RZ (NT (SQ (RG ?_)))
      refine RR [] .z (.i 5 (.bool false) .a) (.i (.blk g1 28 [.int .i64 4, .int .i64 n, .string (mkS (c :: r))]) .z) ?_
      refine RZ (NT (SQ (SQ (RG ?_))))
      refine RR [0] .z (.i 9 (.int .i64 4) .a) (.i (.blk g1 28 [.int .i64 4, .int .i64 n, .string (mkS (c :: r))]) .z) ?_
      refine RZ (NT (BK (SQ (RG ?_))))
      refine RR [] .z (.i 10 (.bool false) .a) (.i (.blk g1 28 [.int .i64 4, .int .i64 n, .string (mkS (c :: r))]) .z) ?_
      refine RZ (NT (CF (SQ (RG ?_))))
      refine RR [] .z (.i 20 (.bool false) (.d (.k .a))) (.i (.blk g1 28 [.int .i64 4, .int .i64 n, .string (mkS (c :: r))]) .z) ?_
      refine RZ (NT (CF (SQ (RG ?_))))
      refine RR [] .z (.i 25 (.bool false) (.d (.k .a))) (.i (.blk g1 28 [.int .i64 4, .int .i64 n, .string (mkS (c :: r))]) .z) ?_
      refine RZ (NT (CF (SQ (RG ?_))))
      refine RR [] .z (.i 40 (.bool false) (.d (.k .a))) (.i (.blk g1 28 [.int .i64 4, .int .i64 n, .string (mkS (c :: r))]) .z) ?_
      refine RZ (NT (CF (SQ (RG ?_))))
      refine RR [] .z (.i 56 (.bool true) (.d (.d (.k .a)))) (.i (.blk g1 28 [.int .i64 4, .int .i64 n, .string (mkS (c :: r))]) .z) ?_
      refine RZ (NT (CT (RG ?_)))
      refine RR [0] .z (.d (.k (.k .z))) (.i (.blk g1 28 [.int .i64 4, .int .i64 n, .string (mkS (c :: r))]) .z) ?_
      refine RZ (BN (NT (SQ (SQ (RG ?_)))))
      refine RR [] .z (.i 73 (.bool true) (.d (.k .a))) (.i (.blk g1 28 [.int .i64 4, .int .i64 n, .string (mkS (c :: r))]) .z) ?_
      refine RZ (NT (CT (SQ (RG ?_))))
      refine RR [] .z (.i 4 (.int .i64 2) .z) (.i (.blk g1 28 [.int .i64 4, .int .i64 n, .string (mkS (c :: r))]) .z) ?_
      refine RZ (NT (RE (TR ?_)))
      refine NE [] .z (.i (.blk g1 28 [.int .i64 4, .int .i64 n, .string (mkS (c :: r))]) .z) [] (.int .i64 2) ?_
      exact ⟨by simp [rightB, *], rfl⟩
  refine fn_enter Tryz.func27 rfl 74 rfl fun w0 h0 => ?_
  refine SQ (RG ?_)
  refine RP [] (.d .a) 2 (.d (.k .a)) .a 28 [.int .i64 k, .int .i64 n, .string (mkS s)] fun g1 => ?_
  refine RR [] .z (.i 4 (.int .i64 0) .a) (.i (.blk g1 28 [.int .i64 k, .int .i64 n, .string (mkS s)]) .z) ?_
  refine RZ (NT (SQ (RG ?_)))
  refine RR [] .z (.i 5 (.bool false) .a) (.i (.blk g1 28 [.int .i64 k, .int .i64 n, .string (mkS s)]) .z) ?_
  refine RZ (NT (SQ (SQ (RG ?_))))
  refine RR [0] .z (.i 9 (.int .i64 k) .a) (.i (.blk g1 28 [.int .i64 k, .int .i64 n, .string (mkS s)]) .z) ?_
  refine RZ (NT (BK (SQ (RG ?_))))
  refine RR [] .z (.i 10 (.bool (k == 0)) .a) (.i (.blk g1 28 [.int .i64 k, .int .i64 n, .string (mkS s)]) .z) ?_
  refine RZ (NT ?_)
  refine SC 10 (k == 0) false (by simp only [bne_eq_false_iff_eq, beq_eq_false_iff_ne, ne_eq]; omega) ?_
  refine CF (SQ (RG ?_))
  refine RR [] .z (.i 20 (.bool (k == 1)) (.d (.d (.k .a)))) (.i (.blk g1 28 [.int .i64 k, .int .i64 n, .string (mkS s)]) .z) ?_
  refine RZ (NT ?_)
  refine SC 20 (k == 1) false (by simp only [bne_eq_false_iff_eq, beq_eq_false_iff_ne, ne_eq]; omega) ?_
  refine CF (SQ (RG ?_))
  refine RR [] .z (.i 25 (.bool (k == 2)) (.d (.d (.k .a)))) (.i (.blk g1 28 [.int .i64 k, .int .i64 n, .string (mkS s)]) .z) ?_
  refine RZ (NT ?_)
  refine SC 25 (k == 2) false (by simp only [bne_eq_false_iff_eq, beq_eq_false_iff_ne, ne_eq]; omega) ?_
  refine CF (SQ (RG ?_))
  refine RR [] .z (.i 40 (.bool (k == 3)) (.d (.d (.k .a)))) (.i (.blk g1 28 [.int .i64 k, .int .i64 n, .string (mkS s)]) .z) ?_
  refine RZ (NT ?_)
  refine SC 40 (k == 3) false (by simp only [bne_eq_false_iff_eq, beq_eq_false_iff_ne, ne_eq]; omega) ?_
  refine CF (SQ (RG ?_))
  refine RR [] .z (.i 56 (.bool (k == 4)) (.d (.d (.d (.k .a))))) (.i (.blk g1 28 [.int .i64 k, .int .i64 n, .string (mkS s)]) .z) ?_
  refine RZ (NT ?_)
  refine SC 56 (k == 4) false (by simp only [bne_eq_false_iff_eq, beq_eq_false_iff_ne, ne_eq]; omega) ?_
  refine CF (SK (BN (NT (SQ (SQ (RG ?_))))))
  refine RR [] .z (.i 73 (.bool true) (.d (.d (.d (.k .z))))) (.i (.blk g1 28 [.int .i64 k, .int .i64 n, .string (mkS s)]) .z) ?_
  refine RZ (NT (CT (SQ (RG ?_))))
  refine RR [] .z (.i 4 (.int .i64 2) .z) (.i (.blk g1 28 [.int .i64 k, .int .i64 n, .string (mkS s)]) .z) ?_
  refine RZ (NT (RE (TR ?_)))
  refine NE [] .z (.i (.blk g1 28 [.int .i64 k, .int .i64 n, .string (mkS s)]) .z) [] (.int .i64 2) ?_
  exact ⟨by simp [rightB, *], rfl⟩
theorem Right_spec (v : V) (m : Int) (hl : v.s.length ≤ 1048576) : Does Tryz.prog 30 [valV v, .int .i64 m] [] (fun u hp' => u = .bool (rightB v m) ∧ hp' = []) := by
  obtain ⟨k, n, s⟩ := v
  unfold valV
  dsimp only at hl ⊢
  by_cases k0 : k = 0
  · subst k0
    by_cases hn : n = 0
    · subst hn
      cases s with
      | nil =>
        refine fn_enter Tryz.func30 rfl 63 rfl fun w0 h0 => ?_
        refine SQ (RG ?_)
        refine RP [] (.d .a) 2 (.d (.k .a)) .a 28 [.int .i64 0, .int .i64 0, .string (mkS [])] fun g1 => ?_
        refine RR [] .z (.i 4 (.bool false) .a) (.i (.blk g1 28 [.int .i64 0, .int .i64 0, .string (mkS [])]) .z) ?_
        refine RZ (NT (SQ (SQ (RG ?_))))
        refine RR [0] .z (.i 6 (.int .i64 0) .a) (.i (.blk g1 28 [.int .i64 0, .int .i64 0, .string (mkS [])]) .z) ?_
        refine RZ (NT (BK (SQ (RG ?_))))
        refine RR [] .z (.i 7 (.bool true) .a) (.i (.blk g1 28 [.int .i64 0, .int .i64 0, .string (mkS [])]) .z) ?_
        refine RZ (NT (CT (SQ (RG ?_))))
        refine RR [0, 0] .z (.i 4 (.bool true) .z) (.i (.blk g1 28 [.int .i64 0, .int .i64 0, .string (mkS [])]) .z) ?_
        refine RZ (NT (RE (BR (TR ?_))))
        refine NE [] .z (.i (.blk g1 28 [.int .i64 0, .int .i64 0, .string (mkS [])]) .z) [] (.bool true) ?_
        exact ⟨by simp [rightB, *], rfl⟩
      | cons c r =>
        refine fn_enter Tryz.func30 rfl 63 rfl fun w0 h0 => ?_
        refine SQ (RG ?_)
        refine RP [] (.d .a) 2 (.d (.k .a)) .a 28 [.int .i64 0, .int .i64 0, .string (mkS (c :: r))] fun g1 => ?_
        refine RR [] .z (.i 4 (.bool false) .a) (.i (.blk g1 28 [.int .i64 0, .int .i64 0, .string (mkS (c :: r))]) .z) ?_
        refine RZ (NT (SQ (SQ (RG ?_))))
        refine RR [0] .z (.i 6 (.int .i64 0) .a) (.i (.blk g1 28 [.int .i64 0, .int .i64 0, .string (mkS (c :: r))]) .z) ?_
        refine RZ (NT (BK (SQ (RG ?_))))
        refine RR [] .z (.i 7 (.bool true) .a) (.i (.blk g1 28 [.int .i64 0, .int .i64 0, .string (mkS (c :: r))]) .z) ?_
        refine RZ (NT (CT (SQ (RG ?_))))
        refine RR [0, 0] .z (.d (.d (.k .z))) (.i (.blk g1 28 [.int .i64 0, .int .i64 0, .string (mkS (c :: r))]) .z) ?_
        refine RZ (NT (RE (BR (TR ?_))))
        refine NE [] .z (.i (.blk g1 28 [.int .i64 0, .int .i64 0, .string (mkS (c :: r))]) .z) [] (.bool false) ?_
        exact ⟨by simp [rightB, *], rfl⟩
    · refine fn_enter Tryz.func30 rfl 63 rfl fun w0 h0 => ?_
      refine SQ (RG ?_)
      refine RP [] (.d .a) 2 (.d (.k .a)) .a 28 [.int .i64 0, .int .i64 n, .string (mkS s)] fun g1 => ?_
      refine RR [] .z (.i 4 (.bool false) .a) (.i (.blk g1 28 [.int .i64 0, .int .i64 n, .string (mkS s)]) .z) ?_
      refine RZ (NT (SQ (SQ (RG ?_))))
      refine RR [0] .z (.i 6 (.int .i64 0) .a) (.i (.blk g1 28 [.int .i64 0, .int .i64 n, .string (mkS s)]) .z) ?_
      refine RZ (NT (BK (SQ (RG ?_))))
      refine RR [] .z (.i 7 (.bool true) .a) (.i (.blk g1 28 [.int .i64 0, .int .i64 n, .string (mkS s)]) .z) ?_
      refine RZ (NT (CT (SQ (RG ?_))))
      refine RR [0] (.d (.d (.d (.d .a)))) (.i 12 (.bool (n == 0)) (.d (.d (.k (.k .z))))) (.i (.blk g1 28 [.int .i64 0, .int .i64 n, .string (mkS s)]) .z) ?_
      refine SR 12 (n == 0) false (by simp only [bne_eq_false_iff_eq, beq_eq_false_iff_ne, ne_eq]; omega) ?_
      refine RR [] .z (.d (.d (.k .z))) (.i (.blk g1 28 [.int .i64 0, .int .i64 n, .string (mkS s)]) .z) ?_
      refine RZ (NT (RE (BR (TR ?_))))
      refine NE [] .z (.i (.blk g1 28 [.int .i64 0, .int .i64 n, .string (mkS s)]) .z) [] (.bool false) ?_
      exact ⟨by simp [rightB, *], rfl⟩
  by_cases k1 : k = 1
  · subst k1
    cases s with
    | nil =>
      refine fn_enter Tryz.func30 rfl 63 rfl fun w0 h0 => ?_
      refine SQ (RG ?_)
      refine RP [] (.d .a) 2 (.d (.k .a)) .a 28 [.int .i64 1, .int .i64 n, .string (mkS [])] fun g1 => ?_
      refine RR [] .z (.i 4 (.bool false) .a) (.i (.blk g1 28 [.int .i64 1, .int .i64 n, .string (mkS [])]) .z) ?_
      refine RZ (NT (SQ (SQ (RG ?_))))
      refine RR [0] .z (.i 6 (.int .i64 1) .a) (.i (.blk g1 28 [.int .i64 1, .int .i64 n, .string (mkS [])]) .z) ?_
      refine RZ (NT (BK (SQ (RG ?_))))
      refine RR [] .z (.i 7 (.bool false) .a) (.i (.blk g1 28 [.int .i64 1, .int .i64 n, .string (mkS [])]) .z) ?_
      refine RZ (NT (CF (SQ (RG ?_))))
      refine RR [] .z (.i 17 (.bool true) (.d (.k .a))) (.i (.blk g1 28 [.int .i64 1, .int .i64 n, .string (mkS [])]) .z) ?_
      refine RZ (NT (CT (SQ (RG ?_))))
      refine RR [0] .z (.i 4 (.bool true) .z) (.i (.blk g1 28 [.int .i64 1, .int .i64 n, .string (mkS [])]) .z) ?_
      refine RZ (NT (RE (BR (TR ?_))))
      refine NE [] .z (.i (.blk g1 28 [.int .i64 1, .int .i64 n, .string (mkS [])]) .z) [] (.bool true) ?_
      exact ⟨by simp [rightB, *], rfl⟩
    | cons c r =>
      refine fn_enter Tryz.func30 rfl 63 rfl fun w0 h0 => ?_
      refine SQ (RG ?_)
      refine RP [] (.d .a) 2 (.d (.k .a)) .a 28 [.int .i64 1, .int .i64 n, .string (mkS (c :: r))] fun g1 => ?_
      refine RR [] .z (.i 4 (.bool false) .a) (.i (.blk g1 28 [.int .i64 1, .int .i64 n, .string (mkS (c :: r))]) .z) ?_
      refine RZ (NT (SQ (SQ (RG ?_))))
      refine RR [0] .z (.i 6 (.int .i64 1) .a) (.i (.blk g1 28 [.int .i64 1, .int .i64 n, .string (mkS (c :: r))]) .z) ?_
      refine RZ (NT (BK (SQ (RG ?_))))
      refine RR [] .z (.i 7 (.bool false) .a) (.i (.blk g1 28 [.int .i64 1, .int .i64 n, .string (mkS (c :: r))]) .z) ?_
      refine RZ (NT (CF (SQ (RG ?_))))
      refine RR [] .z (.i 17 (.bool true) (.d (.k .a))) (.i (.blk g1 28 [.int .i64 1, .int .i64 n, .string (mkS (c :: r))]) .z) ?_
      refine RZ (NT (CT (SQ (RG ?_))))
      refine RR [0] .z (.d (.d (.k .z))) (.i (.blk g1 28 [.int .i64 1, .int .i64 n, .string (mkS (c :: r))]) .z) ?_
      refine RZ (NT (RE (BR (TR ?_))))
      refine NE [] .z (.i (.blk g1 28 [.int .i64 1, .int .i64 n, .string (mkS (c :: r))]) .z) [] (.bool false) ?_
      exact ⟨by simp [rightB, *], rfl⟩
  by_cases k2 : k = 2
  · subst k2
    cases s with
    | nil =>
      by_cases hn : n = 0
      · subst hn
        refine fn_enter Tryz.func30 rfl 63 rfl fun w0 h0 => ?_
        refine SQ (RG ?_)
        refine RP [] (.d .a) 2 (.d (.k .a)) .a 28 [.int .i64 2, .int .i64 0, .string (mkS [])] fun g1 => ?_
        refine RR [] .z (.i 4 (.bool false) .a) (.i (.blk g1 28 [.int .i64 2, .int .i64 0, .string (mkS [])]) .z) ?_
        refine RZ (NT (SQ (SQ (RG ?_))))
        refine RR [0] .z (.i 6 (.int .i64 2) .a) (.i (.blk g1 28 [.int .i64 2, .int .i64 0, .string (mkS [])]) .z) ?_
        refine RZ (NT (BK (SQ (RG ?_))))
        refine RR [] .z (.i 7 (.bool false) .a) (.i (.blk g1 28 [.int .i64 2, .int .i64 0, .string (mkS [])]) .z) ?_
        refine RZ (NT (CF (SQ (RG ?_))))
        refine RR [] .z (.i 17 (.bool false) (.d (.k .a))) (.i (.blk g1 28 [.int .i64 2, .int .i64 0, .string (mkS [])]) .z) ?_
        refine RZ (NT (CF (SQ (RG ?_))))
        refine RR [] .z (.i 22 (.bool true) (.d (.k .a))) (.i (.blk g1 28 [.int .i64 2, .int .i64 0, .string (mkS [])]) .z) ?_
        refine RZ (NT (CT (SQ (RG ?_))))
        refine RR [0, 0] .z (.i 4 (.bool true) .z) (.i (.blk g1 28 [.int .i64 2, .int .i64 0, .string (mkS [])]) .z) ?_
        refine RZ (NT (RE (BR (TR ?_))))
        refine NE [] .z (.i (.blk g1 28 [.int .i64 2, .int .i64 0, .string (mkS [])]) .z) [] (.bool true) ?_
        exact ⟨by simp [rightB, *], rfl⟩
      · by_cases hn1 : n = 1
        · subst hn1
          refine fn_enter Tryz.func30 rfl 63 rfl fun w0 h0 => ?_
          refine SQ (RG ?_)
          refine RP [] (.d .a) 2 (.d (.k .a)) .a 28 [.int .i64 2, .int .i64 1, .string (mkS [])] fun g1 => ?_
          refine RR [] .z (.i 4 (.bool false) .a) (.i (.blk g1 28 [.int .i64 2, .int .i64 1, .string (mkS [])]) .z) ?_
          refine RZ (NT (SQ (SQ (RG ?_))))
          refine RR [0] .z (.i 6 (.int .i64 2) .a) (.i (.blk g1 28 [.int .i64 2, .int .i64 1, .string (mkS [])]) .z) ?_
          refine RZ (NT (BK (SQ (RG ?_))))
          refine RR [] .z (.i 7 (.bool false) .a) (.i (.blk g1 28 [.int .i64 2, .int .i64 1, .string (mkS [])]) .z) ?_
          refine RZ (NT (CF (SQ (RG ?_))))
          refine RR [] .z (.i 17 (.bool false) (.d (.k .a))) (.i (.blk g1 28 [.int .i64 2, .int .i64 1, .string (mkS [])]) .z) ?_
          refine RZ (NT (CF (SQ (RG ?_))))
          refine RR [] .z (.i 22 (.bool true) (.d (.k .a))) (.i (.blk g1 28 [.int .i64 2, .int .i64 1, .string (mkS [])]) .z) ?_
          refine RZ (NT (CT (SQ (RG ?_))))
          refine RR [0, 0, 0] .z (.i 4 (.bool true) .z) (.i (.blk g1 28 [.int .i64 2, .int .i64 1, .string (mkS [])]) .z) ?_
          refine RZ (NT (RE (BR (TR ?_))))
          refine NE [] .z (.i (.blk g1 28 [.int .i64 2, .int .i64 1, .string (mkS [])]) .z) [] (.bool true) ?_
          exact ⟨by simp [rightB, *], rfl⟩
        · refine fn_enter Tryz.func30 rfl 63 rfl fun w0 h0 => ?_
          refine SQ (RG ?_)
          refine RP [] (.d .a) 2 (.d (.k .a)) .a 28 [.int .i64 2, .int .i64 n, .string (mkS [])] fun g1 => ?_
          refine RR [] .z (.i 4 (.bool false) .a) (.i (.blk g1 28 [.int .i64 2, .int .i64 n, .string (mkS [])]) .z) ?_
          refine RZ (NT (SQ (SQ (RG ?_))))
          refine RR [0] .z (.i 6 (.int .i64 2) .a) (.i (.blk g1 28 [.int .i64 2, .int .i64 n, .string (mkS [])]) .z) ?_
          refine RZ (NT (BK (SQ (RG ?_))))
          refine RR [] .z (.i 7 (.bool false) .a) (.i (.blk g1 28 [.int .i64 2, .int .i64 n, .string (mkS [])]) .z) ?_
          refine RZ (NT (CF (SQ (RG ?_))))
          refine RR [] .z (.i 17 (.bool false) (.d (.k .a))) (.i (.blk g1 28 [.int .i64 2, .int .i64 n, .string (mkS [])]) .z) ?_
          refine RZ (NT (CF (SQ (RG ?_))))
          refine RR [] .z (.i 22 (.bool true) (.d (.k .a))) (.i (.blk g1 28 [.int .i64 2, .int .i64 n, .string (mkS [])]) .z) ?_
          refine RZ (NT (CT (SQ (RG ?_))))
          refine RR [0, 0] (.d (.d (.d (.d (.d (.d (.d (.d .a)))))))) (.i 31 (.bool (n == 0)) (.i 27 (.bool true) (.d (.d (.k (.k .z)))))) (.i (.blk g1 28 [.int .i64 2, .int .i64 n, .string (mkS [])]) .z) ?_
          refine SR 31 (n == 0) false (by simp only [bne_eq_false_iff_eq, beq_eq_false_iff_ne, ne_eq]; omega) ?_
          refine RR [0] .z (.i 4 (.bool (n == 1)) .z) (.i (.blk g1 28 [.int .i64 2, .int .i64 n, .string (mkS [])]) .z) ?_
          refine RZ (NT (RE (BR (TR ?_))))
          refine NE [] .z (.i (.blk g1 28 [.int .i64 2, .int .i64 n, .string (mkS [])]) .z) [] (.bool (n == 1)) ?_
          exact ⟨by simp [rightB, *], rfl⟩
    | cons c r =>
      refine fn_enter Tryz.func30 rfl 63 rfl fun w0 h0 => ?_
      refine SQ (RG ?_)
      refine RP [] (.d .a) 2 (.d (.k .a)) .a 28 [.int .i64 2, .int .i64 n, .string (mkS (c :: r))] fun g1 => ?_
      refine RR [] .z (.i 4 (.bool false) .a) (.i (.blk g1 28 [.int .i64 2, .int .i64 n, .string (mkS (c :: r))]) .z) ?_
      refine RZ (NT (SQ (SQ (RG ?_))))
      refine RR [0] .z (.i 6 (.int .i64 2) .a) (.i (.blk g1 28 [.int .i64 2, .int .i64 n, .string (mkS (c :: r))]) .z) ?_
      refine RZ (NT (BK (SQ (RG ?_))))
      refine RR [] .z (.i 7 (.bool false) .a) (.i (.blk g1 28 [.int .i64 2, .int .i64 n, .string (mkS (c :: r))]) .z) ?_
      refine RZ (NT (CF (SQ (RG ?_))))
      refine RR [] .z (.i 17 (.bool false) (.d (.k .a))) (.i (.blk g1 28 [.int .i64 2, .int .i64 n, .string (mkS (c :: r))]) .z) ?_
      refine RZ (NT (CF (SQ (RG ?_))))
      refine RR [] .z (.i 22 (.bool true) (.d (.k .a))) (.i (.blk g1 28 [.int .i64 2, .int .i64 n, .string (mkS (c :: r))]) .z) ?_
      refine RZ (NT (CT (SQ (RG ?_))))
      refine RR [0] .z (.d (.d (.k .z))) (.i (.blk g1 28 [.int .i64 2, .int .i64 n, .string (mkS (c :: r))]) .z) ?_
      refine RZ (NT (RE (BR (TR ?_))))
      refine NE [] .z (.i (.blk g1 28 [.int .i64 2, .int .i64 n, .string (mkS (c :: r))]) .z) [] (.bool false) ?_
      exact ⟨by simp [rightB, *], rfl⟩
  by_cases k3 : k = 3
  · subst k3
    by_cases hn : n = 0
    · subst hn
      cases hp : plainB s with
      | true =>
        refine fn_enter Tryz.func30 rfl 63 rfl fun w0 h0 => ?_
        refine SQ (RG ?_)
        refine RP [] (.d .a) 2 (.d (.k .a)) .a 28 [.int .i64 3, .int .i64 0, .string (mkS s)] fun g1 => ?_
        refine RR [] .z (.i 4 (.bool false) .a) (.i (.blk g1 28 [.int .i64 3, .int .i64 0, .string (mkS s)]) .z) ?_
        refine RZ (NT (SQ (SQ (RG ?_))))
        refine RR [0] .z (.i 6 (.int .i64 3) .a) (.i (.blk g1 28 [.int .i64 3, .int .i64 0, .string (mkS s)]) .z) ?_
        refine RZ (NT (BK (SQ (RG ?_))))
        refine RR [] .z (.i 7 (.bool false) .a) (.i (.blk g1 28 [.int .i64 3, .int .i64 0, .string (mkS s)]) .z) ?_
        refine RZ (NT (CF (SQ (RG ?_))))
        refine RR [] .z (.i 17 (.bool false) (.d (.k .a))) (.i (.blk g1 28 [.int .i64 3, .int .i64 0, .string (mkS s)]) .z) ?_
        refine RZ (NT (CF (SQ (RG ?_))))
        refine RR [] .z (.i 22 (.bool false) (.d (.k .a))) (.i (.blk g1 28 [.int .i64 3, .int .i64 0, .string (mkS s)]) .z) ?_
        refine RZ (NT (CF (SQ (RG ?_))))
        refine RR [] .z (.i 37 (.bool true) (.d (.k .a))) (.i (.blk g1 28 [.int .i64 3, .int .i64 0, .string (mkS s)]) .z) ?_
        refine RZ (NT (CT (SQ (RG ?_))))
        refine RR [0, 0] (.d (.d (.d (.d (.d (.d .a)))))) (.i 44 (.string (mkS s)) (.i 42 (.bool true) (.d (.d (.k .z))))) (.i (.blk g1 28 [.int .i64 3, .int .i64 0, .string (mkS s)]) .z) ?_
        refine RC (dst := some 45) [] (.i (.blk g1 28 [.int .i64 3, .int .i64 0, .string (mkS s)]) .z) (rPlain_spec s hl) ?_
        rintro v _ ⟨rfl, rfl⟩
        rw [hp]
        refine RR [] .z (.i 4 (.bool true) .z) (.i (.blk g1 28 [.int .i64 3, .int .i64 0, .string (mkS s)]) .z) ?_
        refine RZ (NT (RE (BR (TR ?_))))
        refine NE [] .z (.i (.blk g1 28 [.int .i64 3, .int .i64 0, .string (mkS s)]) .z) [] (.bool true) ?_
        exact ⟨by simp [rightB, *], rfl⟩
      | false =>
        refine fn_enter Tryz.func30 rfl 63 rfl fun w0 h0 => ?_
        refine SQ (RG ?_)
        refine RP [] (.d .a) 2 (.d (.k .a)) .a 28 [.int .i64 3, .int .i64 0, .string (mkS s)] fun g1 => ?_
        refine RR [] .z (.i 4 (.bool false) .a) (.i (.blk g1 28 [.int .i64 3, .int .i64 0, .string (mkS s)]) .z) ?_
        refine RZ (NT (SQ (SQ (RG ?_))))
        refine RR [0] .z (.i 6 (.int .i64 3) .a) (.i (.blk g1 28 [.int .i64 3, .int .i64 0, .string (mkS s)]) .z) ?_
        refine RZ (NT (BK (SQ (RG ?_))))
        refine RR [] .z (.i 7 (.bool false) .a) (.i (.blk g1 28 [.int .i64 3, .int .i64 0, .string (mkS s)]) .z) ?_
        refine RZ (NT (CF (SQ (RG ?_))))
        refine RR [] .z (.i 17 (.bool false) (.d (.k .a))) (.i (.blk g1 28 [.int .i64 3, .int .i64 0, .string (mkS s)]) .z) ?_
        refine RZ (NT (CF (SQ (RG ?_))))
        refine RR [] .z (.i 22 (.bool false) (.d (.k .a))) (.i (.blk g1 28 [.int .i64 3, .int .i64 0, .string (mkS s)]) .z) ?_
        refine RZ (NT (CF (SQ (RG ?_))))
        refine RR [] .z (.i 37 (.bool true) (.d (.k .a))) (.i (.blk g1 28 [.int .i64 3, .int .i64 0, .string (mkS s)]) .z) ?_
        refine RZ (NT (CT (SQ (RG ?_))))
        refine RR [0, 0] (.d (.d (.d (.d (.d (.d .a)))))) (.i 44 (.string (mkS s)) (.i 42 (.bool true) (.d (.d (.k .z))))) (.i (.blk g1 28 [.int .i64 3, .int .i64 0, .string (mkS s)]) .z) ?_
        refine RC (dst := some 45) [] (.i (.blk g1 28 [.int .i64 3, .int .i64 0, .string (mkS s)]) .z) (rPlain_spec s hl) ?_
        rintro v _ ⟨rfl, rfl⟩
        rw [hp]
        refine RR [] .z (.d (.d (.d (.k .a)))) (.i (.blk g1 28 [.int .i64 3, .int .i64 0, .string (mkS s)]) .z) ?_
        refine RZ (NT (RE (BR (TR ?_))))
        refine NE [] .z (.i (.blk g1 28 [.int .i64 3, .int .i64 0, .string (mkS s)]) .z) [] (.bool false) ?_
        exact ⟨by simp [rightB, *], rfl⟩
    · refine fn_enter Tryz.func30 rfl 63 rfl fun w0 h0 => ?_
      refine SQ (RG ?_)
      refine RP [] (.d .a) 2 (.d (.k .a)) .a 28 [.int .i64 3, .int .i64 n, .string (mkS s)] fun g1 => ?_
      refine RR [] .z (.i 4 (.bool false) .a) (.i (.blk g1 28 [.int .i64 3, .int .i64 n, .string (mkS s)]) .z) ?_
      refine RZ (NT (SQ (SQ (RG ?_))))
      refine RR [0] .z (.i 6 (.int .i64 3) .a) (.i (.blk g1 28 [.int .i64 3, .int .i64 n, .string (mkS s)]) .z) ?_
      refine RZ (NT (BK (SQ (RG ?_))))
      refine RR [] .z (.i 7 (.bool false) .a) (.i (.blk g1 28 [.int .i64 3, .int .i64 n, .string (mkS s)]) .z) ?_
      refine RZ (NT (CF (SQ (RG ?_))))
      refine RR [] .z (.i 17 (.bool false) (.d (.k .a))) (.i (.blk g1 28 [.int .i64 3, .int .i64 n, .string (mkS s)]) .z) ?_
      refine RZ (NT (CF (SQ (RG ?_))))
      refine RR [] .z (.i 22 (.bool false) (.d (.k .a))) (.i (.blk g1 28 [.int .i64 3, .int .i64 n, .string (mkS s)]) .z) ?_
      refine RZ (NT (CF (SQ (RG ?_))))
      refine RR [] .z (.i 37 (.bool true) (.d (.k .a))) (.i (.blk g1 28 [.int .i64 3, .int .i64 n, .string (mkS s)]) .z) ?_
      refine RZ (NT (CT (SQ (RG ?_))))
      refine RR [0] (.d (.d (.d (.d .a)))) (.i 42 (.bool (n == 0)) (.d (.d (.k (.k .z))))) (.i (.blk g1 28 [.int .i64 3, .int .i64 n, .string (mkS s)]) .z) ?_
      refine SR 42 (n == 0) false (by simp only [bne_eq_false_iff_eq, beq_eq_false_iff_ne, ne_eq]; omega) ?_
      refine RR [] .z (.d (.d (.k .z))) (.i (.blk g1 28 [.int .i64 3, .int .i64 n, .string (mkS s)]) .z) ?_
      refine RZ (NT (RE (BR (TR ?_))))
      refine NE [] .z (.i (.blk g1 28 [.int .i64 3, .int .i64 n, .string (mkS s)]) .z) [] (.bool false) ?_
      exact ⟨by simp [rightB, *], rfl⟩
  by_cases k4 : k = 4
  · subst k4
    cases s with
    | nil =>
      by_cases h0 : 0 ≤ n
      · by_cases hm : n < m
        · refine fn_enter Tryz.func30 rfl 63 rfl fun w0 h0 => ?_
          refine SQ (RG ?_)
          refine RP [] (.d .a) 2 (.d (.k .a)) .a 28 [.int .i64 4, .int .i64 n, .string (mkS [])] fun g1 => ?_
          refine RR [] .z (.i 4 (.bool false) .a) (.i (.blk g1 28 [.int .i64 4, .int .i64 n, .string (mkS [])]) .z) ?_
          refine RZ (NT (SQ (SQ (RG ?_))))
          refine RR [0] .z (.i 6 (.int .i64 4) .a) (.i (.blk g1 28 [.int .i64 4, .int .i64 n, .string (mkS [])]) .z) ?_
          refine RZ (NT (BK (SQ (RG ?_))))
          refine RR [] .z (.i 7 (.bool false) .a) (.i (.blk g1 28 [.int .i64 4, .int .i64 n, .string (mkS [])]) .z) ?_
          refine RZ (NT (CF (SQ (RG ?_))))
          refine RR [] .z (.i 17 (.bool false) (.d (.k .a))) (.i (.blk g1 28 [.int .i64 4, .int .i64 n, .string (mkS [])]) .z) ?_
          refine RZ (NT (CF (SQ (RG ?_))))
          refine RR [] .z (.i 22 (.bool false) (.d (.k .a))) (.i (.blk g1 28 [.int .i64 4, .int .i64 n, .string (mkS [])]) .z) ?_
          refine RZ (NT (CF (SQ (RG ?_))))
          refine RR [] .z (.i 37 (.bool false) (.d (.k .a))) (.i (.blk g1 28 [.int .i64 4, .int .i64 n, .string (mkS [])]) .z) ?_
          refine RZ (NT (CF (SQ (RG ?_))))
          refine RR [] .z (.i 47 (.bool true) (.d (.d (.k .a)))) (.i (.blk g1 28 [.int .i64 4, .int .i64 n, .string (mkS [])]) .z) ?_
          refine RZ (NT (CT (SQ (RG ?_))))
          refine RR [0, 0] (.d (.d (.d (.d (.d (.d (.d (.d (.d .a))))))))) (.i 57 (.bool (decide (n ≥ 0))) (.d (.k .a))) (.i (.blk g1 28 [.int .i64 4, .int .i64 n, .string (mkS [])]) .z) ?_
          refine SR 57 (decide (n ≥ 0)) true (decide_eq_true (by omega)) ?_
          refine RR [0] .z (.i 4 (.bool (decide (n < m))) .z) (.i (.blk g1 28 [.int .i64 4, .int .i64 n, .string (mkS [])]) .z) ?_
          refine RZ (NT (RE (BR (TR ?_))))
          refine NE [] .z (.i (.blk g1 28 [.int .i64 4, .int .i64 n, .string (mkS [])]) .z) [] (.bool (decide (n < m))) ?_
          exact ⟨by simp [rightB, *], rfl⟩
        · refine fn_enter Tryz.func30 rfl 63 rfl fun w0 h0 => ?_
          refine SQ (RG ?_)
          refine RP [] (.d .a) 2 (.d (.k .a)) .a 28 [.int .i64 4, .int .i64 n, .string (mkS [])] fun g1 => ?_
          refine RR [] .z (.i 4 (.bool false) .a) (.i (.blk g1 28 [.int .i64 4, .int .i64 n, .string (mkS [])]) .z) ?_
          refine RZ (NT (SQ (SQ (RG ?_))))
          refine RR [0] .z (.i 6 (.int .i64 4) .a) (.i (.blk g1 28 [.int .i64 4, .int .i64 n, .string (mkS [])]) .z) ?_
          refine RZ (NT (BK (SQ (RG ?_))))
          refine RR [] .z (.i 7 (.bool false) .a) (.i (.blk g1 28 [.int .i64 4, .int .i64 n, .string (mkS [])]) .z) ?_
          refine RZ (NT (CF (SQ (RG ?_))))
          refine RR [] .z (.i 17 (.bool false) (.d (.k .a))) (.i (.blk g1 28 [.int .i64 4, .int .i64 n, .string (mkS [])]) .z) ?_
          refine RZ (NT (CF (SQ (RG ?_))))
          refine RR [] .z (.i 22 (.bool false) (.d (.k .a))) (.i (.blk g1 28 [.int .i64 4, .int .i64 n, .string (mkS [])]) .z) ?_
          refine RZ (NT (CF (SQ (RG ?_))))
          refine RR [] .z (.i 37 (.bool false) (.d (.k .a))) (.i (.blk g1 28 [.int .i64 4, .int .i64 n, .string (mkS [])]) .z) ?_
          refine RZ (NT (CF (SQ (RG ?_))))
          refine RR [] .z (.i 47 (.bool true) (.d (.d (.k .a)))) (.i (.blk g1 28 [.int .i64 4, .int .i64 n, .string (mkS [])]) .z) ?_
          refine RZ (NT (CT (SQ (RG ?_))))
          refine RR [0, 0] (.d (.d (.d (.d (.d (.d (.d (.d (.d .a))))))))) (.i 57 (.bool (decide (n ≥ 0))) (.d (.k .a))) (.i (.blk g1 28 [.int .i64 4, .int .i64 n, .string (mkS [])]) .z) ?_
          refine SR 57 (decide (n ≥ 0)) true (decide_eq_true (by omega)) ?_
          refine RR [0] .z (.i 4 (.bool (decide (n < m))) .z) (.i (.blk g1 28 [.int .i64 4, .int .i64 n, .string (mkS [])]) .z) ?_
          refine RZ (NT (RE (BR (TR ?_))))
          refine NE [] .z (.i (.blk g1 28 [.int .i64 4, .int .i64 n, .string (mkS [])]) .z) [] (.bool (decide (n < m))) ?_
          exact ⟨by simp [rightB, *], rfl⟩
      · refine fn_enter Tryz.func30 rfl 63 rfl fun w0 h0 => ?_
        refine SQ (RG ?_)
        refine RP [] (.d .a) 2 (.d (.k .a)) .a 28 [.int .i64 4, .int .i64 n, .string (mkS [])] fun g1 => ?_
        refine RR [] .z (.i 4 (.bool false) .a) (.i (.blk g1 28 [.int .i64 4, .int .i64 n, .string (mkS [])]) .z) ?_
        refine RZ (NT (SQ (SQ (RG ?_))))
        refine RR [0] .z (.i 6 (.int .i64 4) .a) (.i (.blk g1 28 [.int .i64 4, .int .i64 n, .string (mkS [])]) .z) ?_
        refine RZ (NT (BK (SQ (RG ?_))))
        refine RR [] .z (.i 7 (.bool false) .a) (.i (.blk g1 28 [.int .i64 4, .int .i64 n, .string (mkS [])]) .z) ?_
        refine RZ (NT (CF (SQ (RG ?_))))
        refine RR [] .z (.i 17 (.bool false) (.d (.k .a))) (.i (.blk g1 28 [.int .i64 4, .int .i64 n, .string (mkS [])]) .z) ?_
        refine RZ (NT (CF (SQ (RG ?_))))
        refine RR [] .z (.i 22 (.bool false) (.d (.k .a))) (.i (.blk g1 28 [.int .i64 4, .int .i64 n, .string (mkS [])]) .z) ?_
        refine RZ (NT (CF (SQ (RG ?_))))
        refine RR [] .z (.i 37 (.bool false) (.d (.k .a))) (.i (.blk g1 28 [.int .i64 4, .int .i64 n, .string (mkS [])]) .z) ?_
        refine RZ (NT (CF (SQ (RG ?_))))
        refine RR [] .z (.i 47 (.bool true) (.d (.d (.k .a)))) (.i (.blk g1 28 [.int .i64 4, .int .i64 n, .string (mkS [])]) .z) ?_
        refine RZ (NT (CT (SQ (RG ?_))))
        refine RR [0, 0] (.d (.d (.d (.d (.d (.d (.d (.d (.d .a))))))))) (.i 57 (.bool (decide (n ≥ 0))) (.d (.k .a))) (.i (.blk g1 28 [.int .i64 4, .int .i64 n, .string (mkS [])]) .z) ?_
        refine SR 57 (decide (n ≥ 0)) false (decide_eq_false (by omega)) ?_
        refine RR [] .z (.d (.d (.k .z))) (.i (.blk g1 28 [.int .i64 4, .int .i64 n, .string (mkS [])]) .z) ?_
        refine RZ (NT (RE (BR (TR ?_))))
        refine NE [] .z (.i (.blk g1 28 [.int .i64 4, .int .i64 n, .string (mkS [])]) .z) [] (.bool false) ?_
        exact ⟨by simp [rightB, *], rfl⟩
    | cons c r =>
      refine fn_enter Tryz.func30 rfl 63 rfl fun w0 h0 => ?_
      refine SQ (RG ?_)
      refine RP [] (.d .a) 2 (.d (.k .a)) .a 28 [.int .i64 4, .int .i64 n, .string (mkS (c :: r))] fun g1 => ?_
      refine RR [] .z (.i 4 (.bool false) .a) (.i (.blk g1 28 [.int .i64 4, .int .i64 n, .string (mkS (c :: r))]) .z) ?_
      refine RZ (NT (SQ (SQ (RG ?_))))
      refine RR [0] .z (.i 6 (.int .i64 4) .a) (.i (.blk g1 28 [.int .i64 4, .int .i64 n, .string (mkS (c :: r))]) .z) ?_
      refine RZ (NT (BK (SQ (RG ?_))))
      refine RR [] .z (.i 7 (.bool false) .a) (.i (.blk g1 28 [.int .i64 4, .int .i64 n, .string (mkS (c :: r))]) .z) ?_
      refine RZ (NT (CF (SQ (RG ?_))))
      refine RR [] .z (.i 17 (.bool false) (.d (.k .a))) (.i (.blk g1 28 [.int .i64 4, .int .i64 n, .string (mkS (c :: r))]) .z) ?_
      refine RZ (NT (CF (SQ (RG ?_))))
      refine RR [] .z (.i 22 (.bool false) (.d (.k .a))) (.i (.blk g1 28 [.int .i64 4, .int .i64 n, .string (mkS (c :: r))]) .z) ?_
      refine RZ (NT (CF (SQ (RG ?_))))
      refine RR [] .z (.i 37 (.bool false) (.d (.k .a))) (.i (.blk g1 28 [.int .i64 4, .int .i64 n, .string (mkS (c :: r))]) .z) ?_
      refine RZ (NT (CF (SQ (RG ?_))))
      refine RR [] .z (.i 47 (.bool true) (.d (.d (.k .a)))) (.i (.blk g1 28 [.int .i64 4, .int .i64 n, .string (mkS (c :: r))]) .z) ?_
      refine RZ (NT (CT (SQ (RG ?_))))
      refine RR [0] .z (.d (.k .z)) (.i (.blk g1 28 [.int .i64 4, .int .i64 n, .string (mkS (c :: r))]) .z) ?_
      refine RZ (NT (RE (BR (TR ?_))))
      refine NE [] .z (.i (.blk g1 28 [.int .i64 4, .int .i64 n, .string (mkS (c :: r))]) .z) [] (.bool false) ?_
      exact ⟨by simp [rightB, *], rfl⟩
  refine fn_enter Tryz.func30 rfl 63 rfl fun w0 h0 => ?_
  refine SQ (RG ?_)
  refine RP [] (.d .a) 2 (.d (.k .a)) .a 28 [.int .i64 k, .int .i64 n, .string (mkS s)] fun g1 => ?_
  refine RR [] .z (.i 4 (.bool false) .a) (.i (.blk g1 28 [.int .i64 k, .int .i64 n, .string (mkS s)]) .z) ?_
  refine RZ (NT (SQ (SQ (RG ?_))))
  refine RR [0] .z (.i 6 (.int .i64 k) .a) (.i (.blk g1 28 [.int .i64 k, .int .i64 n, .string (mkS s)]) .z) ?_
  refine RZ (NT (BK (SQ (RG ?_))))
  refine RR [] .z (.i 7 (.bool (k == 0)) .a) (.i (.blk g1 28 [.int .i64 k, .int .i64 n, .string (mkS s)]) .z) ?_
  refine RZ (NT ?_)
  refine SC 7 (k == 0) false (by simp only [bne_eq_false_iff_eq, beq_eq_false_iff_ne, ne_eq]; omega) ?_
  refine CF (SQ (RG ?_))
  refine RR [] .z (.i 17 (.bool (k == 1)) (.d (.d (.k .a)))) (.i (.blk g1 28 [.int .i64 k, .int .i64 n, .string (mkS s)]) .z) ?_
  refine RZ (NT ?_)
  refine SC 17 (k == 1) false (by simp only [bne_eq_false_iff_eq, beq_eq_false_iff_ne, ne_eq]; omega) ?_
  refine CF (SQ (RG ?_))
  refine RR [] .z (.i 22 (.bool (k == 2)) (.d (.d (.k .a)))) (.i (.blk g1 28 [.int .i64 k, .int .i64 n, .string (mkS s)]) .z) ?_
  refine RZ (NT ?_)
  refine SC 22 (k == 2) false (by simp only [bne_eq_false_iff_eq, beq_eq_false_iff_ne, ne_eq]; omega) ?_
  refine CF (SQ (RG ?_))
  refine RR [] .z (.i 37 (.bool (k == 3)) (.d (.d (.k .a)))) (.i (.blk g1 28 [.int .i64 k, .int .i64 n, .string (mkS s)]) .z) ?_
  refine RZ (NT ?_)
  refine SC 37 (k == 3) false (by simp only [bne_eq_false_iff_eq, beq_eq_false_iff_ne, ne_eq]; omega) ?_
  refine CF (SQ (RG ?_))
  refine RR [] .z (.i 47 (.bool (k == 4)) (.d (.d (.d (.k .a))))) (.i (.blk g1 28 [.int .i64 k, .int .i64 n, .string (mkS s)]) .z) ?_
  refine RZ (NT ?_)
  refine SC 47 (k == 4) false (by simp only [bne_eq_false_iff_eq, beq_eq_false_iff_ne, ne_eq]; omega) ?_
  refine CF (SK (BN (NT (SQ (RG ?_)))))
  refine RR [] .z (.d (.d (.k .z))) (.i (.blk g1 28 [.int .i64 k, .int .i64 n, .string (mkS s)]) .z) ?_
  refine RZ (NT (RE ?_))
  refine NE [] .z (.i (.blk g1 28 [.int .i64 k, .int .i64 n, .string (mkS s)]) .z) [] (.bool false) ?_
  exact ⟨by simp [rightB, *], rfl⟩
end Go.Proofs.YtpfhleghgkeemaaGreatDoor
