import Derived.Test.YtpfhleghgkeemaaGreatDoorSp3
set_option linter.unusedVariables false
set_option linter.unusedSimpArgs false
namespace Go.Proofs.YtpfhleghgkeemaaGreatDoor
open Go Go.Sx
theorem Clone_spec (t : List UInt8) (ht : t.length ≤ 1099511627776) : Does Tryz.prog 119 [.string (mkS t)] [] (fun v hp' => v = .string (mkS t) ∧ hp' = []) := by
  refine fn_enter Tryz.func119 rfl 5 rfl fun w0 h0 => ?_
  refine SQ (RG ?_)
  refine RR [] .z (.i 2 (.string ⟨#[]⟩) .a) .a ?_
  refine RZ (NT (SQ (RG ?_)))
  refine RR [] (.d .a) (.i 3 (.string (mkS t)) (.k .z)) .a ?_
  refine RCA (dst := some 4) (Clone0_spec t ht) ?_
  rintro v hp' ⟨rfl, rfl⟩
  refine RR [] .z (.i 2 (.string (mkS t)) .z) .a ?_
  refine RZ (NT (RE ?_))
  refine NE [] .a .a [] (.string (mkS t)) ?_
  exact ⟨rfl, rfl⟩
theorem numGo_ok : ∀ (k i f : Nat) (s : List UInt8), ((numGo k i f s).2.2 = 0 ∧ (i : Int) < (numGo k i f s).2.1 ∧ (numGo k i f s).2.1 ≤ i + s.length) ∨ ((numGo k i f s).1 = 0 ∧ (numGo k i f s).2.1 = 0 ∧ ((numGo k i f s).2.2 = 3 ∨ (numGo k i f s).2.2 = 4))
  | 0, _, _, _ => .inr ⟨rfl, rfl, .inr rfl⟩
  | _ + 1, _, _, [] => .inr ⟨rfl, rfl, .inl rfl⟩
  | k + 1, i, f, c :: s => by
    unfold numGo
    split
    · exact .inr ⟨rfl, rfl, .inr rfl⟩
    · split
      · rcases numGo_ok k (i + 1) (f + c.toNat % 128 * 128 ^ i) s with h | h
        · exact .inl ⟨h.1, by have := h.2.1; omega, by have := h.2.2; simp only [List.length_cons]; omega⟩
        · exact .inr h
      · split
        · exact .inr ⟨rfl, rfl, .inr rfl⟩
        · exact .inl ⟨rfl, by simp only []; omega, by simp only [List.length_cons]; omega⟩
def cnt (s : List UInt8) (most : Int) : Int × Int × Int :=
  if (num s).2.2 ≠ 0 then (0, 0, (num s).2.2) else if (num s).1 < 0 then (0, 0, 4) else if (num s).1 > max 0 most then (0, 0, 5) else ((num s).1, (num s).2.1, 0)
theorem count_spec (s : List UInt8) (most : Int) (hl : s.length ≤ 1099511627776) :
    Does Tryz.prog 118 [.string (mkS s), .int .i64 most] [] (fun v hp' => v = .tuple #[.int .i64 (cnt s most).1, .int .i64 (cnt s most).2.1, .int .i64 (cnt s most).2.2] ∧ hp' = []) := by
  refine fn_enter Tryz.func118 rfl 30 rfl fun w0 h0 => ?_
  refine SQ (RG ?_)
  refine RR [] .z (.i 6 (.int .i64 0) (.i 5 (.int .i64 0) (.i 4 (.int .i64 0) .a))) .a ?_
  refine RZ (NT (SQ (RG ?_)))
  refine RR [] (.d .a) (.i 11 (.string (mkS s)) (.k (.k (.k (.d (.k .a)))))) .a ?_
  refine RCA (dst := some 12) (wnumber_spec s hl) ?_
  rintro v hp' ⟨rfl, rfl⟩
  obtain ⟨n, u, e, hn⟩ : ∃ n u e, num s = (n, u, e) := ⟨_, _, _, rfl⟩
  unfold cnt
  rw [hn]
  dsimp only
  refine RR [] .z (.i 9 (.int .i64 e) (.i 8 (.int .i64 u) (.i 7 (.int .i64 n) (.d (.d (.k .a)))))) .a ?_
  refine RZ (NT (SQ (BK (SQ (RG ?_)))))
  refine RR [] .z (.i 16 (.bool (e != (0 : Int))) .a) .a ?_
  refine RZ (NT ?_)
  refine wpc_cond ((e != 0)) (by kernel_rfl) (fun h1 => ?_) (fun h1 => ?_)
  · have h1' : e ≠ 0 := by simpa using h1
    rw [if_pos h1']
    refine SQ (RG ?_)
    refine RR [] .z (.i 6 (.int .i64 e) (.i 5 (.int .i64 0) (.i 4 (.int .i64 0) (.d (.d (.k (.k .z))))))) .a ?_
    refine RZ (NT (RE (BR (TR ?_))))
    refine NE [] .a .a [] (.tuple #[.int .i64 0, .int .i64 0, .int .i64 e]) ?_
    exact ⟨rfl, rfl⟩
  · have h1' : ¬ e ≠ 0 := by simpa using h1
    rw [if_neg h1']
    refine SQ (RG ?_)
    refine RR [] .z (.i 20 (.bool (decide (n < (0 : Int)))) (.d (.d (.k .a)))) .a ?_
    refine RZ (NT ?_)
    refine wpc_if ((n < 0)) (by kernel_rfl) (fun h2 => ?_) (fun h2 => ?_)
    · rw [if_pos h2]
      refine SQ (RG ?_)
      refine RR [] .z (.i 6 (.int .i64 4) (.i 5 (.int .i64 0) (.i 4 (.int .i64 0) (.d (.k (.k .z)))))) .a ?_
      refine RZ (NT (RE (BR (TR ?_))))
      refine NE [] .a .a [] (.tuple #[.int .i64 0, .int .i64 0, .int .i64 4]) ?_
      exact ⟨rfl, rfl⟩
    · rw [if_neg h2]
      refine SQ (RG ?_)
      refine RR [] .z (.i 23 (.bool (decide (n > if most > (0 : Int) then most else (0 : Int)))) (.d (.k (.k (.k (.k (.k .z))))))) .a ?_
      refine RZ (NT ?_)
      have hmx : (if most > 0 then most else 0) = max 0 most := by split <;> omega
      refine wpc_if ((n > if most > 0 then most else 0)) (by kernel_rfl) (fun h3 => ?_) (fun h3 => ?_)
      · rw [if_pos (show n > max 0 most by rw [← hmx]; exact h3)]
        refine SQ (RG ?_)
        refine RR [] .z (.i 6 (.int .i64 5) (.i 5 (.int .i64 0) (.i 4 (.int .i64 0) (.d (.k (.k .z)))))) .a ?_
        refine RZ (NT (RE (BR (TR ?_))))
        refine NE [] .a .a [] (.tuple #[.int .i64 0, .int .i64 0, .int .i64 5]) ?_
        exact ⟨rfl, rfl⟩
      · rw [if_neg (show ¬ n > max 0 most by rw [← hmx]; exact h3)]
        refine SK (BN (NT (SQ (RG ?_))))
        refine RR [] .z (.d (.d (.d (.k (.i 5 (.int .i64 u) (.i 4 (.int .i64 n) .z)))))) .a ?_
        refine RZ (NT (RE ?_))
        refine NE [] .a .a [] (.tuple #[.int .i64 n, .int .i64 u, .int .i64 0]) ?_
        exact ⟨rfl, rfl⟩
theorem cnt_ok (s : List UInt8) (most : Int) : ((cnt s most).2.2 = 0 ∧ 0 ≤ (cnt s most).1 ∧ 0 < (cnt s most).2.1 ∧ (cnt s most).2.1 ≤ s.length) ∨ ((cnt s most).1 = 0 ∧ (cnt s most).2.1 = 0 ∧ (cnt s most).2.2 ≠ 0) := by
  have h := numGo_ok 10 0 0 s
  have hn : numGo 10 0 0 s = num s := rfl
  rw [hn] at h
  unfold cnt
  split
  · rename_i h1; exact .inr ⟨rfl, rfl, h1⟩
  · rename_i h1
    split
    · exact .inr ⟨rfl, rfl, by simp⟩
    · rename_i h2
      split
      · exact .inr ⟨rfl, rfl, by simp⟩
      · rcases h with h | h
        · exact .inl ⟨rfl, by simp only []; omega, by have := h.2.1; simpa using this, by have := h.2.2; simpa using this⟩
        · have := h.2.2; omega
theorem Count1_spec (s : List UInt8) (t : Nat) (most : Int) (hl : s.length ≤ 1099511627776) :
    Does Tryz.prog 148 [.string (mkS s), .pointer (some ⟨t, 0, none⟩)] [.blk t 3 [.int .i64 most]] (fun v hp' => v = .tuple #[.int .i64 (cnt s most).1, .int .i64 (cnt s most).2.1, .int .i64 (cnt s most).2.2] ∧ hp' = [.blk t 3 [.int .i64 most]]) := by
  refine fn_enter Tryz.func148 rfl 12 rfl fun w0 h0 => ?_
  refine SQ (RG ?_)
  refine RR [] .z (.i 5 (.int .i64 0) (.i 4 (.int .i64 0) (.i 3 (.int .i64 0) .a))) .a ?_
  refine RZ (NT (SQ (RG ?_)))
  refine RR [0] (.d (.d .a)) (.i 7 (.int .i64 most) (.i 6 (.string (mkS s)) (.k (.k (.k .z))))) .a ?_
  refine RC (dst := some 8) [] .a (count_spec s most hl) ?_
  rintro v hp' ⟨rfl, rfl⟩
  refine RR [] .z (.i 5 (.int .i64 (cnt s most).snd.snd) (.i 4 (.int .i64 (cnt s most).snd.fst) (.i 3 (.int .i64 (cnt s most).fst) .z))) .a ?_
  refine RZ (NT (RE ?_))
  refine NE [0] .a .z [] (.tuple #[.int .i64 (cnt s most).fst, .int .i64 (cnt s most).snd.fst, .int .i64 (cnt s most).snd.snd]) ?_
  exact ⟨rfl, rfl⟩
def txW (s : List UInt8) (most : Int) : List UInt8 × Int × Int :=
  if (cnt s most).2.2 ≠ 0 then ([], 0, (cnt s most).2.2) else if (cnt s most).1 > s.length - (cnt s most).2.1 then ([], 0, 3) else ((s.drop (cnt s most).2.1.toNat).take (cnt s most).1.toNat, (cnt s most).2.1 + (cnt s most).1, 0)
theorem Text1_spec (s : List UInt8) (t : Nat) (most : Int) (hl : s.length ≤ 1099511627776) :
    Does Tryz.prog 117 [.string (mkS s), .pointer (some ⟨t, 0, none⟩)] [.blk t 3 [.int .i64 most]] (fun v hp' => v = .tuple #[.string (mkS (txW s most).1), .int .i64 (txW s most).2.1, .int .i64 (txW s most).2.2] ∧ hp' = [.blk t 3 [.int .i64 most]]) := by
  refine fn_enter Tryz.func117 rfl 37 rfl fun w0 h0 => ?_
  refine SQ (RG ?_)
  refine RR [] .z (.i 5 (.int .i64 0) (.i 4 (.int .i64 0) (.i 3 (.string ⟨#[]⟩) .a))) .a ?_
  refine RZ (NT (SQ (RG ?_)))
  refine RR [0] (.d (.d .a)) (.i 11 (.int .i64 most) (.i 10 (.string (mkS s)) (.k (.k (.k (.k .z)))))) .a ?_
  refine RC (dst := some 12) [] .a (count_spec s most hl) ?_
  rintro v hp' ⟨rfl, rfl⟩
  have hok := cnt_ok s most
  unfold txW
  obtain ⟨n, u, e, hn⟩ : ∃ n u e, cnt s most = (n, u, e) := ⟨_, _, _, rfl⟩
  rw [hn] at hok ⊢
  dsimp only at hok ⊢
  refine RR [] .z (.i 8 (.int .i64 e) (.i 7 (.int .i64 u) (.i 6 (.int .i64 n) (.d (.d (.d (.k .a))))))) .a ?_
  refine RZ (NT (SQ (BK (SQ (RG ?_)))))
  refine RR [] .z (.i 16 (.bool (e != (0 : Int))) .a) .a ?_
  refine RZ (NT ?_)
  refine wpc_cond ((e != 0)) (by kernel_rfl) (fun h1 => ?_) (fun h1 => ?_)
  · have h1' : e ≠ 0 := by simpa using h1
    rw [if_pos h1']
    refine SQ (RG ?_)
    refine RR [] .z (.i 5 (.int .i64 e) (.i 4 (.int .i64 0) (.i 3 (.string ⟨#[]⟩) (.d (.d (.k (.k (.d (.d (.d (.k .a))))))))))) .a ?_
    refine RZ (NT (RE (BR (TR ?_))))
    refine NE [0] .a .z [] (.tuple #[.string ⟨#[]⟩, .int .i64 0, .int .i64 e]) ?_
    exact ⟨rfl, rfl⟩
  · have h1' : ¬ e ≠ 0 := by simpa using h1
    rw [if_neg h1']
    have hu : 0 ≤ n ∧ 0 < u ∧ u ≤ s.length := by omega
    refine SQ (RG ?_)
    refine RV true [] .z (.i 20 (.bool (decide (n > (↑s.length : Int) - u))) (.d (.d (.k .a)))) .a [inI64 ((↑s.length : Int) - u)] ⟨by unfold inI64; omega, trivial⟩ ?_
    refine RZ (NT ?_)
    refine wpc_if ((n > (↑s.length : Int) - u)) (by kernel_rfl) (fun h2 => ?_) (fun h2 => ?_)
    · rw [if_pos h2]
      refine SQ (RG ?_)
      refine RR [] .z (.i 5 (.int .i64 3) (.i 4 (.int .i64 0) (.i 3 (.string ⟨#[]⟩) (.d (.k (.k (.d (.d (.d (.k .a)))))))))) .a ?_
      refine RZ (NT (RE (BR (TR ?_))))
      refine NE [0] .a .z [] (.tuple #[.string ⟨#[]⟩, .int .i64 0, .int .i64 3]) ?_
      exact ⟨rfl, rfl⟩
    · rw [if_neg h2]
      refine SK (BN (NT (SQ (RG ?_))))
      refine RV true [] (.d (.d (.d (.d (.d (.d .a)))))) (.i 32 (.string (mkS (List.take (Int.toNat (u + n - u)) (List.drop (Int.toNat u) s)))) (.d (.k (.k (.k (.k (.k .z))))))) .a ([inI64 (u + n), (0 : Int) ≤ u + n ∧ u + n ≤ (↑s.length : Int), (0 : Int) ≤ u ∧ u ≤ u + n]) ⟨by unfold inI64; omega, by omega, by omega, trivial⟩ ?_
      rw [show u + n - u = n by omega]
      refine RC (dst := some 33) [] .a (Clone_spec ((s.drop u.toNat).take n.toNat) (by rw [List.length_take, List.length_drop]; omega)) ?_
      rintro v hp' ⟨rfl, rfl⟩
      refine RV true [] .z (.d (.d (.d (.d (.k (.i 4 (.int .i64 (u + n)) (.i 3 (.string (mkS (List.take (Int.toNat n) (List.drop (Int.toNat u) s)))) .z))))))) .a ([inI64 (u + n)]) ⟨by unfold inI64; omega, trivial⟩ ?_
      refine RZ (NT (RE ?_))
      refine NE [0] .a .z [] (.tuple #[.string (mkS (List.take (Int.toNat n) (List.drop (Int.toNat u) s))), .int .i64 (u + n), .int .i64 0]) ?_
      exact ⟨rfl, rfl⟩
theorem txt_ok (s : List UInt8) (most : Int) : ((txW s most).2.2 = 0 ∧ 0 < (txW s most).2.1 ∧ (txW s most).2.1 ≤ s.length) ∨ ((txW s most).1 = [] ∧ (txW s most).2.1 = 0 ∧ (txW s most).2.2 ≠ 0) := by
  have hok := cnt_ok s most
  unfold txW
  split
  · rename_i h; exact .inr ⟨rfl, rfl, h⟩
  · split
    · exact .inr ⟨rfl, rfl, by simp⟩
    · exact .inl ⟨rfl, by simp only []; omega, by simp only []; omega⟩
theorem num_ok (s : List UInt8) : ((num s).2.2 = 0 ∧ 0 < (num s).2.1 ∧ (num s).2.1 ≤ s.length) ∨ ((num s).1 = 0 ∧ (num s).2.1 = 0 ∧ (num s).2.2 ≠ 0) := by
  have h := numGo_ok 10 0 0 s
  have hn : numGo 10 0 0 s = num s := rfl
  rw [hn] at h
  rcases h with h | h
  · exact .inl ⟨h.1, by have := h.2.1; simpa using this, by have := h.2.2; simpa using this⟩
  · exact .inr ⟨h.1, h.2.1, by omega⟩
end Go.Proofs.YtpfhleghgkeemaaGreatDoor
namespace Go.Proofs.YtpfhleghgkeemaaGreatDoor
open Go Go.Sx
def rd {α : Type} (z : α) (A : Nat) (e : Int) (x : α × Int × Int) : α × Nat × Int := if e ≠ 0 then (z, A, e) else if x.2.2 ≠ 0 then (z, A, x.2.2) else (x.1, A + x.2.1.toNat, 0)
theorem read_number (r A : Nat) (s : List UInt8) (e : Int) (hA : A ≤ s.length) (hl : s.length ≤ 1099511627776) :
    Does Tryz.prog 114 [.pointer (some ⟨r, 0, none⟩), .func (.func 115) #[] #[]] [rdr r s A e] (fun v hp' => v = .int .i64 (rd 0 A e (num (s.drop A))).1 ∧ hp' = [rdr r s (rd 0 A e (num (s.drop A))).2.1 (rd 0 A e (num (s.drop A))).2.2]) := by
  refine fn_enter Tryz.func114 rfl 44 rfl fun w0 h0 => ?_
  have hok := num_ok (s.drop A)
  rw [List.length_drop] at hok
  unfold rd
  refine SQ (RG ?_)
  refine RR [] .z (.i 4 (.int .i64 0) .a) (.i (.blk r 166 [.bool true, .string (mkS s), .int .i64 (↑A : Int), .int .i64 e]) .z) ?_
  refine RZ (NT (SQ (RG ?_)))
  refine RR [] .z (.i 5 (.int .i64 0) .a) .a ?_
  refine RZ (NT (SQ (SQ (RG ?_))))
  refine RR [] (.d .a) (.i 9 (.pointer (some ⟨r, 0, none⟩)) .a) .a ?_
  refine RCA (dst := some 10) (Err_spec r s A e) ?_
  rintro v hp' ⟨rfl, rfl⟩
  refine RR [] .z (.i 11 (.bool (e != (0 : Int))) (.d (.d (.k .a)))) (.i (.blk r 166 [.bool true, .string (mkS s), .int .i64 (↑A : Int), .int .i64 e]) .z) ?_
  refine RZ (NT ?_)
  refine wpc_cond ((e != 0)) (by kernel_rfl) (fun he => ?_) (fun he => ?_)
  · have he' : e ≠ 0 := by simpa using he
    rw [if_pos he']
    refine SQ (RG ?_)
    refine RR [] .z (.i 4 (.int .i64 0) (.d (.k (.d (.k .a))))) .a ?_
    refine RZ (NT (RE (TR ?_)))
    refine NE [0] .a .z [] (.int .i64 0) ?_
    exact ⟨rfl, rfl⟩
  · have he' : ¬ e ≠ 0 := by simpa using he
    obtain rfl : e = 0 := Classical.not_not.1 he'
    rw [if_neg he']
    unfold rdr
    have hT : List.take ((s.length : Int) - (A : Int)).toNat (List.drop A s) = s.drop A := List.take_of_length_le (by rw [List.length_drop]; omega)
    refine SK (NT (SQ ?_))
    refine wpc_draw (by kernel_rfl) [.blk r 166 [.bool true, .string (mkS s), .int .i64 (↑A : Int), .int .i64 0]] (sub_of [0] (by kernel_rfl)) 18 (by kernel_rfl) ?_
    refine wpa_take true [(0, []), (1, []), (2, []), (3, []), (4, [0]), (5, []), (6, []), (7, []), (8, [0]), (9, [])] [(23, .string (mkS (List.take (Int.toNat ((↑(List.length s) : Int) - (↑A : Int))) (List.drop A s)))), (14, Value.func (Fn.func 115) #[] #[]), (5, .int .i64 0), (4, .int .i64 0), (0, .pointer (some ⟨r, 0, none⟩))] (#[true, true, true, true, true, true, true, true, true, true, false, false, false, false, false, false, false, false]) [(0 : Int) ≤ (↑A : Int) ∧ (↑A : Int) ≤ (↑s.length : Int)] (n := 8) (by kernel_rfl) (by kernel_rfl) (by kernel_rfl) ⟨by omega, trivial⟩ ?_
    rw [hT]
    refine AC (dst := some 24) 7 10 .a (wnumber_spec (s.drop A) (by rw [List.length_drop]; omega)) (GI []) [0] ?_
    rintro v hp' ⟨rfl, rfl⟩
    obtain ⟨x, u, y, hx⟩ : ∃ x u y, (num (s.drop A)) = (x, u, y) := ⟨_, _, _, rfl⟩
    rw [hx] at hok ⊢
    dsimp only at hok ⊢
    refine TK 0 [(11, []), (12, []), (13, []), (14, []), (15, []), (16, []), (17, [])] (.i 8 (.int .i64 y) (.i 7 (.int .i64 u) (.i 6 (.int .i64 x) (.d (.d (.d (.k .a))))))) (#[true, true, true, true, true, true, true, true, true, true, true, true, true, true, true, true, true, true]) ?_
    refine wpa_done 0 (by kernel_rfl) ?_
    refine NT (SQ (SQ (RG ?_)))
    refine RR [] .z (.i 29 (.bool (y != (0 : Int))) .a) .a ?_
    refine RZ (NT ?_)
    refine wpc_cond ((y != 0)) (by kernel_rfl) (fun hy => ?_) (fun hy => ?_)
    · have hy' : y ≠ 0 := by simpa using hy
      rw [if_pos hy']
      refine SQ (RG ?_)
      refine RR [0] .z (.d (.d (.k .a))) (.u (.k (.k (.k (.i (.int .i64 y) .z)))) .a) ?_
      refine RZ (NT (SQ (RG ?_)))
      refine RR [] .z (.i 4 (.int .i64 0) (.k (.k (.d (.d (.k .a)))))) .a ?_
      refine RZ (NT (RE (TR ?_)))
      refine NE [0] .a .z [] (.int .i64 0) ?_
      exact ⟨rfl, rfl⟩
    · have hy' : ¬ y ≠ 0 := by simpa using hy
      rw [if_neg hy']
      have hu : 0 < u ∧ u ≤ ((s.length - A : Nat) : Int) := by omega
      have hAu : ((A + u.toNat : Nat) : Int) = A + u := by omega
      dsimp only
      rw [hAu]
      refine SK (NT (SQ (RG ?_)))
      refine RV true [0, 0] .z (.d (.d (.d (.k (.d (.k .z)))))) (.u (.k (.k (.i (.int .i64 ((↑A : Int) + u)) (.d (.k .a))))) .a) ([inI64 ((↑A : Int) + u)]) ⟨by unfold inI64; omega, trivial⟩ ?_
      refine RZ (NT (SQ (RG ?_)))
      refine RR [] .z (.i 4 (.int .i64 x) .z) .a ?_
      refine RZ (NT (RE ?_))
      refine NE [0] .a .z [] (.int .i64 x) ?_
      exact ⟨rfl, rfl⟩
theorem read_count (r A : Nat) (s : List UInt8) (e : Int) (t : Nat) (most : Int) (hA : A ≤ s.length) (hl : s.length ≤ 1099511627776) :
    Does Tryz.prog 114 [.pointer (some ⟨r, 0, none⟩), .func (.func 148) #[] #[.pointer (some ⟨t, 0, none⟩)]] [rdr r s A e, .blk t 3 [.int .i64 most]] (fun v hp' => v = .int .i64 (rd 0 A e (cnt (s.drop A) most)).1 ∧ hp' = [rdr r s (rd 0 A e (cnt (s.drop A) most)).2.1 (rd 0 A e (cnt (s.drop A) most)).2.2, .blk t 3 [.int .i64 most]]) := by
  refine fn_enter Tryz.func114 rfl 44 rfl fun w0 h0 => ?_
  have hok := cnt_ok (s.drop A) most
  rw [List.length_drop] at hok
  unfold rd
  refine SQ (RG ?_)
  refine RR [] .z (.i 4 (.int .i64 0) .a) (.i (.blk r 166 [.bool true, .string (mkS s), .int .i64 (↑A : Int), .int .i64 e]) (.d (.k .a))) ?_
  refine RZ (NT (SQ (RG ?_)))
  refine RR [] .z (.i 5 (.int .i64 0) .a) .a ?_
  refine RZ (NT (SQ (SQ (RG ?_))))
  refine RR [] (.d .a) (.i 9 (.pointer (some ⟨r, 0, none⟩)) .a) .a ?_
  refine RC (dst := some 10) [0] (.d (.k .a)) (Err_spec r s A e) ?_
  rintro v hp' ⟨rfl, rfl⟩
  refine RR [] .z (.i 11 (.bool (e != (0 : Int))) (.d (.d (.k .a)))) (.i (.blk r 166 [.bool true, .string (mkS s), .int .i64 (↑A : Int), .int .i64 e]) (.d (.k .a))) ?_
  refine RZ (NT ?_)
  refine wpc_cond ((e != 0)) (by kernel_rfl) (fun he => ?_) (fun he => ?_)
  · have he' : e ≠ 0 := by simpa using he
    rw [if_pos he']
    refine SQ (RG ?_)
    refine RR [] .z (.i 4 (.int .i64 0) (.d (.k (.d (.k .a))))) .a ?_
    refine RZ (NT (RE (TR ?_)))
    refine NE [0, 0] .a .z [] (.int .i64 0) ?_
    exact ⟨rfl, rfl⟩
  · have he' : ¬ e ≠ 0 := by simpa using he
    obtain rfl : e = 0 := Classical.not_not.1 he'
    rw [if_neg he']
    unfold rdr
    have hT : List.take ((s.length : Int) - (A : Int)).toNat (List.drop A s) = s.drop A := List.take_of_length_le (by rw [List.length_drop]; omega)
    refine SK (NT (SQ ?_))
    refine wpc_draw (by kernel_rfl) [.blk r 166 [.bool true, .string (mkS s), .int .i64 (↑A : Int), .int .i64 0]] (sub_of [0] (by kernel_rfl)) 18 (by kernel_rfl) ?_
    refine wpa_take true [(0, []), (1, []), (2, []), (3, []), (4, [0]), (5, []), (6, []), (7, []), (8, [0]), (9, [])] [(23, .string (mkS (List.take (Int.toNat ((↑(List.length s) : Int) - (↑A : Int))) (List.drop A s)))), (14, Value.func (Fn.func 148) #[] #[.pointer (some ⟨t, 0, none⟩)]), (5, .int .i64 0), (4, .int .i64 0), (0, .pointer (some ⟨r, 0, none⟩))] (#[true, true, true, true, true, true, true, true, true, true, false, false, false, false, false, false, false, false]) [(0 : Int) ≤ (↑A : Int) ∧ (↑A : Int) ≤ (↑s.length : Int)] (n := 8) (by kernel_rfl) (by kernel_rfl) (by kernel_rfl) ⟨by omega, trivial⟩ ?_
    rw [hT]
    refine AC (dst := some 24) 7 10 (.k .z) (Count1_spec (s.drop A) t most (by rw [List.length_drop]; omega)) (GI [1]) [0] ?_
    rintro v hp' ⟨rfl, rfl⟩
    obtain ⟨x, u, y, hx⟩ : ∃ x u y, (cnt (s.drop A) most) = (x, u, y) := ⟨_, _, _, rfl⟩
    rw [hx] at hok ⊢
    dsimp only at hok ⊢
    refine TK 0 [(11, []), (12, []), (13, []), (14, []), (15, []), (16, []), (17, [])] (.i 8 (.int .i64 y) (.i 7 (.int .i64 u) (.i 6 (.int .i64 x) (.d (.d (.d (.k .a))))))) (#[true, true, true, true, true, true, true, true, true, true, true, true, true, true, true, true, true, true]) ?_
    refine wpa_done 0 (by kernel_rfl) ?_
    refine NT (SQ (SQ (RG ?_)))
    refine RR [] .z (.i 29 (.bool (y != (0 : Int))) .a) .a ?_
    refine RZ (NT ?_)
    refine wpc_cond ((y != 0)) (by kernel_rfl) (fun hy => ?_) (fun hy => ?_)
    · have hy' : y ≠ 0 := by simpa using hy
      rw [if_pos hy']
      refine SQ (RG ?_)
      refine RR [1] .z (.d (.d (.k .a))) (.k (.u (.k (.k (.k (.i (.int .i64 y) .z)))) .a)) ?_
      refine RZ (NT (SQ (RG ?_)))
      refine RR [] .z (.i 4 (.int .i64 0) (.k (.k (.d (.d (.k .a)))))) .a ?_
      refine RZ (NT (RE (TR ?_)))
      refine NE [1, 0] (.i (.blk r 166 [.bool true, .string (mkS s), .int .i64 (↑A : Int), .int .i64 y]) (.k .z)) .z [] (.int .i64 0) ?_
      exact ⟨rfl, rfl⟩
    · have hy' : ¬ y ≠ 0 := by simpa using hy
      rw [if_neg hy']
      have hu : 0 < u ∧ u ≤ ((s.length - A : Nat) : Int) := by omega
      have hAu : ((A + u.toNat : Nat) : Int) = A + u := by omega
      dsimp only
      rw [hAu]
      refine SK (NT (SQ (RG ?_)))
      refine RV true [1, 1] .z (.d (.d (.d (.k (.d (.k .z)))))) (.k (.u (.k (.k (.i (.int .i64 ((↑A : Int) + u)) (.d (.k .a))))) .a)) ([inI64 ((↑A : Int) + u)]) ⟨by unfold inI64; omega, trivial⟩ ?_
      refine RZ (NT (SQ (RG ?_)))
      refine RR [] .z (.i 4 (.int .i64 x) .z) .a ?_
      refine RZ (NT (RE ?_))
      refine NE [1, 0] (.i (.blk r 166 [.bool true, .string (mkS s), .int .i64 ((↑A : Int) + u), .int .i64 0]) (.k .z)) .z [] (.int .i64 x) ?_
      exact ⟨rfl, rfl⟩
theorem read_text (r A : Nat) (s : List UInt8) (e : Int) (t : Nat) (most : Int) (hA : A ≤ s.length) (hl : s.length ≤ 1099511627776) :
    Does Tryz.prog 116 [.pointer (some ⟨r, 0, none⟩), .func (.func 117) #[] #[.pointer (some ⟨t, 0, none⟩)]] [rdr r s A e, .blk t 3 [.int .i64 most]] (fun v hp' => v = .string (mkS (rd [] A e (txW (s.drop A) most)).1) ∧ hp' = [rdr r s (rd [] A e (txW (s.drop A) most)).2.1 (rd [] A e (txW (s.drop A) most)).2.2, .blk t 3 [.int .i64 most]]) := by
  refine fn_enter Tryz.func116 rfl 44 rfl fun w0 h0 => ?_
  have hok := txt_ok (s.drop A) most
  rw [List.length_drop] at hok
  unfold rd
  refine SQ (RG ?_)
  refine RR [] .z (.i 4 (.string ⟨#[]⟩) .a) (.i (.blk r 166 [.bool true, .string (mkS s), .int .i64 (↑A : Int), .int .i64 e]) (.d (.k .a))) ?_
  refine RZ (NT (SQ (RG ?_)))
  refine RR [] .z (.i 5 (.string ⟨#[]⟩) .a) .a ?_
  refine RZ (NT (SQ (SQ (RG ?_))))
  refine RR [] (.d .a) (.i 9 (.pointer (some ⟨r, 0, none⟩)) .a) .a ?_
  refine RC (dst := some 10) [0] (.d (.k .a)) (Err_spec r s A e) ?_
  rintro v hp' ⟨rfl, rfl⟩
  refine RR [] .z (.i 11 (.bool (e != (0 : Int))) (.d (.d (.k .a)))) (.i (.blk r 166 [.bool true, .string (mkS s), .int .i64 (↑A : Int), .int .i64 e]) (.d (.k .a))) ?_
  refine RZ (NT ?_)
  refine wpc_cond ((e != 0)) (by kernel_rfl) (fun he => ?_) (fun he => ?_)
  · have he' : e ≠ 0 := by simpa using he
    rw [if_pos he']
    refine SQ (RG ?_)
    refine RR [] .z (.i 4 (.string ⟨#[]⟩) (.d (.k (.d (.k .a))))) .a ?_
    refine RZ (NT (RE (TR ?_)))
    refine NE [0, 0] .a .z [] (.string ⟨#[]⟩) ?_
    exact ⟨rfl, rfl⟩
  · have he' : ¬ e ≠ 0 := by simpa using he
    obtain rfl : e = 0 := Classical.not_not.1 he'
    rw [if_neg he']
    unfold rdr
    have hT : List.take ((s.length : Int) - (A : Int)).toNat (List.drop A s) = s.drop A := List.take_of_length_le (by rw [List.length_drop]; omega)
    refine SK (NT (SQ ?_))
    refine wpc_draw (by kernel_rfl) [.blk r 166 [.bool true, .string (mkS s), .int .i64 (↑A : Int), .int .i64 0]] (sub_of [0] (by kernel_rfl)) 18 (by kernel_rfl) ?_
    refine wpa_take true [(0, []), (1, []), (2, []), (3, []), (4, [0]), (5, []), (6, []), (7, []), (8, [0]), (9, [])] [(23, .string (mkS (List.take (Int.toNat ((↑(List.length s) : Int) - (↑A : Int))) (List.drop A s)))), (14, Value.func (Fn.func 117) #[] #[.pointer (some ⟨t, 0, none⟩)]), (5, .string ⟨#[]⟩), (4, .string ⟨#[]⟩), (0, .pointer (some ⟨r, 0, none⟩))] (#[true, true, true, true, true, true, true, true, true, true, false, false, false, false, false, false, false, false]) [(0 : Int) ≤ (↑A : Int) ∧ (↑A : Int) ≤ (↑s.length : Int)] (n := 8) (by kernel_rfl) (by kernel_rfl) (by kernel_rfl) ⟨by omega, trivial⟩ ?_
    rw [hT]
    refine AC (dst := some 24) 7 10 (.k .z) (Text1_spec (s.drop A) t most (by rw [List.length_drop]; omega)) (GI [1]) [0] ?_
    rintro v hp' ⟨rfl, rfl⟩
    obtain ⟨x, u, y, hx⟩ : ∃ x u y, (txW (s.drop A) most) = (x, u, y) := ⟨_, _, _, rfl⟩
    rw [hx] at hok ⊢
    dsimp only at hok ⊢
    refine TK 0 [(11, []), (12, []), (13, []), (14, []), (15, []), (16, []), (17, [])] (.i 8 (.int .i64 y) (.i 7 (.int .i64 u) (.i 6 (.string (mkS x)) (.d (.d (.d (.k .a))))))) (#[true, true, true, true, true, true, true, true, true, true, true, true, true, true, true, true, true, true]) ?_
    refine wpa_done 0 (by kernel_rfl) ?_
    refine NT (SQ (SQ (RG ?_)))
    refine RR [] .z (.i 29 (.bool (y != (0 : Int))) .a) .a ?_
    refine RZ (NT ?_)
    refine wpc_cond ((y != 0)) (by kernel_rfl) (fun hy => ?_) (fun hy => ?_)
    · have hy' : y ≠ 0 := by simpa using hy
      rw [if_pos hy']
      refine SQ (RG ?_)
      refine RR [1] .z (.d (.d (.k .a))) (.k (.u (.k (.k (.k (.i (.int .i64 y) .z)))) .a)) ?_
      refine RZ (NT (SQ (RG ?_)))
      refine RR [] .z (.i 4 (.string ⟨#[]⟩) (.k (.k (.d (.d (.k .a)))))) .a ?_
      refine RZ (NT (RE (TR ?_)))
      refine NE [1, 0] (.i (.blk r 166 [.bool true, .string (mkS s), .int .i64 (↑A : Int), .int .i64 y]) (.k .z)) .z [] (.string ⟨#[]⟩) ?_
      exact ⟨rfl, rfl⟩
    · have hy' : ¬ y ≠ 0 := by simpa using hy
      rw [if_neg hy']
      have hu : 0 < u ∧ u ≤ ((s.length - A : Nat) : Int) := by omega
      have hAu : ((A + u.toNat : Nat) : Int) = A + u := by omega
      dsimp only
      rw [hAu]
      refine SK (NT (SQ (RG ?_)))
      refine RV true [1, 1] .z (.d (.d (.d (.k (.d (.k .z)))))) (.k (.u (.k (.k (.i (.int .i64 ((↑A : Int) + u)) (.d (.k .a))))) .a)) ([inI64 ((↑A : Int) + u)]) ⟨by unfold inI64; omega, trivial⟩ ?_
      refine RZ (NT (SQ (RG ?_)))
      refine RR [] .z (.i 4 (.string (mkS x)) .z) .a ?_
      refine RZ (NT (RE ?_))
      refine NE [1, 0] (.i (.blk r 166 [.bool true, .string (mkS s), .int .i64 ((↑A : Int) + u), .int .i64 0]) (.k .z)) .z [] (.string (mkS x)) ?_
      exact ⟨rfl, rfl⟩
theorem Int_spec (r A : Nat) (s : List UInt8) (e : Int) (hA : A ≤ s.length) (hl : s.length ≤ 1099511627776) :
    Does Tryz.prog 77 [.pointer (some ⟨r, 0, none⟩)] [rdr r s A e] (fun v hp' => v = .int .i64 (rd 0 A e (num (s.drop A))).1 ∧ hp' = [rdr r s (rd 0 A e (num (s.drop A))).2.1 (rd 0 A e (num (s.drop A))).2.2]) := by
  refine fn_enter Tryz.func77 rfl 5 rfl fun w0 h0 => ?_
  refine SQ (RG ?_)
  refine RR [] .z (.i 2 (.int .i64 0) .a) (.i (.blk r 166 [.bool true, .string (mkS s), .int .i64 (↑A : Int), .int .i64 e]) .z) ?_
  refine RZ (NT (SQ (RG ?_)))
  refine RR [] (.d .a) (.i 3 (.pointer (some ⟨r, 0, none⟩)) (.k .z)) .a ?_
  refine RCA (dst := some 4) (read_number r A s e hA hl) ?_
  rintro v hp' ⟨rfl, rfl⟩
  unfold rdr
  refine RR [] .z (.i 2 (.int .i64 (rd 0 A e (num (List.drop A s))).fst) .z) .a ?_
  refine RZ (NT (RE ?_))
  refine NE [0] .a .z [] (.int .i64 (rd 0 A e (num (List.drop A s))).fst) ?_
  exact ⟨rfl, rfl⟩
theorem RdCount_spec (r A : Nat) (s : List UInt8) (e : Int) (most : Int) (hA : A ≤ s.length) (hl : s.length ≤ 1099511627776) :
    Does Tryz.prog 120 [.pointer (some ⟨r, 0, none⟩), .int .i64 most] [rdr r s A e] (fun v hp' => v = .int .i64 (rd 0 A e (cnt (s.drop A) most)).1 ∧ hp' = [rdr r s (rd 0 A e (cnt (s.drop A) most)).2.1 (rd 0 A e (cnt (s.drop A) most)).2.2]) := by
  refine fn_enter Tryz.func120 rfl 8 rfl fun w0 h0 => ?_
  refine SQ (RG ?_)
  refine RP [] (.d .a) 3 (.k .z) (.i (.blk r 166 [.bool true, .string (mkS s), .int .i64 (↑A : Int), .int .i64 e]) .z) 3 [.int .i64 most] fun g1 => ?_
  refine RR [] .z (.i 4 (.int .i64 0) .a) .a ?_
  refine RZ (NT (SQ (RG ?_)))
  refine RR [] (.d (.d .a)) (.i 6 (Value.func (Fn.func 148) #[] #[.pointer (some ⟨g1, 0, none⟩)]) (.i 5 (.pointer (some ⟨r, 0, none⟩)) (.k .z))) .a ?_
  refine RCA (dst := some 7) (read_count r A s e g1 most hA hl) ?_
  rintro v hp' ⟨rfl, rfl⟩
  unfold rdr
  refine RR [] .z (.i 4 (.int .i64 (rd 0 A e (cnt (List.drop A s) most)).fst) .z) .a ?_
  refine RZ (NT (RE ?_))
  refine NE [0] (.k .z) (.d (.k .a)) [] (.int .i64 (rd 0 A e (cnt (List.drop A s) most)).fst) ?_
  exact ⟨rfl, rfl⟩
theorem Text_spec (r A : Nat) (s : List UInt8) (e : Int) (most : Int) (hA : A ≤ s.length) (hl : s.length ≤ 1099511627776) :
    Does Tryz.prog 78 [.pointer (some ⟨r, 0, none⟩), .int .i64 most] [rdr r s A e] (fun v hp' => v = .string (mkS (rd [] A e (txW (s.drop A) most)).1) ∧ hp' = [rdr r s (rd [] A e (txW (s.drop A) most)).2.1 (rd [] A e (txW (s.drop A) most)).2.2]) := by
  refine fn_enter Tryz.func78 rfl 8 rfl fun w0 h0 => ?_
  refine SQ (RG ?_)
  refine RP [] (.d .a) 3 (.k .z) (.i (.blk r 166 [.bool true, .string (mkS s), .int .i64 (↑A : Int), .int .i64 e]) .z) 3 [.int .i64 most] fun g1 => ?_
  refine RR [] .z (.i 4 (.string ⟨#[]⟩) .a) .a ?_
  refine RZ (NT (SQ (RG ?_)))
  refine RR [] (.d (.d .a)) (.i 6 (Value.func (Fn.func 117) #[] #[.pointer (some ⟨g1, 0, none⟩)]) (.i 5 (.pointer (some ⟨r, 0, none⟩)) (.k .z))) .a ?_
  refine RCA (dst := some 7) (read_text r A s e g1 most hA hl) ?_
  rintro v hp' ⟨rfl, rfl⟩
  unfold rdr
  refine RR [] .z (.i 4 (.string (mkS (rd [] A e (txW (List.drop A s) most)).fst)) .z) .a ?_
  refine RZ (NT (RE ?_))
  refine NE [0] (.k .z) (.d (.k .a)) [] (.string (mkS (rd [] A e (txW (List.drop A s) most)).fst)) ?_
  exact ⟨rfl, rfl⟩
theorem unfold_fold (n : Int) : unfoldN (foldN n) = n := by unfold unfoldN foldN; split <;> split <;> omega
theorem ofNat_toNat {n : Nat} (h : n < 256) : (UInt8.ofNat n).toNat = n := by rw [UInt8.toNat_ofNat']; omega
theorem num_vb : ∀ (k i f g : Nat) (more : List UInt8), i + k = 10 → 0 < k → (0 < i → 0 < g) → f + g * 128 ^ i < 18446744073709551616 →
    numGo k i f (vb g ++ more) = (unfoldN (f + g * 128 ^ i : Nat), ((i + (vb g).length : Nat) : Int), 0)
  | 0, _, _, _, _, _, h, _, _ => absurd h (by decide)
  | k + 1, i, f, g, more, hk, _, hg, hF => by
    have e9 : (128 : Nat) ^ 9 = 9223372036854775808 := by decide
    by_cases hs : g < 128
    · rw [vb_lt hs]
      have hc : (UInt8.ofNat g).toNat = g := ofNat_toNat (by omega)
      show numGo (k + 1) i f (UInt8.ofNat g :: more) = _
      unfold numGo
      rw [hc]
      have h9 : ¬ (i = 9 ∧ UInt8.ofNat g ≠ 1) := by
        rintro ⟨rfl, hne⟩
        rw [e9] at hF
        have : g = 1 := by have := hg (by decide); omega
        exact hne (by rw [this]; rfl)
      have h0 : ¬ (UInt8.ofNat g = 0 ∧ 0 < i) := by
        rintro ⟨h1, h2⟩
        have h3 := congrArg UInt8.toNat h1
        rw [hc] at h3
        have := hg h2
        have e0 : (0 : UInt8).toNat = 0 := rfl
        omega
      rw [if_neg h9, if_neg (by omega), if_neg h0, Nat.mod_eq_of_lt hs]
      simp
    · rw [vb_ge hs]
      have hc : (UInt8.ofNat (g % 128 + 128)).toNat = g % 128 + 128 := ofNat_toNat (by omega)
      have hi9 : i < 9 := by
        rcases Nat.lt_or_ge i 9 with h | h
        · exact h
        · have e : i = 9 := by omega
          subst e
          rw [e9] at hF
          omega
      show numGo (k + 1) i f (UInt8.ofNat (g % 128 + 128) :: (vb (g / 128) ++ more)) = _
      unfold numGo
      rw [hc]
      have e : f + (g % 128 + 128) % 128 * 128 ^ i + g / 128 * 128 ^ (i + 1) = f + g * 128 ^ i := by
        have h1 : (g % 128 + 128) % 128 = g % 128 := by omega
        have h2 : g / 128 * 128 ^ (i + 1) = (128 * (g / 128)) * 128 ^ i := by rw [Nat.pow_succ, Nat.mul_comm (128 ^ i), ← Nat.mul_assoc, Nat.mul_comm (g / 128)]
        rw [h1, h2, Nat.add_assoc, ← Nat.add_mul, Nat.mod_add_div]
      rw [if_neg (by omega), if_pos (by omega), num_vb k (i + 1) _ (g / 128) more (by omega) (by omega) (fun _ => by omega) (by rw [e]; exact hF), e]
      simp only [List.length_cons, Prod.mk.injEq, and_true, true_and]
      omega
theorem num_encI {n : Int} (h1 : -9223372036854775808 ≤ n) (h2 : n ≤ 9223372036854775807) (more : List UInt8) : num (encI n ++ more) = (n, ((encI n).length : Int), 0) := by
  have hF := foldN_lt h1 h2
  have hN := foldN_nn n
  have e : (((foldN n).toNat : Nat) : Int) = foldN n := Int.toNat_of_nonneg hN
  unfold num encI
  rw [num_vb 10 0 0 (foldN n).toNat more rfl (by decide) (fun h => absurd h (by decide)) (by simp; omega)]
  simp only [Nat.pow_zero, Nat.mul_one, Nat.zero_add, e, unfold_fold]
theorem cnt_encI {n most : Int} (h1 : 0 ≤ n) (h2 : n ≤ 9223372036854775807) (more : List UInt8) : cnt (encI n ++ more) most = if n > max 0 most then (0, 0, 5) else (n, ((encI n).length : Int), 0) := by
  unfold cnt
  rw [num_encI (by omega) h2]
  dsimp only
  rw [if_neg (by simp), if_neg (by omega)]
theorem txt_encT (t : List UInt8) (ht : (t.length : Int) ≤ 9223372036854775807) (most : Int) (hm : (t.length : Int) ≤ max 0 most) (more : List UInt8) : txW (encT t ++ more) most = (t, ((encT t).length : Int), 0) := by
  have hc := cnt_encI (most := most) (n := t.length) (by omega) ht (t ++ more)
  have e : encT t ++ more = encI t.length ++ (t ++ more) := by unfold encT; rw [List.append_assoc]
  rw [if_neg (by omega)] at hc
  unfold txW
  rw [e, hc]
  dsimp only
  rw [if_neg (by simp), if_neg (by simp only [List.length_append]; omega)]
  simp [encT]
theorem fold_unfold (F : Int) (h : 0 ≤ F) : foldN (unfoldN F) = F := by unfold unfoldN foldN; split <;> split <;> omega
theorem num_inv : ∀ (k i f : Nat) (s : List UInt8) (x u : Int), numGo k i f s = (x, u, 0) →
    ∃ g : Nat, x = unfoldN (f + g * 128 ^ i : Nat) ∧ u = ((i + (vb g).length : Nat) : Int) ∧ s.take (vb g).length = vb g ∧ (vb g).length ≤ s.length ∧ (0 < i → 0 < g)
  | 0, _, _, _, x, u, h => by simp [numGo] at h
  | _ + 1, _, _, [], x, u, h => by simp [numGo] at h
  | k + 1, i, f, c :: s, x, u, h => by
    unfold numGo at h
    split at h
    · simp at h
    · split at h
      · rename_i hc
        obtain ⟨g, h1, h2, h3, h4, h5⟩ := num_inv k (i + 1) _ s x u h
        have hg := h5 (by omega)
        have hcl := c.toNat_lt
        have hge : ¬ (c.toNat % 128 + 128 * g) < 128 := by omega
        have hv : vb (c.toNat % 128 + 128 * g) = c :: vb g := by
          rw [vb_ge hge, show (c.toNat % 128 + 128 * g) / 128 = g by omega, show (c.toNat % 128 + 128 * g) % 128 + 128 = c.toNat by omega, UInt8.ofNat_toNat]
        refine ⟨c.toNat % 128 + 128 * g, ?_, ?_, ?_, ?_, fun _ => by omega⟩
        · rw [h1]
          congr 2
          rw [Nat.pow_succ, Nat.mul_comm (128 ^ i), ← Nat.mul_assoc, Nat.mul_comm g, Nat.add_assoc, ← Nat.add_mul]
        · rw [h2, hv]; simp; omega
        · rw [hv, List.length_cons, List.take_succ_cons, h3]
        · rw [hv]; simp; omega
      · split at h
        · simp at h
        · rename_i hc h0
          have hc' : c.toNat < 128 := by omega
          simp only [Prod.mk.injEq, and_true] at h
          have hv : vb c.toNat = [c] := by rw [vb_lt hc', UInt8.ofNat_toNat]
          refine ⟨c.toNat, ?_, ?_, ?_, ?_, fun hi => ?_⟩
          · rw [← h.1, Nat.mod_eq_of_lt hc']
          · rw [← h.2, hv]; simp
          · rw [hv]; simp
          · rw [hv]; simp
          · rcases Nat.eq_zero_or_pos c.toNat with h' | h'
            · exact absurd ⟨UInt8.toNat_inj.1 h', hi⟩ h0
            · exact h'
theorem num_form (s : List UInt8) (x u : Int) (h : num s = (x, u, 0)) : u = (encI x).length ∧ s.take (encI x).length = encI x ∧ (encI x).length ≤ s.length := by
  obtain ⟨g, h1, h2, h3, h4, _⟩ := num_inv 10 0 0 s x u h
  have e : encI x = vb g := by
    unfold encI
    rw [h1, fold_unfold _ (Int.natCast_nonneg _)]
    simp
  rw [e]
  exact ⟨by rw [h2]; simp, h3, h4⟩
theorem cnt_num (s : List UInt8) (most n u : Int) (h : cnt s most = (n, u, 0)) : num s = (n, u, 0) ∧ 0 ≤ n ∧ n ≤ max 0 most := by
  unfold cnt at h
  split at h
  · rename_i h1; simp only [Prod.mk.injEq] at h; exact absurd h.2.2 h1
  · rename_i h1
    split at h
    · simp at h
    · split at h
      · simp at h
      · simp only [Prod.mk.injEq, and_true] at h
        refine ⟨?_, by omega, by omega⟩
        rw [← h.1, ← h.2]
        exact Prod.ext rfl (Prod.ext rfl (Classical.not_not.1 h1))
theorem txt_form (s t : List UInt8) (most u : Int) (h : txW s most = (t, u, 0)) : u = (encT t).length ∧ s.take (encT t).length = encT t ∧ (encT t).length ≤ s.length := by
  obtain ⟨n, v, e, hn⟩ : ∃ n v e, cnt s most = (n, v, e) := ⟨_, _, _, rfl⟩
  have hok := cnt_ok s most
  unfold txW at h
  rw [hn] at h hok
  dsimp only at h hok
  split at h
  · rename_i h1; simp only [Prod.mk.injEq] at h; exact absurd h.2.2 h1
  · rename_i h1
    have he : e = 0 := Classical.not_not.1 h1
    subst he
    obtain ⟨hx, h0, _⟩ := cnt_num s most n v hn
    obtain ⟨hv, ht, hle⟩ := num_form s n v hx
    split at h
    · simp at h
    · rename_i h2
      simp only [Prod.mk.injEq, and_true] at h
      obtain ⟨h3, h4⟩ := h
      have hvn : v.toNat = (encI n).length := by omega
      have htl : t.length = n.toNat := by rw [← h3, List.length_take, List.length_drop]; omega
      have hE : encT t = encI n ++ t := by unfold encT; rw [htl, Int.toNat_of_nonneg h0]
      have hEl : (encT t).length = (encI n).length + t.length := by rw [hE, List.length_append]
      refine ⟨by omega, ?_, by omega⟩
      rw [hEl, List.take_add, ht, hE, htl, ← hvn, h3]
theorem unfoldN_rng {F : Int} (h : 0 ≤ F) (h2 : F < 18446744073709551616) : -9223372036854775808 ≤ unfoldN F ∧ unfoldN F ≤ 9223372036854775807 := by unfold unfoldN; split <;> omega
theorem num_rng : ∀ (k i f : Nat) (s : List UInt8), f < 128 ^ i → i + k = 10 → -9223372036854775808 ≤ (numGo k i f s).1 ∧ (numGo k i f s).1 ≤ 9223372036854775807
  | 0, _, _, _, _, _ => by simp [numGo]
  | _ + 1, _, _, [], _, _ => by simp [numGo]
  | k + 1, i, f, c :: s, hf, hk => by
    unfold numGo
    split
    · simp
    · rename_i h9
      split
      · refine num_rng k (i + 1) _ s ?_ (by omega)
        have : c.toNat % 128 * 128 ^ i ≤ 127 * 128 ^ i := Nat.mul_le_mul_right _ (by omega)
        rw [Nat.pow_succ]; omega
      · split
        · simp
        · have h9x : i = 9 → c.toNat % 128 ≤ 1 := fun e => by
            have e1 : c = 1 := Classical.byContradiction fun hc1 => h9 ⟨e, hc1⟩
            rw [e1]; decide
          have hacc := acc_lt hf (by omega) (Nat.mod_lt c.toNat (show 0 < 128 by decide)) h9x
          exact unfoldN_rng (by omega) (by omega)
theorem num_i64 (s : List UInt8) : -9223372036854775808 ≤ (num s).1 ∧ (num s).1 ≤ 9223372036854775807 := num_rng 10 0 0 s (by decide) rfl
end Go.Proofs.YtpfhleghgkeemaaGreatDoor
namespace Go.Proofs.YtpfhleghgkeemaaGreatDoor
open Go Go.Sx
def rrd (s : List UInt8) (A e : Int) : Value := .agg #[.string (mkS s), .int .i64 A, .int .i64 e]
structure RNI (s : List UInt8) (A : Nat) where
  i : Nat
  f : Nat
  hi : i ≤ 10
  hs : A + i ≤ s.length
  hf : f < 128 ^ i
  hn : numGo (10 - i) i f (s.drop (A + i)) = num (s.drop A)
theorem add_acc {f i x : Nat} (hf : f < 128 ^ i) (hi : i ≤ 9) (hx : x < 128) (h9 : i = 9 → x ≤ 1) :
    IntKind.u64.wrap ((f : Int) + IntKind.u64.wrap (IntKind.u64.wrap (x : Int) * 2 ^ min (7 * (i : Int)).toNat IntKind.u64.bits)) = ((f + x * 128 ^ i : Nat) : Int) := by
  have e64 : IntKind.u64.bits = 64 := rfl
  obtain ⟨h1, h2⟩ := acc_lt hf hi hx h9
  have hm : min (7 * (i : Int)).toNat 64 = 7 * i := by omega
  have hp : (128 : Nat) ^ i = 2 ^ (7 * i) := by rw [Nat.pow_mul]
  rw [e64, hm]
  simp only [u64_wrap]
  have hx2 : (x : Int) % 18446744073709551616 = x := by omega
  have hpi : ((2 : Int) ^ (7 * i)) = ((128 ^ i : Nat) : Int) := by rw [hp]; simp
  rw [hx2, hpi, ← Int.natCast_mul]
  omega
theorem tmod128 (c : UInt8) : ((c.toNat : Int).tmod 128) = ((c.toNat % 128 : Nat) : Int) := by
  rw [Int.tmod_eq_emod_of_nonneg (by omega)]; omega
theorem rnumber_spec (s : List UInt8) (A : Nat) (hA : A ≤ s.length) (hl : s.length ≤ 1099511627776) :
    Does Tryz.prog 149 [.string (mkS s), .int .i64 (A : Int)] [] (fun v hp' => v = .tuple #[.int .i64 (num (s.drop A)).1, .int .i64 (if (num (s.drop A)).2.2 = 0 then A + (num (s.drop A)).2.1 else 0), .int .i64 (num (s.drop A)).2.2] ∧ hp' = []) := by
  refine fn_enter Tryz.func149 rfl 53 rfl fun w0 h0 => ?_
  refine SQ (RG ?_)
  refine RR [] .z (.i 6 (.int .i64 0) (.i 5 (.int .i64 0) (.i 4 (.int .i64 0) .a))) .a ?_
  refine RZ (NT (SQ (RG ?_)))
  refine RR [] .z (.i 7 (.int .u64 0) .a) .a ?_
  refine RZ (NT (SQ (SQ (RG ?_))))
  refine RR [] .z (.i 8 (.int .i64 0) .a) .a ?_
  refine RZ (NT (BK ?_))
  refine wpc_loop (X := RNI s A) (fun x => St.mk [(8, .int .i64 (x.i : Int)), (7, .int .u64 (x.f : Int)), (0, .string (mkS s)), (1, .int .i64 (A : Int)), (4, .int .i64 0), (5, .int .i64 0), (6, .int .i64 0)] []) (fun x => 10 - x.i) ⟨0, 0, by omega, by omega, by decide, rfl⟩ (ent_fr (by kernel_rfl)) ?_
  rintro ⟨i, f, hi, hs, hf, hn⟩
  dsimp only
  refine SQ (SQ (RG ?_))
  refine RR [] .z (.i 11 (.bool (decide ((↑i : Int) < (10 : Int)))) .a) .a ?_
  refine RZ (NT ?_)
  refine wpc_if (((↑i : Int) < 10)) (by kernel_rfl) (fun hlt => ?_) (fun hlt => ?_)
  · refine SK (NT (SQ (BK (SQ (SQ (RG ?_))))))
    refine RV true [] .z (.i 19 (.bool (decide ((↑A : Int) + (↑i : Int) ≥ (↑s.length : Int)))) (.d (.k .a))) .a ([inI64 ((↑A : Int) + (↑i : Int))]) ⟨by unfold inI64; omega, trivial⟩ ?_
    refine RZ (NT ?_)
    refine wpc_if (((↑A : Int) + (↑i : Int) ≥ (↑s.length : Int))) (by kernel_rfl) (fun hend => ?_) (fun hend => ?_)
    · refine SQ (RG ?_)
      refine RR [] .z (.i 6 (.int .i64 3) (.i 5 (.int .i64 0) (.i 4 (.int .i64 0) (.d (.k (.k (.k (.k .z)))))))) .a ?_
      refine RZ (NT (RE (TR (BR (TR (TR (BR (TR ?_))))))))
      refine NE [] .a .a [] (.tuple #[.int .i64 0, .int .i64 0, .int .i64 3]) ?_
      refine ⟨?_, rfl⟩
      rw [← hn, List.drop_eq_nil_of_le (by omega), show 10 - i = (9 - i) + 1 by omega]
      rfl
    · have hlen : A + i < s.length := by omega
      obtain ⟨c, hc⟩ : ∃ c, c = s[A + i] := ⟨_, rfl⟩
      have hbt : bt (mkS s) ((A : Int) + (i : Int)) = (c.toNat : Int) := by rw [hc, ← Int.natCast_add]; exact wbt_at hlen
      have hd : s.drop (A + i) = c :: s.drop (A + i + 1) := by rw [hc]; exact List.drop_eq_getElem_cons hlen
      rw [hd, show 10 - i = (9 - i) + 1 by omega] at hn
      unfold numGo at hn
      by_cases h9 : i = 9 ∧ c ≠ 1
      · rw [if_pos h9] at hn
        have hne : (!((c.toNat : Int) == 1)) = true := by
          have : c.toNat ≠ 1 := fun e => h9.2 (UInt8.toNat_inj.1 e)
          simp; omega
        obtain ⟨rfl, _⟩ := h9
        refine SK (NT (SQ (RG ?_)))
        refine RV true [] .z (.i 9 (.int .u8 (bt (mkS s) ((↑A : Int) + 9))) (.i 8 (.int .i64 9) (.d (.d (.k .a))))) .a ([inI64 ((↑A : Int) + (9 : Int)), (0 : Int) ≤ (↑A : Int) + (9 : Int) ∧ (↑A : Int) + (9 : Int) < (↑s.length : Int)]) ⟨by unfold inI64; omega, by omega, trivial⟩ ?_
        refine RZ (NT (SQ (SQ (RG ?_))))
        refine RR [] .z (.i 30 (.bool (bt (mkS s) ((↑A : Int) + (9 : Int)) != (1 : Int))) .a) .a ?_
        refine RZ (NT ?_)
        refine wpc_ent (ent_set 30 (.bool (bt (mkS s) ((↑A : Int) + 9) != 1)) (.bool true) (by kernel_rfl) (congrArg _ (by show (bt (mkS s) ((A : Int) + ((9 : Nat) : Int)) != 1) = true; rw [hbt]; exact hne))) ?_
        refine CT (SQ (RG ?_))
        refine RR [] .z (.i 6 (.int .i64 4) (.i 5 (.int .i64 0) (.i 4 (.int .i64 0) (.d (.d (.k (.k (.k (.k (.k .z)))))))))) .a ?_
        refine RZ (NT (RE (TR (BR (TR (TR (BR (TR ?_))))))))
        refine NE [] .a .a [] (.tuple #[.int .i64 0, .int .i64 0, .int .i64 4]) ?_
        exact ⟨by rw [← hn]; rfl, rfl⟩
      · rw [if_neg h9] at hn
        refine SK (NT (SQ (RG ?_)))
        refine RV true [] .z (.i 9 (.int .u8 (bt (mkS s) ((↑A : Int) + (↑i : Int)))) (.d (.k .a))) .a ([inI64 ((↑A : Int) + (↑i : Int)), (0 : Int) ≤ (↑A : Int) + (↑i : Int) ∧ (↑A : Int) + (↑i : Int) < (↑s.length : Int)]) ⟨by unfold inI64; omega, by omega, trivial⟩ ?_
        refine RZ (NT (SQ (SQ (RG ?_))))
        refine RR [] (.d (.d (.d .a))) (.i 27 (.bool ((↑i : Int) == (9 : Int))) .a) .a ?_
        refine wpr_join ⟨[(30, .bool false), (9, (.int .u8 (bt (mkS s) ((↑A : Int) + (↑i : Int))))), (7, (.int .u64 (↑f : Int))), (8, (.int .i64 (↑i : Int))), (0, (.string (mkS s))), (1, (.int .i64 (↑A : Int))), (4, (.int .i64 0)), (5, (.int .i64 0)), (6, (.int .i64 0))], []⟩ (fun Q1 hQ1 hk => ?_) ?_
        · refine wpr_case 27 (((↑i : Int) == 9)) (by kernel_rfl) (fun h => ?_) (fun h => ?_)
          · refine RR [] .z (.i 30 (.bool (bt (mkS s) ((↑A : Int) + (↑i : Int)) != (1 : Int))) (.d (.d (.k .a)))) .a ?_
            refine RZ ?_
            refine nx_ent (ent_set 30 (.bool (bt (mkS s) ((↑A : Int) + (↑i : Int)) != 1)) (.bool false) (by kernel_rfl) (congrArg _ (by
                          rw [hbt]
                          have e9 : i = 9 := by have := eq_of_beq h; omega
                          have e1 : c = 1 := Classical.byContradiction fun hc1 => h9 ⟨e9, hc1⟩
                          rw [e1]; rfl))) ?_
            exact nx_ent (ent_fr (by kernel_rfl)) hk
          · refine RR [] .z (.i 30 (.bool false) (.d (.d (.k .a)))) .a ?_
            refine RZ ?_
            exact nx_ent (ent_fr (by kernel_rfl)) hk
        have h9x : i = 9 → c.toNat % 128 ≤ 1 := fun e => by
          have e1 : c = 1 := Classical.byContradiction fun hc1 => h9 ⟨e, hc1⟩
          rw [e1]; decide
        have hacc := acc_lt hf (by omega) (Nat.mod_lt c.toNat (show 0 < 128 by decide)) h9x
        rw [hbt]
        refine NT (CF (SK (NT (SQ (RG ?_)))))
        refine RV true [] .z (.i 7 (.int .u64 (IntKind.wrap IntKind.u64 ((↑f : Int) + IntKind.wrap IntKind.u64 (IntKind.wrap IntKind.u64 (Int.tmod (↑(UInt8.toNat c) : Int) 128) * 2 ^ min (Int.toNat (7 * (↑i : Int))) (IntKind.bits IntKind.u64))))) (.d (.k (.d (.k .a))))) .a [inI64 ((7 : Int) * (↑i : Int)), (0 : Int) ≤ (7 : Int) * (↑i : Int)] ⟨by unfold inI64; omega, by omega, trivial⟩ ?_
        refine RZ (NT (SQ (RG ?_)))
        refine RR [] .z (.i 40 (.bool (decide ((↑c.toNat : Int) < (128 : Int)))) .a) .a ?_
        refine RZ (NT ?_)
        refine wpc_ent (ent_set 7 (.int .u64 (IntKind.wrap IntKind.u64 ((↑f : Int) + IntKind.wrap IntKind.u64 (IntKind.wrap IntKind.u64 (Int.tmod (↑(UInt8.toNat c) : Int) 128) * 2 ^ min (Int.toNat (7 * (↑i : Int))) (IntKind.bits IntKind.u64))))) (Value.int .u64 ((f + c.toNat % 128 * 128 ^ i : Nat) : Int)) (by kernel_rfl) (congrArg _ (by rw [tmod128]; exact add_acc hf (by omega) (Nat.mod_lt _ (by decide)) h9x))) ?_
        refine wpc_if (((↑c.toNat : Int) < 128)) (by kernel_rfl) (fun hsm => ?_) (fun hsm => ?_)
        · rw [if_neg (by omega)] at hn
          refine SQ (SQ (RG ?_))
          refine RR [] (.d (.d (.d .a))) (.i 43 (.bool ((↑c.toNat : Int) == (0 : Int))) (.k (.d (.d (.d (.k .a)))))) .a ?_
          refine wpr_case 43 (((↑c.toNat : Int) == 0)) (by kernel_rfl) (fun hz => ?_) (fun hz => ?_)
          · have hc0 : c = 0 := by
              have := eq_of_beq hz
              exact UInt8.toNat_inj.1 (by show c.toNat = 0; omega)
            refine RR [] .z (.i 46 (.bool (decide ((↑i : Int) > (0 : Int)))) (.d (.d (.k .a)))) .a ?_
            refine RZ (NT ?_)
            refine wpc_if (((↑i : Int) > 0)) (by kernel_rfl) (fun hi0 => ?_) (fun hi0 => ?_)
            · rw [if_pos ⟨hc0, by omega⟩] at hn
              refine SQ (RG ?_)
              refine RR [] .z (.i 6 (.int .i64 4) (.i 5 (.int .i64 0) (.i 4 (.int .i64 0) (.d (.k (.k (.k (.k .z)))))))) .a ?_
              refine RZ (NT (RE (TR (BR (TR (TR (BR (TR ?_))))))))
              refine NE [] .a .a [] (.tuple #[.int .i64 0, .int .i64 0, .int .i64 4]) ?_
              exact ⟨by rw [← hn]; rfl, rfl⟩
            · rw [if_neg (fun h => hi0 (by omega))] at hn
              refine SK (NT (SQ (RG ?_)))
              refine RR [] (.d .a) (.i 47 (.int .u64 (↑(f + c.toNat % 128 * 128 ^ i) : Int)) (.d (.k .a))) .a ?_
              refine RCA (dst := some 48) (runfold_spec (f + c.toNat % 128 * 128 ^ i : Nat) (by omega) (by omega)) ?_
              rintro v hp' ⟨rfl, rfl⟩
              refine RV true [] .z (.i 6 (.int .i64 0) (.i 5 (.int .i64 ((↑A : Int) + (↑i : Int) + 1)) (.i 4 (.int .i64 (unfoldN (↑(f + c.toNat % 128 * 128 ^ i) : Int))) (.d (.d (.k (.k (.k (.k .z))))))))) .a ([inI64 ((↑A : Int) + (↑i : Int)), inI64 ((↑A : Int) + (↑i : Int) + (1 : Int))]) ⟨by unfold inI64; omega, by unfold inI64; omega, trivial⟩ ?_
              refine RZ (NT (RE (BR (TR (TR (BR (TR ?_)))))))
              refine NE [] .a .a [] (.tuple #[.int .i64 (unfoldN (↑(f + c.toNat % 128 * 128 ^ i) : Int)), .int .i64 ((↑A : Int) + (↑i : Int) + 1), .int .i64 0]) ?_
              exact ⟨by rw [← hn, if_pos rfl, show (A : Int) + i + 1 = A + (i + 1) by omega], rfl⟩
          · have hc0 : c ≠ 0 := fun e => by
              rw [e] at hz
              simp at hz
            rw [if_neg (fun h => hc0 h.1)] at hn
            refine RR [] .z (.i 46 (.bool false) (.d (.d (.k .a)))) .a ?_
            refine RZ (NT (CF (SK (NT (SQ (RG ?_))))))
            refine RR [] (.d .a) (.i 47 (.int .u64 (↑(f + c.toNat % 128 * 128 ^ i) : Int)) (.d (.k .a))) .a ?_
            refine RCA (dst := some 48) (runfold_spec (f + c.toNat % 128 * 128 ^ i : Nat) (by omega) (by omega)) ?_
            rintro v hp' ⟨rfl, rfl⟩
            refine RV true [] .z (.i 6 (.int .i64 0) (.i 5 (.int .i64 ((↑A : Int) + (↑i : Int) + 1)) (.i 4 (.int .i64 (unfoldN (↑(f + c.toNat % 128 * 128 ^ i) : Int))) (.d (.d (.k (.k (.k (.k .z))))))))) .a ([inI64 ((↑A : Int) + (↑i : Int)), inI64 ((↑A : Int) + (↑i : Int) + (1 : Int))]) ⟨by unfold inI64; omega, by unfold inI64; omega, trivial⟩ ?_
            refine RZ (NT (RE (BR (TR (TR (BR (TR ?_)))))))
            refine NE [] .a .a [] (.tuple #[.int .i64 (unfoldN (↑(f + c.toNat % 128 * 128 ^ i) : Int)), .int .i64 ((↑A : Int) + (↑i : Int) + 1), .int .i64 0]) ?_
            exact ⟨by rw [← hn, if_pos rfl, show (A : Int) + i + 1 = A + (i + 1) by omega], rfl⟩
        · rw [if_pos (by omega)] at hn
          refine SK (BN (NT (RG ?_)))
          refine RV true [] .z (.i 8 (.int .i64 ((↑i : Int) + 1)) (.k (.d (.d (.d (.d (.k .a))))))) .a ([inI64 ((↑i : Int) + (1 : Int))]) ⟨by unfold inI64; omega, trivial⟩ ?_
          refine RZ ?_
          exact fun a' w hS => ⟨⟨i + 1, f + c.toNat % 128 * 128 ^ i, by omega, by omega, by
            have : c.toNat % 128 * 128 ^ i ≤ 127 * 128 ^ i := Nat.mul_le_mul_right _ (by omega)
            rw [Nat.pow_succ]; omega, by rw [show 10 - (i + 1) = 9 - i by omega, ← Nat.add_assoc]; exact hn⟩, by dsimp only; omega, ent_fr (by kernel_rfl) _ _ hS⟩
  · refine EX (TE (TE (BH (NT (SQ (RG ?_))))))
    refine RR [] .z (.i 6 (.int .i64 4) (.i 5 (.int .i64 0) (.d (.d (.d (.d (.d (.k .z)))))))) .a ?_
    refine RZ (NT (RE ?_))
    refine NE [] .a .a [] (.tuple #[.int .i64 0, .int .i64 0, .int .i64 4]) ?_
    refine ⟨?_, rfl⟩
    rw [show 10 - i = 0 by omega] at hn
    rw [← hn]; rfl
theorem rwrong_spec (s : List UInt8) (A e x : Int) : Does Tryz.prog 150 [rrd s A e, .int .i64 x] [] (fun v hp' => v = rrd s A x ∧ hp' = []) := by
  unfold rrd
  refine fn_enter Tryz.func150 rfl 8 rfl fun w0 h0 => ?_
  refine SQ (RG ?_)
  refine RP [] (.d .a) 2 (.d (.k .a)) .a 143 [.string (mkS s), .int .i64 A, .int .i64 e] fun g1 => ?_
  refine RP [] .z 4 .a .a 143 [.string ⟨#[]⟩, .int .i64 0, .int .i64 0] fun g2 => ?_
  refine RZ (NT (SQ (RG ?_)))
  refine RR [0] .z (.k (.k .z)) (.u (.k (.k (.i (.int .i64 x) .z))) .a) ?_
  refine RZ (NT (SQ (RG ?_)))
  refine RR [0, 0, 0, 1, 1, 1] .z (.k .z) (.k (.u (.i (.string (mkS s)) (.i (.int .i64 A) (.i (.int .i64 x) .z))) .a)) ?_
  refine RZ (NT (RE ?_))
  refine NE [] .z .a [1, 1, 1] (.agg #[.string (mkS s), .int .i64 A, .int .i64 x]) ?_
  exact ⟨rfl, rfl⟩
theorem rEnd_spec (s : List UInt8) (A e : Int) : Does Tryz.prog 89 [rrd s A e] [] (fun v hp' => v = .int .i64 (endE s A e) ∧ hp' = []) := by
  unfold rrd endE
  refine fn_enter Tryz.func89 rfl 16 rfl fun w0 h0 => ?_
  refine SQ (RG ?_)
  refine RP [] (.d .a) 1 .z .a 143 [.string (mkS s), .int .i64 A, .int .i64 e] fun g1 => ?_
  refine RR [] .z (.i 2 (.int .i64 0) .a) .a ?_
  refine RZ (NT (SQ (SQ (RG ?_))))
  refine RR [0] (.d (.d (.d (.d .a)))) (.i 6 (.bool (e == (0 : Int))) .a) .a ?_
  refine wpr_case 6 ((e == 0)) (by kernel_rfl) (fun h => ?_) (fun h => ?_)
  · have he : e = 0 := eq_of_beq h
    subst he
    rw [if_neg (by simp)]
    refine RR [0, 0] .z (.i 13 (.bool (decide (A < (↑s.length : Int)))) (.d (.d (.k .a)))) .a ?_
    refine RZ (NT ?_)
    refine wpc_if ((A < (↑s.length : Int))) (by kernel_rfl) (fun hlt => ?_) (fun hlt => ?_)
    · rw [if_pos hlt]
      refine SQ (RG ?_)
      refine RR [] .z (.i 2 (.int .i64 5) (.d (.d (.k .a)))) .a ?_
      refine RZ (NT (RE (TR ?_)))
      refine NE [] .z .a [] (.int .i64 5) ?_
      exact ⟨rfl, rfl⟩
    · rw [if_neg hlt]
      refine SK (NT (SQ (RG ?_)))
      refine RR [0] .z (.d (.k .z)) .a ?_
      refine RZ (NT (RE ?_))
      refine NE [] .z .a [] (.int .i64 0) ?_
      exact ⟨rfl, rfl⟩
  · have he : e ≠ 0 := by simpa using h
    rw [if_pos he]
    refine RR [] .z (.i 13 (.bool false) (.d (.d (.k .a)))) .a ?_
    refine RZ (NT (CF (SK (NT (SQ (RG ?_))))))
    refine RR [0] .z (.i 2 (.int .i64 e) .z) .a ?_
    refine RZ (NT (RE ?_))
    refine NE [] .z .a [] (.int .i64 e) ?_
    exact ⟨rfl, rfl⟩
theorem rInt_spec (s : List UInt8) (A : Nat) (e : Int) (hA : A ≤ s.length) (hl : s.length ≤ 1099511627776) :
    Does Tryz.prog 124 [rrd s A e] [] (fun v hp' => v = .tuple #[rrd s (rd 0 A e (num (s.drop A))).2.1 (rd 0 A e (num (s.drop A))).2.2, .int .i64 (rd 0 A e (num (s.drop A))).1] ∧ hp' = []) := by
  have hok := num_ok (s.drop A)
  unfold rrd rd
  refine fn_enter Tryz.func124 rfl 29 rfl fun w0 h0 => ?_
  refine SQ (RG ?_)
  refine RP [] (.d .a) 1 .z .a 143 [.string (mkS s), .int .i64 (↑A : Int), .int .i64 e] fun g1 => ?_
  refine RP [] (.d .a) 2 .a .a 143 [.string ⟨#[]⟩, .int .i64 0, .int .i64 0] fun g2 => ?_
  refine RR [] .z (.i 3 (.int .i64 0) .a) .a ?_
  refine RZ (NT (SQ (SQ (RG ?_))))
  refine RR [0] .z (.i 9 (.bool (e != (0 : Int))) .a) .a ?_
  refine RZ (NT ?_)
  refine wpc_cond ((e != 0)) (by kernel_rfl) (fun he => ?_) (fun he => ?_)
  · have he' : e ≠ 0 := by simpa using he
    rw [if_pos he']
    refine SQ (RG ?_)
    refine RR [0, 0, 0, 1, 1, 1] .z (.d (.k .a)) (.k (.u (.i (.string (mkS s)) (.i (.int .i64 (↑A : Int)) (.i (.int .i64 e) .z))) .a)) ?_
    refine RZ (NT (RE (TR ?_)))
    refine NE [] .z .a [1, 1, 1] (.tuple #[.agg #[.string (mkS s), .int .i64 (↑A : Int), .int .i64 e], .int .i64 0]) ?_
    exact ⟨rfl, rfl⟩
  · have he' : ¬ e ≠ 0 := by simpa using he
    obtain rfl : e = 0 := Classical.not_not.1 he'
    rw [if_neg he']
    refine SK (NT (SQ (RG ?_)))
    refine RR [0, 0] (.d (.d (.d (.d .a)))) (.i 15 (.int .i64 (↑A : Int)) (.i 13 (.string (mkS s)) (.d (.k .a)))) .a ?_
    refine RC (dst := some 16) [] .a (rnumber_spec s A hA hl) ?_
    rintro v hp' ⟨rfl, rfl⟩
    obtain ⟨x, u, y, hx⟩ : ∃ x u y, (num (s.drop A)) = (x, u, y) := ⟨_, _, _, rfl⟩
    rw [hx] at hok ⊢
    dsimp only at hok ⊢
    refine RR [] .z (.i 6 (.int .i64 y) (.i 5 (.int .i64 (if y = 0 then (↑A : Int) + u else 0)) (.i 4 (.int .i64 x) (.d (.d (.d (.k .a))))))) .a ?_
    refine RZ (NT (SQ (SQ (RG ?_))))
    refine RR [] .z (.i 21 (.bool (y != (0 : Int))) .a) .a ?_
    refine RZ (NT ?_)
    refine wpc_cond ((y != 0)) (by kernel_rfl) (fun hy => ?_) (fun hy => ?_)
    · have hy' : y ≠ 0 := by simpa using hy
      rw [if_pos hy']
      refine SQ (RG ?_)
      refine RR [0, 0, 0] (.d (.d .a)) (.i 23 (.int .i64 y) (.i 22 (.agg #[.string (mkS s), .int .i64 (↑A : Int), .int .i64 0]) (.d (.d (.k .a))))) .a ?_
      refine RC (dst := some 24) [] .a (rwrong_spec s A 0 y) ?_
      rintro v hp' ⟨rfl, rfl⟩
      unfold rrd
      refine RR [1, 1, 1] .z (.i 3 (.int .i64 0) (.d (.d (.d (.k (.k (.d (.k .a)))))))) (.k (.u (.i (.string (mkS s)) (.i (.int .i64 (↑A : Int)) (.i (.int .i64 y) .z))) .a)) ?_
      refine RZ (NT (RE (TR ?_)))
      refine NE [] .z .a [1, 1, 1] (.tuple #[.agg #[.string (mkS s), .int .i64 (↑A : Int), .int .i64 y], .int .i64 0]) ?_
      exact ⟨rfl, rfl⟩
    · have hy' : ¬ y ≠ 0 := by simpa using hy
      obtain rfl : y = 0 := Classical.not_not.1 hy'
      rw [if_neg hy', if_pos rfl]
      have hAu : ((A + u.toNat : Nat) : Int) = A + u := by omega
      dsimp only
      rw [hAu]
      refine SK (NT (SQ (RG ?_)))
      refine RR [0] .z (.d (.d (.d (.k .a)))) (.u (.k (.i (.int .i64 ((↑A : Int) + u)) (.d (.k .a)))) .a) ?_
      refine RZ (NT (SQ (RG ?_)))
      refine RR [0, 0, 0, 1, 1, 1] .z (.i 3 (.int .i64 x) (.d (.d (.k .z)))) (.k (.u (.i (.string (mkS s)) (.i (.int .i64 ((↑A : Int) + u)) (.d (.d (.k .a))))) .a)) ?_
      refine RZ (NT (RE ?_))
      refine NE [] .z .a [1, 1, 1] (.tuple #[.agg #[.string (mkS s), .int .i64 ((↑A : Int) + u), .int .i64 0], .int .i64 x]) ?_
      exact ⟨rfl, rfl⟩
theorem cnt_eq {s : List UInt8} (most : Int) {x u y : Int} (h : num s = (x, u, y)) : cnt s most = if y ≠ 0 then (0, 0, y) else if x < 0 then (0, 0, 4) else if x > max 0 most then (0, 0, 5) else (x, u, 0) := by unfold cnt; rw [h]
theorem rCount_spec (s : List UInt8) (A : Nat) (e most : Int) (hA : A ≤ s.length) (hl : s.length ≤ 1099511627776) :
    Does Tryz.prog 126 [rrd s A e, .int .i64 most] [] (fun v hp' => v = .tuple #[rrd s (rd 0 A e (cnt (s.drop A) most)).2.1 (rd 0 A e (cnt (s.drop A) most)).2.2, .int .i64 (rd 0 A e (cnt (s.drop A) most)).1] ∧ hp' = []) := by
  have hok := num_ok (s.drop A)
  unfold rrd rd
  refine fn_enter Tryz.func126 rfl 41 rfl fun w0 h0 => ?_
  refine SQ (RG ?_)
  refine RP [] (.d .a) 2 (.d (.k .a)) .a 143 [.string (mkS s), .int .i64 (↑A : Int), .int .i64 e] fun g1 => ?_
  refine RP [] (.d .a) 4 .a .a 143 [.string ⟨#[]⟩, .int .i64 0, .int .i64 0] fun g2 => ?_
  refine RR [] .z (.i 5 (.int .i64 0) .a) .a ?_
  refine RZ (NT (SQ (SQ (RG ?_))))
  refine RR [0] .z (.i 11 (.bool (e != (0 : Int))) .a) .a ?_
  refine RZ (NT ?_)
  refine wpc_cond ((e != 0)) (by kernel_rfl) (fun he => ?_) (fun he => ?_)
  · have he' : e ≠ 0 := by simpa using he
    rw [if_pos he']
    refine SQ (RG ?_)
    refine RR [0, 0, 0, 1, 1, 1] .z (.d (.k .a)) (.k (.u (.i (.string (mkS s)) (.i (.int .i64 (↑A : Int)) (.i (.int .i64 e) .z))) .a)) ?_
    refine RZ (NT (RE (TR ?_)))
    refine NE [] .z .a [1, 1, 1] (.tuple #[.agg #[.string (mkS s), .int .i64 (↑A : Int), .int .i64 e], .int .i64 0]) ?_
    exact ⟨rfl, rfl⟩
  · have he' : ¬ e ≠ 0 := by simpa using he
    obtain rfl : e = 0 := Classical.not_not.1 he'
    rw [if_neg he']
    refine SK (NT (SQ (RG ?_)))
    refine RR [0, 0] (.d (.d (.d (.d .a)))) (.i 17 (.int .i64 (↑A : Int)) (.i 15 (.string (mkS s)) (.d (.k .a)))) .a ?_
    refine RC (dst := some 18) [] .a (rnumber_spec s A hA hl) ?_
    rintro v hp' ⟨rfl, rfl⟩
    obtain ⟨x, u, y, hx⟩ : ∃ x u y, (num (s.drop A)) = (x, u, y) := ⟨_, _, _, rfl⟩
    have hC := cnt_eq most hx
    rw [hx] at hok ⊢
    dsimp only at hok ⊢
    refine RR [] .z (.i 8 (.int .i64 y) (.i 7 (.int .i64 (if y = 0 then (↑A : Int) + u else 0)) (.i 6 (.int .i64 x) (.d (.d (.d (.k .a))))))) .a ?_
    refine RZ (NT (SQ (SQ (RG ?_))))
    refine RR [] .z (.i 23 (.bool (y != (0 : Int))) .a) .a ?_
    refine RZ (NT ?_)
    refine wpc_cond ((y != 0)) (by kernel_rfl) (fun hy => ?_) (fun hy => ?_)
    · have hy' : y ≠ 0 := by simpa using hy
      rw [if_pos hy'] at hC
      rw [hC, if_pos hy']
      refine SQ (RG ?_)
      refine RR [0, 0, 0] (.d (.d .a)) (.i 25 (.int .i64 y) (.i 24 (.agg #[.string (mkS s), .int .i64 (↑A : Int), .int .i64 0]) (.d (.d (.k .a))))) .a ?_
      refine RC (dst := some 26) [] .a (rwrong_spec s A 0 y) ?_
      rintro v hp' ⟨rfl, rfl⟩
      unfold rrd
      refine RR [1, 1, 1] .z (.i 5 (.int .i64 0) (.d (.d (.d (.k (.k (.d (.k .a)))))))) (.k (.u (.i (.string (mkS s)) (.i (.int .i64 (↑A : Int)) (.i (.int .i64 y) .z))) .a)) ?_
      refine RZ (NT (RE (TR ?_)))
      refine NE [] .z .a [1, 1, 1] (.tuple #[.agg #[.string (mkS s), .int .i64 (↑A : Int), .int .i64 y], .int .i64 0]) ?_
      exact ⟨rfl, rfl⟩
    · have hy' : ¬ y ≠ 0 := by simpa using hy
      obtain rfl : y = 0 := Classical.not_not.1 hy'
      rw [if_neg hy'] at hC
      rw [if_pos rfl]
      refine SK (NT (SQ (SQ (RG ?_))))
      refine RR [] .z (.i 28 (.bool (decide (x < (0 : Int)))) (.d (.d (.k .a)))) .a ?_
      refine RZ (NT ?_)
      refine wpc_if ((x < 0)) (by kernel_rfl) (fun h2 => ?_) (fun h2 => ?_)
      · rw [if_pos h2] at hC
        rw [hC]
        dsimp only
        rw [if_pos (show (4 : Int) ≠ 0 by decide)]
        refine SQ (RG ?_)
        refine RR [0, 0, 0] (.d .a) (.i 29 (.agg #[.string (mkS s), .int .i64 (↑A : Int), .int .i64 0]) (.d (.k .a))) .a ?_
        refine RC (dst := some 30) [] .a (rwrong_spec s A 0 4) ?_
        rintro v hp' ⟨rfl, rfl⟩
        unfold rrd
        refine RR [1, 1, 1] .z (.i 5 (.int .i64 0) (.d (.d (.k (.k (.d (.k .a))))))) (.k (.u (.i (.string (mkS s)) (.i (.int .i64 (↑A : Int)) (.i (.int .i64 4) .z))) .a)) ?_
        refine RZ (NT (RE (TR ?_)))
        refine NE [] .z .a [1, 1, 1] (.tuple #[.agg #[.string (mkS s), .int .i64 (↑A : Int), .int .i64 4], .int .i64 0]) ?_
        exact ⟨rfl, rfl⟩
      · rw [if_neg h2] at hC
        refine SK (NT (SQ (SQ (RG ?_))))
        refine RR [] .z (.i 34 (.bool (decide (x > if most > (0 : Int) then most else (0 : Int)))) (.d (.k (.k (.k (.k (.k .z))))))) .a ?_
        refine RZ (NT ?_)
        have hmx : (if most > 0 then most else 0) = max 0 most := by split <;> omega
        refine wpc_if ((x > if most > 0 then most else 0)) (by kernel_rfl) (fun h3 => ?_) (fun h3 => ?_)
        · rw [if_pos (show x > max 0 most by rw [← hmx]; exact h3)] at hC
          rw [hC]
          dsimp only
          rw [if_pos (show (5 : Int) ≠ 0 by decide)]
          refine SQ (RG ?_)
          refine RR [0, 0, 0] (.d .a) (.i 35 (.agg #[.string (mkS s), .int .i64 (↑A : Int), .int .i64 0]) (.d (.k .a))) .a ?_
          refine RC (dst := some 36) [] .a (rwrong_spec s A 0 5) ?_
          rintro v hp' ⟨rfl, rfl⟩
          unfold rrd
          refine RR [1, 1, 1] .z (.i 5 (.int .i64 0) (.d (.d (.k (.k (.d (.k .a))))))) (.k (.u (.i (.string (mkS s)) (.i (.int .i64 (↑A : Int)) (.i (.int .i64 5) .z))) .a)) ?_
          refine RZ (NT (RE (TR ?_)))
          refine NE [] .z .a [1, 1, 1] (.tuple #[.agg #[.string (mkS s), .int .i64 (↑A : Int), .int .i64 5], .int .i64 0]) ?_
          exact ⟨rfl, rfl⟩
        · rw [if_neg (show ¬ x > max 0 most by rw [← hmx]; exact h3)] at hC
          rw [hC]
          have hAu : ((A + u.toNat : Nat) : Int) = A + u := by omega
          dsimp only
          rw [if_neg (show ¬ (0 : Int) ≠ 0 by decide), hAu]
          refine SK (NT (SQ (RG ?_)))
          refine RR [0] .z (.d (.d (.k .a))) (.u (.k (.i (.int .i64 ((↑A : Int) + u)) (.d (.k .a)))) .a) ?_
          refine RZ (NT (SQ (RG ?_)))
          refine RR [0, 0, 0, 1, 1, 1] .z (.i 5 (.int .i64 x) (.d (.d (.k .z)))) (.k (.u (.i (.string (mkS s)) (.i (.int .i64 ((↑A : Int) + u)) (.d (.d (.k .a))))) .a)) ?_
          refine RZ (NT (RE ?_))
          refine NE [] .z .a [1, 1, 1] (.tuple #[.agg #[.string (mkS s), .int .i64 ((↑A : Int) + u), .int .i64 0], .int .i64 x]) ?_
          exact ⟨rfl, rfl⟩
theorem txt_eq {s : List UInt8} (most : Int) {n u e : Int} (h : cnt s most = (n, u, e)) : txW s most = if e ≠ 0 then ([], 0, e) else if n > s.length - u then ([], 0, 3) else ((s.drop u.toNat).take n.toNat, u + n, 0) := by unfold txW; rw [h]
theorem rText_spec (s : List UInt8) (A : Nat) (e most : Int) (hA : A ≤ s.length) (hl : s.length ≤ 1099511627776) :
    Does Tryz.prog 125 [rrd s A e, .int .i64 most] [] (fun v hp' => v = .tuple #[rrd s (rd [] A e (txW (s.drop A) most)).2.1 (rd [] A e (txW (s.drop A) most)).2.2, .string (mkS (rd [] A e (txW (s.drop A) most)).1)] ∧ hp' = []) := by
  have hok := cnt_ok (s.drop A) most
  have hok2 := txt_ok (s.drop A) most
  refine fn_enter Tryz.func125 rfl 45 rfl fun w0 h0 => ?_
  refine SQ (RG ?_)
  refine RP [] (.d .a) 2 (.d (.k .a)) .a 143 [.string (mkS s), .int .i64 (↑A : Int), .int .i64 e] fun g1 => ?_
  refine RP [] (.d .a) 4 .a .a 143 [.string ⟨#[]⟩, .int .i64 0, .int .i64 0] fun g2 => ?_
  refine RR [] .z (.i 5 (.string ⟨#[]⟩) .a) .a ?_
  refine RZ (NT (SQ (RG ?_)))
  refine RR [0, 0, 0] (.d (.d .a)) (.i 11 (.int .i64 most) (.i 10 (.agg #[.string (mkS s), .int .i64 (↑A : Int), .int .i64 e]) (.k (.k (.k .z))))) .a ?_
  refine RC (dst := some 12) [] .a (rCount_spec s A e most hA hl) ?_
  rintro v hp' ⟨rfl, rfl⟩
  by_cases he : e ≠ 0
  · have h1 : rd (0 : Int) A e (cnt (s.drop A) most) = (0, A, e) := by unfold rd; rw [if_pos he]
    have h2 : rd ([] : List UInt8) A e (txW (s.drop A) most) = ([], A, e) := by unfold rd; rw [if_pos he]
    rw [h1, h2]
    unfold rrd
    refine RP [] (.d (.d (.d (.d .a)))) 6 (.i 14 (.int .i64 0) (.i 13 (.agg #[.string (mkS s), .int .i64 (↑A : Int), .int .i64 e]) (.d (.d (.d (.k .a)))))) .a 143 [.string ⟨#[]⟩, .int .i64 0, .int .i64 0] fun g3 => ?_
    refine RR [2, 2, 2] .z (.i 7 (.int .i64 0) (.k (.d (.d (.k .a))))) (.k (.k (.u (.i (.string (mkS s)) (.i (.int .i64 (↑A : Int)) (.i (.int .i64 e) .z))) .a))) ?_
    refine RZ (NT (SQ (SQ (RG ?_))))
    refine RR [2] .z (.i 17 (.bool (e != (0 : Int))) .a) .a ?_
    refine RZ (NT ?_)
    refine wpc_ent (ent_set 17 (.bool (e != 0)) (.bool true) (by kernel_rfl) (congrArg _ (by simpa using he))) ?_
    refine CT (SQ (RG ?_))
    refine RR [2, 2, 2, 1, 1, 1] .z (.i 5 (.string ⟨#[]⟩) (.d (.d (.k (.k (.d (.k .a))))))) (.k (.u (.i (.string (mkS s)) (.i (.int .i64 (↑A : Int)) (.i (.int .i64 e) .z))) .a)) ?_
    refine RZ (NT (RE (TR ?_)))
    refine NE [] .z .a [1, 1, 1] (.tuple #[.agg #[.string (mkS s), .int .i64 (↑A : Int), .int .i64 e], .string ⟨#[]⟩]) ?_
    exact ⟨rfl, rfl⟩
  · obtain rfl : e = 0 := Classical.not_not.1 he
    obtain ⟨n, u, y, hn⟩ : ∃ n u y, cnt (s.drop A) most = (n, u, y) := ⟨_, _, _, rfl⟩
    have hT := txt_eq most hn
    rw [hn] at hok ⊢
    by_cases hy : y ≠ 0
    · rw [if_pos hy] at hT
      have h1 : rd (0 : Int) A 0 (n, u, y) = (0, A, y) := by unfold rd; rw [if_neg he, if_pos hy]
      have h2 : rd ([] : List UInt8) A 0 (txW (s.drop A) most) = ([], A, y) := by unfold rd; rw [hT, if_neg he, if_pos hy]
      rw [h1, h2]
      unfold rrd
      refine RP [] (.d (.d (.d (.d .a)))) 6 (.i 14 (.int .i64 0) (.i 13 (.agg #[.string (mkS s), .int .i64 (↑A : Int), .int .i64 y]) (.d (.d (.d (.k .a)))))) .a 143 [.string ⟨#[]⟩, .int .i64 0, .int .i64 0] fun g3 => ?_
      refine RR [2, 2, 2] .z (.i 7 (.int .i64 0) (.k (.d (.d (.k .a))))) (.k (.k (.u (.i (.string (mkS s)) (.i (.int .i64 (↑A : Int)) (.i (.int .i64 y) .z))) .a))) ?_
      refine RZ (NT (SQ (SQ (RG ?_))))
      refine RR [2] .z (.i 17 (.bool (y != (0 : Int))) .a) .a ?_
      refine RZ (NT ?_)
      refine wpc_ent (ent_set 17 (.bool (y != 0)) (.bool true) (by kernel_rfl) (congrArg _ (by simpa using hy))) ?_
      refine CT (SQ (RG ?_))
      refine RR [2, 2, 2, 1, 1, 1] .z (.i 5 (.string ⟨#[]⟩) (.d (.d (.k (.k (.d (.k .a))))))) (.k (.u (.i (.string (mkS s)) (.i (.int .i64 (↑A : Int)) (.i (.int .i64 y) .z))) .a)) ?_
      refine RZ (NT (RE (TR ?_)))
      refine NE [] .z .a [1, 1, 1] (.tuple #[.agg #[.string (mkS s), .int .i64 (↑A : Int), .int .i64 y], .string ⟨#[]⟩]) ?_
      exact ⟨rfl, rfl⟩
    · obtain rfl : y = 0 := Classical.not_not.1 hy
      rw [if_neg hy] at hT
      have h1 : rd (0 : Int) A 0 (n, u, 0) = (n, A + u.toNat, 0) := by unfold rd; rw [if_neg he, if_neg hy]
      rw [h1]
      dsimp only at hok
      have hu : 0 ≤ n ∧ 0 < u ∧ u ≤ (s.drop A).length := by omega
      have hAu : ((A + u.toNat : Nat) : Int) = A + u := by omega
      rw [List.length_drop] at hu
      unfold rrd
      dsimp only
      rw [hAu]
      refine RP [] (.d (.d (.d (.d .a)))) 6 (.i 14 (.int .i64 n) (.i 13 (.agg #[.string (mkS s), .int .i64 ((↑A : Int) + u), .int .i64 0]) (.d (.d (.d (.k .a)))))) .a 143 [.string ⟨#[]⟩, .int .i64 0, .int .i64 0] fun g3 => ?_
      refine RR [2, 2, 2] .z (.i 7 (.int .i64 n) (.k (.d (.d (.k .a))))) (.k (.k (.u (.i (.string (mkS s)) (.i (.int .i64 ((↑A : Int) + u)) (.d (.d (.k .a))))) .a))) ?_
      refine RZ (NT (SQ (SQ (RG ?_))))
      refine RR [2] .z (.i 17 (.bool false) .a) .a ?_
      refine RZ (NT (CF (SK (NT (SQ (SQ (RG ?_)))))))
      refine RV true [0, 2] .z (.i 26 (.bool (decide (n > (↑s.length : Int) - ((↑A : Int) + u)))) (.d (.k .a))) .a ([inI64 ((↑s.length : Int) - ((↑A : Int) + u))]) ⟨by unfold inI64; omega, trivial⟩ ?_
      refine RZ (NT ?_)
      refine wpc_if ((n > (↑s.length : Int) - ((↑A : Int) + u))) (by kernel_rfl) (fun h3 => ?_) (fun h3 => ?_)
      · have h2 : rd ([] : List UInt8) A 0 (txW (s.drop A) most) = ([], A, 3) := by
          unfold rd
          rw [hT, if_neg he, if_pos (show n > ((s.drop A).length : Int) - u by rw [List.length_drop]; omega)]
          rfl
        rw [h2]
        refine SQ (RG ?_)
        refine RR [0, 0, 0] (.d .a) (.i 27 (.agg #[.string (mkS s), .int .i64 (↑A : Int), .int .i64 0]) (.d (.k .a))) .a ?_
        refine RC (dst := some 28) [] .a (rwrong_spec s A 0 3) ?_
        rintro v hp' ⟨rfl, rfl⟩
        unfold rrd
        refine RR [1, 1, 1] .z (.i 5 (.string ⟨#[]⟩) (.d (.d (.k (.k (.d (.k .a))))))) (.k (.u (.i (.string (mkS s)) (.i (.int .i64 (↑A : Int)) (.i (.int .i64 3) .z))) .a)) ?_
        refine RZ (NT (RE (TR ?_)))
        refine NE [] .z .a [1, 1, 1] (.tuple #[.agg #[.string (mkS s), .int .i64 (↑A : Int), .int .i64 3], .string ⟨#[]⟩]) ?_
        exact ⟨rfl, rfl⟩
      · have h2 : rd ([] : List UInt8) A 0 (txW (s.drop A) most) = (((s.drop A).drop u.toNat).take n.toNat, A + (u + n).toNat, 0) := by
          unfold rd
          rw [hT, if_neg he, if_neg (show ¬ n > ((s.drop A).length : Int) - u by rw [List.length_drop]; omega)]
          rfl
        have hAn : ((A + (u + n).toNat : Nat) : Int) = A + u + n := by omega
        rw [h2]
        dsimp only
        rw [hAn]
        refine SK (NT (SQ (RG ?_)))
        refine RV true [0, 2, 2] .z (.i 8 (.string (mkS (List.take (Int.toNat ((↑A : Int) + u + n - ((↑A : Int) + u))) (List.drop (Int.toNat ((↑A : Int) + u)) s)))) (.d (.k (.k (.k (.k .z)))))) .a ([inI64 ((↑A : Int) + u + n), (0 : Int) ≤ (↑A : Int) + u + n ∧ (↑A : Int) + u + n ≤ (↑s.length : Int), (0 : Int) ≤ (↑A : Int) + u ∧ (↑A : Int) + u ≤ (↑A : Int) + u + n]) ⟨by unfold inI64; omega, by omega, by omega, trivial⟩ ?_
        refine RZ (NT (SQ (RG ?_)))
        refine RV true [2, 2] .z (.k (.d (.k .a))) (.k (.k (.u (.k (.i (.int .i64 ((↑A : Int) + u + n)) (.d (.k .a)))) .a))) ([inI64 ((↑A : Int) + u + n)]) ⟨by unfold inI64; omega, trivial⟩ ?_
        refine RZ (NT (SQ (RG ?_)))
        refine RR [2, 2, 2, 1, 1, 1] .z (.i 5 (.string (mkS (List.take (Int.toNat ((↑A : Int) + u + n - ((↑A : Int) + u))) (List.drop (Int.toNat ((↑A : Int) + u)) s)))) (.d (.d (.d (.k .a))))) (.k (.u (.i (.string (mkS s)) (.i (.int .i64 ((↑A : Int) + u + n)) (.d (.d (.k .a))))) .a)) ?_
        refine RZ (NT (RE ?_))
        refine NE [] .z .a [1, 1, 1] (.tuple #[.agg #[.string (mkS s), .int .i64 ((↑A : Int) + u + n), .int .i64 0], .string (mkS (List.take (Int.toNat ((↑A : Int) + u + n - ((↑A : Int) + u))) (List.drop (Int.toNat ((↑A : Int) + u)) s)))]) ?_
        refine ⟨?_, rfl⟩
        rw [List.drop_drop, show (A : Int) + u + n - (A + u) = n by omega, show ((A : Int) + u).toNat = A + u.toNat by omega]
end Go.Proofs.YtpfhleghgkeemaaGreatDoor
namespace Go.Proofs.YtpfhleghgkeemaaGreatDoor
open Go Go.Sx
/-! A reader that goes on over bytes: where it stands, what it meets; rows of things. No program in sight. -/
def i64r (n : Int) : Prop := -9223372036854775808 ≤ n ∧ n ≤ 9223372036854775807
abbrev At2 := Nat × Int
def rI (s : List UInt8) (p : At2) : Int × At2 := rd 0 p.1 p.2 (num (s.drop p.1))
def rC (s : List UInt8) (most : Int) (p : At2) : Int × At2 := rd 0 p.1 p.2 (cnt (s.drop p.1) most)
def rT (s : List UInt8) (most : Int) (p : At2) : List UInt8 × At2 := rd [] p.1 p.2 (txW (s.drop p.1) most)
def rMany {α : Type} (f : At2 → α × At2) : Nat → At2 → List α × At2
  | 0, p => ([], p)
  | k + 1, p => if p.2 ≠ 0 then ([], p) else ((f p).1 :: (rMany f k (f p).2).1, (rMany f k (f p).2).2)
def rRows {α : Type} (s : List UInt8) (f : At2 → α × At2) (p : At2) : List α × At2 := rMany f (rC s 1048576 p).1.toNat (rC s 1048576 p).2
def Goes {α : Type} (s : List UInt8) (f : At2 → α × At2) : Prop := ∀ p, p.1 ≤ s.length → p.1 ≤ (f p).2.1 ∧ (f p).2.1 ≤ s.length ∧ (p.2 ≠ 0 → (f p).2.2 ≠ 0) ∧ (p.2 = 0 → (f p).2.2 = 0 → p.1 < (f p).2.1)
theorem goes_rd {α : Type} (z : α) (s : List UInt8) (p : At2) (x : α × Int × Int) (hp : p.1 ≤ s.length) (hx : (x.2.2 = 0 ∧ 0 < x.2.1 ∧ x.2.1 ≤ (s.drop p.1).length) ∨ x.2.2 ≠ 0) :
    p.1 ≤ (rd z p.1 p.2 x).2.1 ∧ (rd z p.1 p.2 x).2.1 ≤ s.length ∧ (p.2 ≠ 0 → (rd z p.1 p.2 x).2.2 ≠ 0) ∧ (p.2 = 0 → (rd z p.1 p.2 x).2.2 = 0 → p.1 < (rd z p.1 p.2 x).2.1) := by
  rw [List.length_drop] at hx
  unfold rd
  by_cases h1 : p.2 ≠ 0
  · rw [if_pos h1]; exact ⟨Nat.le_refl _, hp, fun h => h, fun h => absurd h h1⟩
  · rw [if_neg h1]
    by_cases h2 : x.2.2 ≠ 0
    · rw [if_pos h2]; exact ⟨Nat.le_refl _, hp, fun h => absurd h h1, fun _ h => absurd h h2⟩
    · rw [if_neg h2]
      have h3 : 0 < x.2.1 ∧ x.2.1 ≤ ((s.length - p.1 : Nat) : Int) := by
        rcases hx with ⟨_, h⟩ | h
        · exact h
        · exact absurd h h2
      dsimp only
      exact ⟨by omega, by omega, fun h => absurd h h1, fun _ _ => by omega⟩
theorem goes_rI (s : List UInt8) : Goes s (rI s) := fun p hp => goes_rd 0 s p _ hp (by
  rcases num_ok (s.drop p.1) with h | h
  · exact .inl h
  · exact .inr h.2.2)
theorem goes_rC (s : List UInt8) (m : Int) : Goes s (rC s m) := fun p hp => goes_rd 0 s p _ hp (by
  rcases cnt_ok (s.drop p.1) m with h | h
  · exact .inl ⟨h.1, h.2.2⟩
  · exact .inr h.2.2)
theorem goes_rT (s : List UInt8) (m : Int) : Goes s (rT s m) := fun p hp => goes_rd [] s p _ hp (by
  rcases txt_ok (s.drop p.1) m with h | h
  · exact .inl h
  · exact .inr h.2.2)
theorem goes_then {s : List UInt8} {p q r : At2} (h1 : p.1 ≤ q.1 ∧ q.1 ≤ s.length ∧ (p.2 ≠ 0 → q.2 ≠ 0) ∧ (p.2 = 0 → q.2 = 0 → p.1 < q.1))
    (h2 : q.1 ≤ s.length → q.1 ≤ r.1 ∧ r.1 ≤ s.length ∧ (q.2 ≠ 0 → r.2 ≠ 0)) : p.1 ≤ r.1 ∧ r.1 ≤ s.length ∧ (p.2 ≠ 0 → r.2 ≠ 0) ∧ (p.2 = 0 → r.2 = 0 → p.1 < r.1) := by
  obtain ⟨a1, a2, a3, a4⟩ := h1
  obtain ⟨b1, b2, b3⟩ := h2 a2
  refine ⟨by omega, b2, fun h => b3 (a3 h), fun h h' => ?_⟩
  have : q.2 = 0 := Classical.byContradiction fun hq => b3 hq h'
  have := a4 h this
  omega
theorem goes_many {α : Type} {s : List UInt8} {f : At2 → α × At2} (hf : Goes s f) : ∀ (k : Nat) (p : At2), p.1 ≤ s.length → p.1 ≤ (rMany f k p).2.1 ∧ (rMany f k p).2.1 ≤ s.length ∧ (p.2 ≠ 0 → (rMany f k p).2.2 ≠ 0)
  | 0, p, hp => ⟨Nat.le_refl _, hp, fun h => h⟩
  | k + 1, p, hp => by
    unfold rMany
    split
    · exact ⟨Nat.le_refl _, hp, fun h => h⟩
    · rename_i h0
      have h1 := hf p hp
      have h2 := goes_many hf k (f p).2 h1.2.1
      exact ⟨by dsimp only; omega, h2.2.1, fun h => absurd h h0⟩
theorem many_len {α : Type} {s : List UInt8} {f : At2 → α × At2} (hf : Goes s f) : ∀ (k : Nat) (p : At2), p.1 ≤ s.length → (rMany f k p).1.length ≤ k ∧ (rMany f k p).1.length ≤ s.length - p.1 + 1
  | 0, p, hp => ⟨Nat.le_refl _, Nat.zero_le _⟩
  | k + 1, p, hp => by
    unfold rMany
    split
    · exact ⟨Nat.zero_le _, Nat.zero_le _⟩
    · rename_i h0
      have h1 := hf p hp
      have h2 := many_len hf k (f p).2 h1.2.1
      dsimp only
      rw [List.length_cons]
      refine ⟨by omega, ?_⟩
      by_cases he : (f p).2.2 = 0
      · have := h1.2.2.2 (Classical.not_not.1 h0) he; omega
      · have : (rMany f k (f p).2).1 = [] := by
          cases k with
          | zero => rfl
          | succ k => unfold rMany; rw [if_pos he]
        rw [this]; simp
theorem goes_rows {α : Type} {s : List UInt8} {f : At2 → α × At2} (hf : Goes s f) : Goes s (rRows s f) := fun p hp =>
  goes_then (goes_rC s 1048576 p hp) (fun h => goes_many hf _ _ h)
theorem goes_weak {s : List UInt8} {p q : At2} (h : p.1 ≤ q.1 ∧ q.1 ≤ s.length ∧ (p.2 ≠ 0 → q.2 ≠ 0) ∧ (p.2 = 0 → q.2 = 0 → p.1 < q.1)) : p.1 ≤ q.1 ∧ q.1 ≤ s.length ∧ (p.2 ≠ 0 → q.2 ≠ 0) := ⟨h.1, h.2.1, h.2.2.1⟩
theorem rI_rng (s : List UInt8) (p : At2) : i64r (rI s p).1 := by
  have h := num_i64 (s.drop p.1)
  unfold rI rd i64r
  split
  · exact ⟨by dsimp only; omega, by dsimp only; omega⟩
  · split
    · exact ⟨by dsimp only; omega, by dsimp only; omega⟩
    · exact h
theorem rC_rng (s : List UInt8) (p : At2) : 0 ≤ (rC s 1048576 p).1 ∧ (rC s 1048576 p).1 ≤ 1048576 := by
  unfold rC rd
  split
  · exact ⟨Int.le_refl _, by dsimp only; omega⟩
  · split
    · exact ⟨Int.le_refl _, by dsimp only; omega⟩
    · rename_i h
      have h0 := Classical.not_not.1 h
      obtain ⟨n, u, e, hx⟩ : ∃ n u e, cnt (s.drop p.1) 1048576 = (n, u, e) := ⟨_, _, _, rfl⟩
      rw [hx] at h0 ⊢
      dsimp only at h0 ⊢
      subst h0
      have := cnt_num _ _ _ _ hx
      omega
theorem rT_len (s : List UInt8) (m : Int) (hm : 0 ≤ m) (p : At2) : ((rT s m p).1.length : Int) ≤ m := by
  unfold rT rd
  split
  · exact hm
  · split
    · exact hm
    · rename_i h
      have h0 := Classical.not_not.1 h
      obtain ⟨n, u, e, hx⟩ : ∃ n u e, cnt (s.drop p.1) m = (n, u, e) := ⟨_, _, _, rfl⟩
      rw [txt_eq m hx] at h0 ⊢
      by_cases he : e ≠ 0
      · rw [if_pos he]; exact hm
      · rw [if_neg he]
        have he := Classical.not_not.1 he
        subst he
        have := cnt_num _ _ _ _ hx
        split
        · exact hm
        · dsimp only
          rw [List.length_take]
          omega
theorem many_all {α : Type} {f : At2 → α × At2} {P : α → Prop} (hf : ∀ p, P (f p).1) : ∀ (k : Nat) (p : At2), ∀ x ∈ (rMany f k p).1, P x
  | 0, p, x, hx => by cases hx
  | k + 1, p, x, hx => by
    unfold rMany at hx
    split at hx
    · cases hx
    · rcases List.mem_cons.1 hx with rfl | hx
      · exact hf p
      · exact many_all hf k _ x hx
theorem many_sum {α : Type} {s : List UInt8} {f : At2 → α × At2} (wt : α → Nat) (hf : Goes s f) (hw : ∀ p, p.1 ≤ s.length → wt (f p).1 + p.1 ≤ (f p).2.1 + 2) : ∀ (k : Nat) (p : At2), p.1 ≤ s.length → (((rMany f k p).1.map wt).foldr (· + ·) 0) + p.1 ≤ (rMany f k p).2.1 + 2 * (rMany f k p).1.length
  | 0, p, hp => by show 0 + p.1 ≤ p.1 + 0; omega
  | k + 1, p, hp => by
    unfold rMany
    split
    · show 0 + p.1 ≤ p.1 + 0; omega
    · have h1 := hf p hp
      have h2 := many_sum wt hf hw k (f p).2 h1.2.1
      have h3 := hw p hp
      dsimp only [List.length_cons]
      rw [List.map_cons, List.foldr_cons]
      omega
theorem many_len2 {α : Type} {s : List UInt8} {f : At2 → α × At2} (hf : Goes s f) : ∀ (k : Nat) (p : At2), p.1 ≤ s.length → (rMany f k p).1.length + p.1 ≤ (rMany f k p).2.1 + 1
  | 0, p, hp => by show 0 + p.1 ≤ p.1 + 1; omega
  | k + 1, p, hp => by
    unfold rMany
    split
    · show 0 + p.1 ≤ p.1 + 1; omega
    · rename_i h0
      have h1 := hf p hp
      have h2 := many_len2 hf k (f p).2 h1.2.1
      dsimp only
      rw [List.length_cons]
      by_cases he : (f p).2.2 = 0
      · have := h1.2.2.2 (Classical.not_not.1 h0) he; omega
      · rw [show rMany f k (f p).2 = ([], (f p).2) from by
          cases k with
          | zero => rfl
          | succ k => unfold rMany; rw [if_pos he]]
        dsimp only [List.length_nil]
        omega
theorem rows_len {α : Type} {s : List UInt8} {f : At2 → α × At2} (hf : Goes s f) (p : At2) (hp : p.1 ≤ s.length) : (rRows s f p).1.length ≤ 1048576 ∧ (rRows s f p).1.length + p.1 ≤ (rRows s f p).2.1 + 1 ∧ (rRows s f p).1.length ≤ s.length + 1 := by
  have h1 := goes_rC s 1048576 p hp
  have h2 := rC_rng s p
  have h3 := many_len hf (rC s 1048576 p).1.toNat _ h1.2.1
  have h4 := many_len2 hf (rC s 1048576 p).1.toNat _ h1.2.1
  unfold rRows
  refine ⟨by omega, by omega, by omega⟩
theorem many_lenk {α : Type} (f : At2 → α × At2) : ∀ (k : Nat) (p : At2), (rMany f k p).1.length ≤ k
  | 0, p => Nat.le_refl _
  | k + 1, p => by
    unfold rMany
    split
    · exact Nat.zero_le _
    · exact Nat.succ_le_succ (many_lenk f k _)
theorem rows_all {α : Type} {s : List UInt8} {f : At2 → α × At2} {P : α → Prop} (hf : ∀ p, P (f p).1) (p : At2) : ∀ x ∈ (rRows s f p).1, P x := many_all hf _ _
theorem rMany_nil {α : Type} (f : At2 → α × At2) (k : Nat) (p : At2) (h : p.2 ≠ 0) : rMany f k p = ([], p) := by
  cases k with
  | zero => rfl
  | succ k => unfold rMany; rw [if_pos h]
theorem rMany_succ {α : Type} (f : At2 → α × At2) (k : Nat) (p : At2) (h : p.2 = 0) : rMany f (k + 1) p = ((f p).1 :: (rMany f k (f p).2).1, (rMany f k (f p).2).2) := by
  conv => lhs; unfold rMany
  rw [if_neg (fun hn => hn h)]
end Go.Proofs.YtpfhleghgkeemaaGreatDoor
namespace Go.Proofs.YtpfhleghgkeemaaGreatDoor
open Go Go.Sx
def encO (o : O) : List UInt8 := encT o.1 ++ encVs o.2
theorem snapObj_spec (a : Option Addr) (c : Nat) (bs : List UInt8) (tag : List UInt8) (oa : Option Addr) (oc : Nat) (cells : List V) (ht : tag.length ≤ 1048576) (hc : cells.length ≤ 1048576) (hv : ∀ v ∈ cells, v.ok) (hB : bs.length + (encO (tag, cells)).length ≤ 549755813888) :
    Does Tryz.prog 72 [.slice a bs.length c, .agg #[.string (mkS tag), .slice oa cells.length oc]] [row 5 1 a bs.length c (u8s bs), ro oa (cells.flatMap valC)]
      (fun r hp' => ∃ a' c', r = .slice a' (bs ++ encO (tag, cells)).length c' ∧ hp' = [row 5 1 a' (bs ++ encO (tag, cells)).length c' (u8s (bs ++ encO (tag, cells)))]) := by
  have hEl : (encO (tag, cells)).length = (encT tag).length + (encVs cells).length := by unfold encO; rw [List.length_append]
  refine fn_enter Tryz.func72 rfl 12 rfl fun w0 h0 => ?_
  refine SQ (RG ?_)
  refine RP [] (.d .a) 3 (.k .z) .a 43 [.string (mkS tag), .slice oa cells.length oc] fun g1 => ?_
  refine RR [] .z (.i 4 (.slice none 0 0) .a) .a ?_
  refine RZ (NT (SQ ?_))
  refine wpc_draw (by kernel_rfl) [.blk g1 43 [.string (mkS tag), .slice oa cells.length oc]] (sub_of [2] (by kernel_rfl)) 8 (by kernel_rfl) ?_
  refine TK 3 [(0, []), (1, []), (2, [0]), (4, []), (5, [0])] (.i 10 (.slice oa cells.length oc) (.i 7 (.string (mkS tag)) (.i 5 (.slice a bs.length c) (.k .z)))) (#[true, true, true, false, true, true, false, false]) ?_
  refine AC (dst := some 8) 2 3 (.d (.k .a)) (PutText_spec a c bs tag (by omega) (by omega)) (GI [0]) [1] ?_
  rintro r _ ⟨a1, c1, rfl, rfl⟩
  refine AC (dst := some 11) 1 6 (.d (.k .a)) (rowV_spec a1 c1 (bs ++ encT tag) oa oc cells hc hv (by rw [List.length_append]; omega)) (GO (GV (GJ [0]) 0 view_ro) [1, 0]) [1] ?_
  rintro r _ ⟨a2, c2, rfl, rfl⟩
  refine TK 0 [(7, [])] (.i 4 (.slice a2 (bs ++ encT tag ++ encVs cells).length c2) .z) (#[true, true, true, true, true, true, true, true]) ?_
  refine wpa_done 0 (by kernel_rfl) ?_
  refine NT (RE ?_)
  refine NE [0] (.k .z) (.d (.k .a)) [] (.slice a2 (bs ++ encT tag ++ encVs cells).length c2) ?_
  rw [List.append_assoc]
  exact ⟨a2, c2, rfl, rfl⟩
structure Cl where
  u : Int
  t : Int
  m : Int
  sa : Option Addr
  sc : Nat
  slots : List V
  ta : Option Addr
  tc : Nat
  stack : List V
def clC (x : Cl) : List Value := [.int .i64 x.u, .int .i64 x.t, .int .i64 x.m, .slice x.sa x.slots.length x.sc, .slice x.ta x.stack.length x.tc]
theorem clC_len (x : Cl) : (clC x).length = 5 := rfl
theorem cls_len (l : List Cl) : (l.flatMap clC).length = l.length * 5 := fm_len clC_len l
theorem cls_at {l : List Cl} {q : Nat} (hq : q < l.length) : ((l.flatMap clC).drop (q * 5)).take 5 = clC l[q] := fm_at clC_len hq
def clRo (x : Cl) : Hp := [ro x.sa (x.slots.flatMap valC), ro x.ta (x.stack.flatMap valC)]
def gCl (l : List Cl) : Ch := bag (l.flatMap clRo)
theorem clRo_in1 {l : List Cl} {q : Nat} (hq : q < l.length) : ro l[q].sa (l[q].slots.flatMap valC) ∈ l.flatMap clRo := List.mem_flatMap.2 ⟨l[q], List.getElem_mem hq, List.mem_cons_self ..⟩
theorem clRo_in2 {l : List Cl} {q : Nat} (hq : q < l.length) : ro l[q].ta (l[q].stack.flatMap valC) ∈ l.flatMap clRo := List.mem_flatMap.2 ⟨l[q], List.getElem_mem hq, by simp [clRo]⟩
abbrev C5 := Int × Int × Int × List V × List V
def Cl.p (x : Cl) : C5 := (x.u, x.t, x.m, x.slots, x.stack)
def encC (x : C5) : List UInt8 := encI x.1 ++ encI x.2.1 ++ encI x.2.2.1 ++ encVs x.2.2.2.1 ++ encVs x.2.2.2.2
def Cl.ok (x : Cl) : Prop := i64r x.u ∧ i64r x.t ∧ i64r x.m ∧ x.slots.length ≤ 1048576 ∧ x.stack.length ≤ 1048576 ∧ (∀ v ∈ x.slots, v.ok) ∧ (∀ v ∈ x.stack, v.ok)
theorem snapCalled_spec (a : Option Addr) (c : Nat) (bs : List UInt8) (x : Cl) (hx : x.ok) (hB : bs.length + (encC x.p).length ≤ 549755813888) :
    Does Tryz.prog 71 [.slice a bs.length c, .agg (clC x).toArray] [row 5 1 a bs.length c (u8s bs), ro x.sa (x.slots.flatMap valC), ro x.ta (x.stack.flatMap valC)]
      (fun r hp' => ∃ a' c', r = .slice a' (bs ++ encC x.p).length c' ∧ hp' = [row 5 1 a' (bs ++ encC x.p).length c' (u8s (bs ++ encC x.p))]) := by
  obtain ⟨⟨u1, u2⟩, ⟨t1, t2⟩, ⟨m1, m2⟩, h1, h2, h3, h4⟩ := hx
  have hEl : (encC x.p).length = (encI x.u).length + (encI x.t).length + (encI x.m).length + (encVs x.slots).length + (encVs x.stack).length := by
    unfold encC Cl.p; simp only [List.length_append]
  unfold clC
  refine fn_enter Tryz.func71 rfl 28 rfl fun w0 h0 => ?_
  refine SQ (RG ?_)
  refine RP [] (.d .a) 3 (.k .z) .a 124 [.int .i64 x.u, .int .i64 x.t, .int .i64 x.m, .slice x.sa x.slots.length x.sc, .slice x.ta x.stack.length x.tc] fun g1 => ?_
  refine RR [] .z (.i 4 (.slice none 0 0) .a) .a ?_
  refine RZ (NT (SQ (SQ (RG ?_))))
  refine RR [3, 3, 3] .z (.i 14 (.int .i64 0) (.i 13 (.agg #[.int .i64 x.u, .int .i64 x.t, .int .i64 x.m]) .a)) .a ?_
  refine RZ (NT (BK ?_))
  refine wpc_loop (X := {y : Nat × Option Addr × Nat // y.1 ≤ 3}) (fun y => St.mk [(14, .int .i64 (y.1.1 : Int)), (13, .agg #[.int .i64 x.u, .int .i64 x.t, .int .i64 x.m]), (4, .slice none 0 0), (3, .pointer (some ⟨g1, 0, none⟩)), (0, .slice y.1.2.1 (bs ++ ([x.u, x.t, x.m].take y.1.1).flatMap encI).length y.1.2.2)]
    [row 5 1 y.1.2.1 (bs ++ ([x.u, x.t, x.m].take y.1.1).flatMap encI).length y.1.2.2 (u8s (bs ++ ([x.u, x.t, x.m].take y.1.1).flatMap encI)), ro x.sa (x.slots.flatMap valC), ro x.ta (x.stack.flatMap valC), .blk g1 124 [.int .i64 x.u, .int .i64 x.t, .int .i64 x.m, .slice x.sa x.slots.length x.sc, .slice x.ta x.stack.length x.tc]]) (fun y => 3 - y.1.1) ⟨(0, a, c), Nat.zero_le _⟩ ?_ ?_
  · show Ent _ _ (St.mk [_, _, _, _, (0, .slice a (bs ++ []).length c)] [row _ 1 a (bs ++ []).length c (u8s (bs ++ [])), _, _, _])
    rw [List.append_nil]
    exact ent_fr (by kernel_rfl)
  rintro ⟨⟨i, a1, c1⟩, hi⟩
  dsimp only at hi ⊢
  obtain rfl | rfl | rfl | rfl : i = 0 ∨ i = 1 ∨ i = 2 ∨ i = 3 := by omega
  · refine SQ (RG ?_)
    refine RR [] .z (.i 15 (.bool true) (.i 14 (.int .i64 0) (.d (.k .a)))) .a ?_
    refine RZ (NT (SQ (CT (SK (NT (SQ (BK (SQ (RG ?_)))))))))
    refine RR [] .z (.i 6 (.int .i64 x.u) (.d (.k .a))) .a ?_
    refine RZ (NT (RG ?_))
    refine RR [] (.d (.d .a)) (.i 18 (.int .i64 x.u) (.i 17 (.slice a1 (bs ++ List.flatMap encI (List.take 0 [x.u, x.t, x.m])).length c1) (.d (.k .a)))) .a ?_
    refine RC (dst := some 19) [0] (.d (.k .a)) (PutInt_spec a1 c1 (bs ++ ([x.u, x.t, x.m].take 0).flatMap encI) x.u u1 u2 (by simp only [List.length_append, List.take_succ_cons, List.take_zero, List.take_nil, List.flatMap_cons, List.flatMap_nil, List.length_nil]; omega)) ?_
    rintro r _ ⟨a2, c2, rfl, rfl⟩
    rw [show bs ++ ([x.u, x.t, x.m].take 0).flatMap encI ++ encI x.u = bs ++ ([x.u, x.t, x.m].take (0 + 1)).flatMap encI from by simp]
    refine RR [] .z (.i 0 (.slice a2 (bs ++ List.flatMap encI (List.take 1 [x.u, x.t, x.m])).length c2) (.d (.d (.d (.k (.k (.k (.k .z)))))))) .a ?_
    refine RZ (BN (NT (RG ?_)))
    refine RV true [] .z (.i 14 (.int .i64 1) (.k (.d (.k .a)))) .a ([inI64 ((0 : Int) + (1 : Int))]) ⟨by unfold inI64; omega, trivial⟩ ?_
    refine RZ ?_
    exact fun a' w' hS' => ⟨⟨(0 + 1, a2, c2), by dsimp only; omega⟩, by dsimp only; omega, ent_fr (by kernel_rfl) _ _ (ent_hp [0, 0, 0, 0] rfl _ _ hS')⟩
  · refine SQ (RG ?_)
    refine RR [] .z (.i 15 (.bool true) (.i 14 (.int .i64 1) (.d (.k .a)))) .a ?_
    refine RZ (NT (SQ (CT (SK (NT (SQ (BK (SQ (RG ?_)))))))))
    refine RR [] .z (.i 6 (.int .i64 x.t) (.d (.k .a))) .a ?_
    refine RZ (NT (RG ?_))
    refine RR [] (.d (.d .a)) (.i 18 (.int .i64 x.t) (.i 17 (.slice a1 (bs ++ List.flatMap encI (List.take 1 [x.u, x.t, x.m])).length c1) (.d (.k .a)))) .a ?_
    refine RC (dst := some 19) [0] (.d (.k .a)) (PutInt_spec a1 c1 (bs ++ ([x.u, x.t, x.m].take 1).flatMap encI) x.t t1 t2 (by simp only [List.length_append, List.take_succ_cons, List.take_zero, List.take_nil, List.flatMap_cons, List.flatMap_nil, List.length_nil]; omega)) ?_
    rintro r _ ⟨a2, c2, rfl, rfl⟩
    rw [show bs ++ ([x.u, x.t, x.m].take 1).flatMap encI ++ encI x.t = bs ++ ([x.u, x.t, x.m].take (1 + 1)).flatMap encI from by simp]
    refine RR [] .z (.i 0 (.slice a2 (bs ++ List.flatMap encI (List.take 2 [x.u, x.t, x.m])).length c2) (.d (.d (.d (.k (.k (.k (.k .z)))))))) .a ?_
    refine RZ (BN (NT (RG ?_)))
    refine RV true [] .z (.i 14 (.int .i64 2) (.k (.d (.k .a)))) .a ([inI64 ((1 : Int) + (1 : Int))]) ⟨by unfold inI64; omega, trivial⟩ ?_
    refine RZ ?_
    exact fun a' w' hS' => ⟨⟨(1 + 1, a2, c2), by dsimp only; omega⟩, by dsimp only; omega, ent_fr (by kernel_rfl) _ _ (ent_hp [0, 0, 0, 0] rfl _ _ hS')⟩
  · refine SQ (RG ?_)
    refine RR [] .z (.i 15 (.bool true) (.i 14 (.int .i64 2) (.d (.k .a)))) .a ?_
    refine RZ (NT (SQ (CT (SK (NT (SQ (BK (SQ (RG ?_)))))))))
    refine RR [] .z (.i 6 (.int .i64 x.m) (.d (.k .a))) .a ?_
    refine RZ (NT (RG ?_))
    refine RR [] (.d (.d .a)) (.i 18 (.int .i64 x.m) (.i 17 (.slice a1 (bs ++ List.flatMap encI (List.take 2 [x.u, x.t, x.m])).length c1) (.d (.k .a)))) .a ?_
    refine RC (dst := some 19) [0] (.d (.k .a)) (PutInt_spec a1 c1 (bs ++ ([x.u, x.t, x.m].take 2).flatMap encI) x.m m1 m2 (by simp only [List.length_append, List.take_succ_cons, List.take_zero, List.take_nil, List.flatMap_cons, List.flatMap_nil, List.length_nil]; omega)) ?_
    rintro r _ ⟨a2, c2, rfl, rfl⟩
    rw [show bs ++ ([x.u, x.t, x.m].take 2).flatMap encI ++ encI x.m = bs ++ ([x.u, x.t, x.m].take (2 + 1)).flatMap encI from by simp]
    refine RR [] .z (.i 0 (.slice a2 (bs ++ List.flatMap encI (List.take 3 [x.u, x.t, x.m])).length c2) (.d (.d (.d (.k (.k (.k (.k .z)))))))) .a ?_
    refine RZ (BN (NT (RG ?_)))
    refine RV true [] .z (.i 14 (.int .i64 3) (.k (.d (.k .a)))) .a ([inI64 ((2 : Int) + (1 : Int))]) ⟨by unfold inI64; omega, trivial⟩ ?_
    refine RZ ?_
    exact fun a' w' hS' => ⟨⟨(2 + 1, a2, c2), by dsimp only; omega⟩, by dsimp only; omega, ent_fr (by kernel_rfl) _ _ (ent_hp [0, 0, 0, 0] rfl _ _ hS')⟩
  · obtain ⟨b3, hb3⟩ : ∃ b3, b3 = bs ++ ([x.u, x.t, x.m].take 3).flatMap encI := ⟨_, rfl⟩
    have hbl : b3.length = bs.length + ((encI x.u).length + (encI x.t).length + (encI x.m).length) := by
      rw [hb3]; simp only [List.length_append, List.take_succ_cons, List.take_zero, List.flatMap_cons, List.flatMap_nil, List.length_nil]; omega
    rw [← hb3]
    refine SQ (RG ?_)
    refine RR [] .z (.i 15 (.bool false) (.i 14 (.int .i64 3) (.d (.k .a)))) .a ?_
    refine RZ (NT (SQ (CF (EX (TE (TE (BH (NT (SQ ?_)))))))))
    refine wpc_draw (by kernel_rfl) [ro x.sa (List.flatMap valC x.slots), ro x.ta (List.flatMap valC x.stack), .blk g1 124 [.int .i64 x.u, .int .i64 x.t, .int .i64 x.m, .slice x.sa x.slots.length x.sc, .slice x.ta x.stack.length x.tc]] (sub_of [1, 2, 3] (by kernel_rfl)) 8 (by kernel_rfl) ?_
    refine TK 3 [(0, []), (1, []), (2, [2]), (4, []), (5, [2])] (.i 26 (.slice x.ta x.stack.length x.tc) (.i 23 (.slice x.sa x.slots.length x.sc) (.i 21 (.slice a1 b3.length c1) (.d (.d (.d (.k .z))))))) (#[true, true, true, false, true, true, false, false]) ?_
    refine AC (dst := some 24) 2 3 (.d (.k .a)) (rowV_spec a1 c1 b3 x.sa x.sc x.slots h1 h3 (by omega)) (GO (GV (GJ [0]) 0 view_ro) [1, 0]) [0, 1, 2] ?_
    rintro r _ ⟨a2, c2, rfl, rfl⟩
    refine AC (dst := some 27) 1 6 (.d (.k .a)) (rowV_spec a2 c2 (b3 ++ encVs x.slots) x.ta x.tc x.stack h2 h4 (by rw [List.length_append]; omega)) (GO (GV (GJ [0]) 1 view_ro) [1, 0]) [0, 1, 2] ?_
    rintro r _ ⟨a3, c3, rfl, rfl⟩
    refine TK 0 [(7, [])] (.i 4 (.slice a3 (b3 ++ encVs x.slots ++ encVs x.stack).length c3) .z) (#[true, true, true, true, true, true, true, true]) ?_
    refine wpa_done 0 (by kernel_rfl) ?_
    refine NT (RE ?_)
    refine NE [0] (.k .z) (.d (.k .a)) [] (.slice a3 (b3 ++ encVs x.slots ++ encVs x.stack).length c3) ?_
    rw [show b3 ++ encVs x.slots ++ encVs x.stack = bs ++ encC x.p from by rw [hb3]; unfold encC Cl.p; simp]
    exact ⟨a3, c3, rfl, rfl⟩
end Go.Proofs.YtpfhleghgkeemaaGreatDoor
namespace Go.Proofs.YtpfhleghgkeemaaGreatDoor
open Go Go.Sx
def encOs (L : List O) : List UInt8 := encI L.length ++ L.flatMap encO
def encCs (L : List C5) : List UInt8 := encI L.length ++ L.flatMap encC
theorem take_map_snoc {α β : Type} (f : α → β) (g : β → List UInt8) {l : List α} {i : Nat} (h : i < l.length) : ((l.map f).take (i + 1)).flatMap g = ((l.map f).take i).flatMap g ++ g (f l[i]) := by
  rw [flat_take_succ g (by rw [List.length_map]; exact h), List.getElem_map]
theorem mem_flat_len {α : Type} (g : α → List UInt8) {l : List α} {i : Nat} (h : i < l.length) : ((l.take i).flatMap g).length + (g l[i]).length ≤ (l.flatMap g).length := by
  have h1 := flat_take_len g l (i + 1)
  rw [flat_take_succ g h, List.length_append] at h1; exact h1
theorem rowO_spec (a : Option Addr) (c : Nat) (bs : List UInt8) (la : Option Addr) (lc : Nat) (l : List Ob) (hl : l.length ≤ 1048576) (hv : ∀ o ∈ l, o.tag.length ≤ 1048576 ∧ o.cells.length ≤ 1048576 ∧ ∀ v ∈ o.cells, v.ok) (hB : bs.length + (encOs (l.map Ob.o)).length ≤ 549755813888) :
    Does Tryz.prog 69 [.slice a bs.length c, .slice la l.length lc, .func (.func 72) #[] #[]] [row 5 1 a bs.length c (u8s bs), ro la (l.flatMap objC), gBag l]
      (fun r hp' => ∃ a' c', r = .slice a' (bs ++ encOs (l.map Ob.o)).length c' ∧ hp' = [row 5 1 a' (bs ++ encOs (l.map Ob.o)).length c' (u8s (bs ++ encOs (l.map Ob.o)))]) := by
  have hEl : (encOs (l.map Ob.o)).length = (encI l.length).length + ((l.map Ob.o).flatMap encO).length := by unfold encOs; rw [List.length_append, List.length_map]
  refine fn_enter Tryz.func69 rfl 25 rfl fun w0 h0 => ?_
  refine SQ (RG ?_)
  refine RR [] .z (.i 6 (.slice none 0 0) .a) .a ?_
  refine RZ (NT (SQ (RG ?_)))
  refine RR [] (.d (.d (.d .a))) (.i 11 (.int .i64 (↑l.length : Int)) (.i 9 (.slice a bs.length c) .a)) .a ?_
  refine RC (dst := some 12) [0] (.d (.k .a)) (PutInt_spec a c bs l.length (by omega) (by omega) (by omega)) ?_
  rintro r _ ⟨a1, c1, rfl, rfl⟩
  refine RR [] .z (.i 0 (.slice a1 (bs ++ encI (↑l.length : Int)).length c1) (.d (.d (.d (.k (.d (.k .a))))))) .a ?_
  refine RZ (NT (SQ (SQ (RG ?_))))
  refine RR [] .z (.i 15 (.int .i64 0) (.i 14 (.int .i64 (↑l.length : Int)) (.i 13 (.slice la l.length lc) (.k (.k (.d (.k .a))))))) .a ?_
  refine RZ (NT (BK ?_))
  refine wpc_loop (X := {x : Nat × Option Addr × Nat // x.1 ≤ l.length}) (fun x => St.mk [(15, .int .i64 (x.1.1 : Int)), (14, .int .i64 l.length), (13, .slice la l.length lc), (0, .slice x.1.2.1 (bs ++ encI l.length ++ ((l.map Ob.o).take x.1.1).flatMap encO).length x.1.2.2), (6, .slice none 0 0), (2, .func (.func 72) #[] #[])]
    [row 5 1 x.1.2.1 (bs ++ encI l.length ++ ((l.map Ob.o).take x.1.1).flatMap encO).length x.1.2.2 (u8s (bs ++ encI l.length ++ ((l.map Ob.o).take x.1.1).flatMap encO)), ro la (l.flatMap objC), gBag l]) (fun x => l.length - x.1.1) ⟨(0, a1, c1), Nat.zero_le _⟩ ?_ ?_
  · show Ent _ _ (St.mk [_, _, _, (0, .slice a1 (bs ++ encI l.length ++ []).length c1), _, _] [row _ 1 a1 (bs ++ encI l.length ++ []).length c1 (u8s (bs ++ encI l.length ++ [])), _, _])
    rw [List.append_nil]
    exact ent_fr (by kernel_rfl)
  rintro ⟨⟨i, a2, c2⟩, hi⟩
  dsimp only at hi ⊢
  by_cases hlt : i < l.length
  · have hme := mem_flat_len encO (l := l.map Ob.o) (i := i) (by rw [List.length_map]; exact hlt)
    rw [List.getElem_map] at hme
    refine wpc_fact (fun w h => ro_addr h 1 rfl (by rw [objs_len]; omega)) ?_
    rintro ⟨g0, o0, rfl⟩
    refine SQ (RG ?_)
    refine RR [] .z (.i 16 (.bool (decide ((↑i : Int) < (↑l.length : Int)))) .a) .a ?_
    refine RZ (NT (SQ ?_))
    refine SC 16 (decide ((↑i : Int) < (↑l.length : Int))) true (decide_eq_true (by omega)) ?_
    refine CT (SK (NT (SQ (BK (SQ (RG ?_))))))
    refine RV true [] (.d .a) (.i 17 (.pointer (some ⟨g0, o0 + i * 2, none⟩)) (.d (.d (.k .a)))) .a [(0 : Int) ≤ (↑i : Int) ∧ (↑i : Int) < (↑l.length : Int)] ⟨by omega, trivial⟩ ?_
    refine wpr_eq (ld (t := 43) (a := ⟨g0, o0 + i * 2, none⟩) (dst := some 18) (by kernel_rfl) true 2 (by kernel_rfl) (by simp) (objC l[i]) rfl (fun w h => ld_ro h 1 rfl (i * 2) (objs_at hlt))) ?_
    refine RP [] (.d .a) 8 (.i 18 (.agg #[.string (mkS l[i].tag), .slice l[i].a l[i].cells.length l[i].c]) (.d (.d (.k .a)))) .a 43 [.string ⟨#[]⟩, .slice none 0 0] fun g1 => ?_
    refine RR [3, 3] .z (.k (.d (.k .a))) (.k (.k (.k (.u (.i (.string (mkS l[i].tag)) (.i (.slice l[i].a l[i].cells.length l[i].c) .z)) .a)))) ?_
    refine RZ (NT (RG ?_))
    refine RR [3, 3] (.d (.d (.d .a))) (.i 21 (.agg #[.string (mkS l[i].tag), .slice l[i].a l[i].cells.length l[i].c]) (.i 20 (.slice a2 (bs ++ encI (↑l.length : Int) ++ List.flatMap encO (List.take i (List.map Ob.o l))).length c2) (.i 19 (Value.func (Fn.func 72) #[] #[]) (.d (.k .a))))) .a ?_
    obtain ⟨b2, hb2⟩ : ∃ b2, b2 = bs ++ encI l.length ++ ((l.map Ob.o).take i).flatMap encO := ⟨_, rfl⟩
    have hbl : b2.length = bs.length + (encI l.length).length + (((l.map Ob.o).take i).flatMap encO).length := by rw [hb2, List.length_append, List.length_append]
    rw [← hb2]
    obtain ⟨v1, v2, v3⟩ := hv _ (List.getElem_mem hlt)
    have hme2 : (((l.map Ob.o).take i).flatMap encO).length + (encO (l[i].tag, l[i].cells)).length ≤ ((l.map Ob.o).flatMap encO).length := hme
    refine wpr_ent (ent_copy 2 (ro l[i].a (l[i].cells.flatMap valC)) rfl (fun h => h) (view_in (obRo_in hlt) view_ro)) ?_
    refine wpr_callv (dst := some 22) (rest := [ro l[i].a (List.flatMap valC l[i].cells), ro (some ⟨g0, o0, none⟩) (List.flatMap objC l), gBag l, .blk g1 43 [.string (mkS l[i].tag), .slice l[i].a l[i].cells.length l[i].c]]) (first := (#[])) (caps := (#[])) (args := [.slice a2 b2.length c2, .agg #[.string (mkS l[i].tag), .slice l[i].a l[i].cells.length l[i].c]]) (f := 72) (by kernel_rfl) (by kernel_rfl) (snapObj_spec a2 c2 b2 l[i].tag l[i].a l[i].c l[i].cells v1 v2 v3 (by omega)) (Give.reorder (Give.view (c := (ro l[i].a (List.flatMap valC l[i].cells))) (give (pre := [row 5 1 a2 b2.length c2 (u8s b2)]) (rest := [ro l[i].a (List.flatMap valC l[i].cells), ro (some ⟨g0, o0, none⟩) (List.flatMap objC l), gBag l, .blk g1 43 [.string (mkS l[i].tag), .slice l[i].a l[i].cells.length l[i].c]]) [1] (by kernel_rfl)) 0 (by kernel_rfl) view_ro) [1, 0] (by kernel_rfl)) ?_
    rintro r _ ⟨a3, c3, rfl, rfl⟩
    rw [show b2 ++ encO (l[i].tag, l[i].cells) = bs ++ encI l.length ++ ((l.map Ob.o).take (i + 1)).flatMap encO from by rw [hb2, take_map_snoc Ob.o encO hlt, List.append_assoc]; rfl]
    refine RR [] .z (.i 0 (.slice a3 (bs ++ encI (↑l.length : Int) ++ List.flatMap encO (List.take (i + 1) (List.map Ob.o l))).length c3) (.d (.d (.d (.d (.k (.k (.k (.d (.k .a)))))))))) .a ?_
    refine RZ (BN (NT (RG ?_)))
    refine RV true [] .z (.i 15 (.int .i64 ((↑i : Int) + 1)) (.k (.d (.k .a)))) .a ([inI64 ((↑i : Int) + (1 : Int))]) ⟨by unfold inI64; omega, trivial⟩ ?_
    refine RZ ?_
    exact fun a' w' hS' => ⟨⟨(i + 1, a3, c3), hlt⟩, by dsimp only; omega, ent_fr (by kernel_rfl) _ _ (ent_hp [0, 1, 1] rfl _ _ hS')⟩
  · obtain rfl : i = l.length := by omega
    refine SQ (RG ?_)
    refine RR [] .z (.i 16 (.bool (decide ((↑l.length : Int) < (↑l.length : Int)))) .a) .a ?_
    refine RZ (NT (SQ ?_))
    refine SC 16 (decide ((↑l.length : Int) < (↑l.length : Int))) false (by simp) ?_
    refine CF (EX (TE (TE (BH (NT (SQ (RG ?_)))))))
    refine RR [] .z (.i 6 (.slice a2 (bs ++ encI (↑l.length : Int) ++ List.flatMap encO (List.take l.length (List.map Ob.o l))).length c2) .z) .a ?_
    refine RZ (NT (RE ?_))
    refine NE [0] (.k .z) (.d (.k .a)) [] (.slice a2 (bs ++ encI (↑l.length : Int) ++ List.flatMap encO (List.take l.length (List.map Ob.o l))).length c2) ?_
    rw [show (l.map Ob.o).take l.length = l.map Ob.o from by rw [List.take_of_length_le (by rw [List.length_map]; exact Nat.le_refl _)], List.append_assoc, show encI (l.length : Int) = encI ((l.map Ob.o).length : Int) by rw [List.length_map]]
    exact ⟨a2, c2, rfl, rfl⟩
theorem rowC_spec (a : Option Addr) (c : Nat) (bs : List UInt8) (la : Option Addr) (lc : Nat) (l : List Cl) (hl : l.length ≤ 1048576) (hv : ∀ x ∈ l, x.ok) (hB : bs.length + (encCs (l.map Cl.p)).length ≤ 549755813888) :
    Does Tryz.prog 70 [.slice a bs.length c, .slice la l.length lc, .func (.func 71) #[] #[]] [row 5 1 a bs.length c (u8s bs), ro la (l.flatMap clC), gCl l]
      (fun r hp' => ∃ a' c', r = .slice a' (bs ++ encCs (l.map Cl.p)).length c' ∧ hp' = [row 5 1 a' (bs ++ encCs (l.map Cl.p)).length c' (u8s (bs ++ encCs (l.map Cl.p)))]) := by
  have hEl : (encCs (l.map Cl.p)).length = (encI l.length).length + ((l.map Cl.p).flatMap encC).length := by unfold encCs; rw [List.length_append, List.length_map]
  refine fn_enter Tryz.func70 rfl 25 rfl fun w0 h0 => ?_
  refine SQ (RG ?_)
  refine RR [] .z (.i 6 (.slice none 0 0) .a) .a ?_
  refine RZ (NT (SQ (RG ?_)))
  refine RR [] (.d (.d (.d .a))) (.i 11 (.int .i64 (↑l.length : Int)) (.i 9 (.slice a bs.length c) .a)) .a ?_
  refine RC (dst := some 12) [0] (.d (.k .a)) (PutInt_spec a c bs l.length (by omega) (by omega) (by omega)) ?_
  rintro r _ ⟨a1, c1, rfl, rfl⟩
  refine RR [] .z (.i 0 (.slice a1 (bs ++ encI (↑l.length : Int)).length c1) (.d (.d (.d (.k (.d (.k .a))))))) .a ?_
  refine RZ (NT (SQ (SQ (RG ?_))))
  refine RR [] .z (.i 15 (.int .i64 0) (.i 14 (.int .i64 (↑l.length : Int)) (.i 13 (.slice la l.length lc) (.k (.k (.d (.k .a))))))) .a ?_
  refine RZ (NT (BK ?_))
  refine wpc_loop (X := {x : Nat × Option Addr × Nat // x.1 ≤ l.length}) (fun x => St.mk [(15, .int .i64 (x.1.1 : Int)), (14, .int .i64 l.length), (13, .slice la l.length lc), (0, .slice x.1.2.1 (bs ++ encI l.length ++ ((l.map Cl.p).take x.1.1).flatMap encC).length x.1.2.2), (6, .slice none 0 0), (2, .func (.func 71) #[] #[])]
    [row 5 1 x.1.2.1 (bs ++ encI l.length ++ ((l.map Cl.p).take x.1.1).flatMap encC).length x.1.2.2 (u8s (bs ++ encI l.length ++ ((l.map Cl.p).take x.1.1).flatMap encC)), ro la (l.flatMap clC), gCl l]) (fun x => l.length - x.1.1) ⟨(0, a1, c1), Nat.zero_le _⟩ ?_ ?_
  · show Ent _ _ (St.mk [_, _, _, (0, .slice a1 (bs ++ encI l.length ++ []).length c1), _, _] [row _ 1 a1 (bs ++ encI l.length ++ []).length c1 (u8s (bs ++ encI l.length ++ [])), _, _])
    rw [List.append_nil]
    exact ent_fr (by kernel_rfl)
  rintro ⟨⟨i, a2, c2⟩, hi⟩
  dsimp only at hi ⊢
  by_cases hlt : i < l.length
  · have hme := mem_flat_len encC (l := l.map Cl.p) (i := i) (by rw [List.length_map]; exact hlt)
    rw [List.getElem_map] at hme
    refine wpc_fact (fun w h => ro_addr h 1 rfl (by rw [cls_len]; omega)) ?_
    rintro ⟨g0, o0, rfl⟩
    refine SQ (RG ?_)
    refine RR [] .z (.i 16 (.bool (decide ((↑i : Int) < (↑l.length : Int)))) .a) .a ?_
    refine RZ (NT (SQ ?_))
    refine SC 16 (decide ((↑i : Int) < (↑l.length : Int))) true (decide_eq_true (by omega)) ?_
    refine CT (SK (NT (SQ (BK (SQ (RG ?_))))))
    refine RV true [] (.d .a) (.i 17 (.pointer (some ⟨g0, o0 + i * 5, none⟩)) (.d (.d (.k .a)))) .a [(0 : Int) ≤ (↑i : Int) ∧ (↑i : Int) < (↑l.length : Int)] ⟨by omega, trivial⟩ ?_
    refine wpr_eq (ld (t := 124) (a := ⟨g0, o0 + i * 5, none⟩) (dst := some 18) (by kernel_rfl) true 5 (by kernel_rfl) (by simp) (clC l[i]) rfl (fun w h => ld_ro h 1 rfl (i * 5) (cls_at hlt))) ?_
    refine RP [] (.d .a) 8 (.i 18 (.agg #[.int .i64 l[i].u, .int .i64 l[i].t, .int .i64 l[i].m, .slice l[i].sa l[i].slots.length l[i].sc, .slice l[i].ta l[i].stack.length l[i].tc]) (.d (.d (.k .a)))) .a 124 [.int .i64 0, .int .i64 0, .int .i64 0, .slice none 0 0, .slice none 0 0] fun g1 => ?_
    refine RR [3, 3, 3, 3, 3] .z (.k (.d (.k .a))) (.k (.k (.k (.u (.i (.int .i64 l[i].u) (.i (.int .i64 l[i].t) (.i (.int .i64 l[i].m) (.i (.slice l[i].sa l[i].slots.length l[i].sc) (.i (.slice l[i].ta l[i].stack.length l[i].tc) .z))))) .a)))) ?_
    refine RZ (NT (RG ?_))
    refine RR [3, 3, 3, 3, 3] (.d (.d (.d .a))) (.i 21 (.agg #[.int .i64 l[i].u, .int .i64 l[i].t, .int .i64 l[i].m, .slice l[i].sa l[i].slots.length l[i].sc, .slice l[i].ta l[i].stack.length l[i].tc]) (.i 20 (.slice a2 (bs ++ encI (↑l.length : Int) ++ List.flatMap encC (List.take i (List.map Cl.p l))).length c2) (.i 19 (Value.func (Fn.func 71) #[] #[]) (.d (.k .a))))) .a ?_
    obtain ⟨b2, hb2⟩ : ∃ b2, b2 = bs ++ encI l.length ++ ((l.map Cl.p).take i).flatMap encC := ⟨_, rfl⟩
    have hbl : b2.length = bs.length + (encI l.length).length + (((l.map Cl.p).take i).flatMap encC).length := by rw [hb2, List.length_append, List.length_append]
    rw [← hb2]
    refine wpr_ent (ent_copy 2 (ro l[i].sa (l[i].slots.flatMap valC)) rfl (fun h => h) (view_in (clRo_in1 hlt) view_ro)) ?_
    refine wpr_ent (ent_copy 3 (ro l[i].ta (l[i].stack.flatMap valC)) rfl (fun h => h) (view_in (clRo_in2 hlt) view_ro)) ?_
    have hcs := snapCalled_spec a2 c2 b2 l[i] (hv _ (List.getElem_mem hlt)) (by omega)
    unfold clC at hcs
    refine wpr_callv (dst := some 22) (rest := [ro l[i].ta (List.flatMap valC l[i].stack), ro l[i].sa (List.flatMap valC l[i].slots), ro (some ⟨g0, o0, none⟩) (List.flatMap clC l), gCl l, .blk g1 124 [.int .i64 l[i].u, .int .i64 l[i].t, .int .i64 l[i].m, .slice l[i].sa l[i].slots.length l[i].sc, .slice l[i].ta l[i].stack.length l[i].tc]]) (first := (#[])) (caps := (#[])) (args := [.slice a2 b2.length c2, .agg #[.int .i64 l[i].u, .int .i64 l[i].t, .int .i64 l[i].m, .slice l[i].sa l[i].slots.length l[i].sc, .slice l[i].ta l[i].stack.length l[i].tc]]) (f := 71) (by kernel_rfl) (by kernel_rfl) (hcs) (Give.reorder (Give.view (c := (ro l[i].sa (List.flatMap valC l[i].slots))) (Give.view (c := (ro l[i].ta (List.flatMap valC l[i].stack))) (give (pre := [row 5 1 a2 b2.length c2 (u8s b2)]) (rest := [ro l[i].ta (List.flatMap valC l[i].stack), ro l[i].sa (List.flatMap valC l[i].slots), ro (some ⟨g0, o0, none⟩) (List.flatMap clC l), gCl l, .blk g1 124 [.int .i64 l[i].u, .int .i64 l[i].t, .int .i64 l[i].m, .slice l[i].sa l[i].slots.length l[i].sc, .slice l[i].ta l[i].stack.length l[i].tc]]) [2] (by kernel_rfl)) 0 (by kernel_rfl) view_ro) 1 (by kernel_rfl) view_ro) [2, 0, 0] (by kernel_rfl)) ?_
    rintro r _ ⟨a3, c3, rfl, rfl⟩
    rw [show b2 ++ encC l[i].p = bs ++ encI l.length ++ ((l.map Cl.p).take (i + 1)).flatMap encC from by rw [hb2, take_map_snoc Cl.p encC hlt, List.append_assoc]]
    refine RR [] .z (.i 0 (.slice a3 (bs ++ encI (↑l.length : Int) ++ List.flatMap encC (List.take (i + 1) (List.map Cl.p l))).length c3) (.d (.d (.d (.d (.k (.k (.k (.d (.k .a)))))))))) .a ?_
    refine RZ (BN (NT (RG ?_)))
    refine RV true [] .z (.i 15 (.int .i64 ((↑i : Int) + 1)) (.k (.d (.k .a)))) .a ([inI64 ((↑i : Int) + (1 : Int))]) ⟨by unfold inI64; omega, trivial⟩ ?_
    refine RZ ?_
    exact fun a' w' hS' => ⟨⟨(i + 1, a3, c3), hlt⟩, by dsimp only; omega, ent_fr (by kernel_rfl) _ _ (ent_hp [0, 2, 2] rfl _ _ hS')⟩
  · obtain rfl : i = l.length := by omega
    refine SQ (RG ?_)
    refine RR [] .z (.i 16 (.bool (decide ((↑l.length : Int) < (↑l.length : Int)))) .a) .a ?_
    refine RZ (NT (SQ ?_))
    refine SC 16 (decide ((↑l.length : Int) < (↑l.length : Int))) false (by simp) ?_
    refine CF (EX (TE (TE (BH (NT (SQ (RG ?_)))))))
    refine RR [] .z (.i 6 (.slice a2 (bs ++ encI (↑l.length : Int) ++ List.flatMap encC (List.take l.length (List.map Cl.p l))).length c2) .z) .a ?_
    refine RZ (NT (RE ?_))
    refine NE [0] (.k .z) (.d (.k .a)) [] (.slice a2 (bs ++ encI (↑l.length : Int) ++ List.flatMap encC (List.take l.length (List.map Cl.p l))).length c2) ?_
    rw [show (l.map Cl.p).take l.length = l.map Cl.p from by rw [List.take_of_length_le (by rw [List.length_map]; exact Nat.le_refl _)], List.append_assoc, show encI (l.length : Int) = encI ((l.map Cl.p).length : Int) by rw [List.length_map]]
    exact ⟨a2, c2, rfl, rfl⟩
end Go.Proofs.YtpfhleghgkeemaaGreatDoor
namespace Go.Proofs.YtpfhleghgkeemaaGreatDoor
open Go Go.Sx
/-! snap.right: are values right among so many objects? -/
def rB (m : Int) (v : V) : Bool := rightB v m
theorem right1_spec (v : V) (m : Int) (g : Nat) (hv : v.sm) : Does Tryz.prog 113 [valV v, .pointer (some ⟨g, 0, none⟩)] [ro (some ⟨g, 0, none⟩) [.int .i64 m]] (fun u hp' => u = .bool (!rB m v) ∧ hp' = []) := by
  have hck := Check_spec v m hv
  unfold rB
  unfold valV at hck ⊢
  refine fn_enter Tryz.func113 rfl 8 rfl fun w0 h0 => ?_
  refine SQ (RG ?_)
  refine RP [] (.d .a) 2 (.d (.k .a)) .a 28 [.int .i64 v.k, .int .i64 v.n, .string (mkS v.s)] fun g1 => ?_
  refine RR [] .z (.i 3 (.bool false) .a) .a ?_
  refine RZ (NT (SQ (RG ?_)))
  refine RR [1, 1, 1] (.d .a) (.i 4 (.agg #[.int .i64 v.k, .int .i64 v.n, .string (mkS v.s)]) (.k (.d (.k .a)))) .a ?_
  refine wpr_eq (ld (t := 3) (a := ⟨g, 0, none⟩) (dst := some 5) (by kernel_rfl) false 1 (by kernel_rfl) (by simp) [.int .i64 m] rfl (fun w h => ld_ro h 0 rfl 0 rfl)) ?_
  refine RC (dst := some 6) [] .a (hck) ?_
  rintro v _ ⟨rfl, rfl⟩
  cases hr : rightB v m with
  | true =>
    refine RR [] .z (.d (.d (.d (.k .z)))) .a ?_
    refine RZ (NT (RE ?_))
    refine NE [] .z .a [] (.bool false) ?_
    exact ⟨rfl, rfl⟩
  | false =>
    refine RR [] .z (.i 3 (.bool true) .z) .a ?_
    refine RZ (NT (RE ?_))
    refine NE [] .z .a [] (.bool true) ?_
    exact ⟨rfl, rfl⟩
theorem IndexFuncR_spec (l : List V) (a : Option Addr) (c : Nat) (m : Int) (g : Nat) (hl : l.length ≤ 1048576) (hs : smL l) : Does Tryz.prog 128 [.slice a l.length c, .func (.func 113) #[] #[.pointer (some ⟨g, 0, none⟩)]] [ro a (l.flatMap valC), ro (some ⟨g, 0, none⟩) [.int .i64 m]] (fun u hp' => ∃ n : Int, u = .int .i64 n ∧ (0 ≤ n ↔ l.all (rB m) = false) ∧ hp' = []) := by
  refine fn_enter Tryz.func128 rfl 19 rfl fun w0 h0 => ?_
  refine SQ (RG ?_)
  refine RR [] .z (.i 4 (.int .i64 0) .a) .a ?_
  refine RZ (NT (SQ (SQ (RG ?_))))
  refine RR [] .z (.i 8 (.int .i64 0) (.i 7 (.int .i64 (↑l.length : Int)) .a)) .a ?_
  refine RZ (NT (BK ?_))
  refine wpc_loop (X := {n : Nat // ∃ h : n ≤ l.length, ∀ j, (hj : j < n) → rB m (l[j]'(by omega)) = true}) (fun x => St.mk [(8, .int .i64 (x.1 : Int)), (7, .int .i64 l.length), (4, .int .i64 0), (0, .slice a l.length c), (1, .func (.func 113) #[] #[.pointer (some ⟨g, 0, none⟩)])] [ro a (l.flatMap valC), ro (some ⟨g, 0, none⟩) [.int .i64 m]]) (fun x => l.length - x.1) ⟨0, Nat.zero_le _, fun j h => absurd h (Nat.not_lt_zero _)⟩ (ent_fr (by kernel_rfl)) ?_
  rintro ⟨n, hn, hall⟩
  dsimp only at hn hall ⊢
  by_cases hlt : n < l.length
  · refine wpc_fact (fun w h => ro_addr h 0 rfl (by rw [vals_len]; omega)) ?_
    rintro ⟨g0, o0, rfl⟩
    have hf := right1_spec l[n] m g (hs _ (List.getElem_mem hlt))
    unfold valV at hf
    refine SQ (RG ?_)
    refine RR [] .z (.i 9 (.bool (decide ((↑n : Int) < (↑l.length : Int)))) .a) .a ?_
    refine RZ (NT (SQ ?_))
    refine SC 9 (decide ((↑n : Int) < (↑l.length : Int))) true (decide_eq_true (by omega)) ?_
    refine CT (SK (NT (SQ (BK (SQ (RG ?_))))))
    refine RR [] .z (.i 5 (.int .i64 (↑n : Int)) (.d (.d (.k .a)))) .a ?_
    refine RZ (NT (SQ (RG ?_)))
    refine RV true [] (.d (.d (.d (.d .a)))) (.i 14 (.pointer (some ⟨g0, o0 + n * 3, none⟩)) (.i 11 (Value.func (Fn.func 113) #[] #[.pointer (some ⟨g, 0, none⟩)]) .a)) .a [(0 : Int) ≤ (↑n : Int) ∧ (↑n : Int) < (↑l.length : Int)] ⟨by omega, trivial⟩ ?_
    refine wpr_eq (ld (t := 28) (a := ⟨g0, o0 + n * 3, none⟩) (dst := some 15) (by kernel_rfl) true 3 (by kernel_rfl) (by simp) (valC l[n]) rfl (fun w h => ld_ro h 0 rfl (n * 3) (vals_at hlt))) ?_
    refine RCG (dst := some 16) .a (hf) (GV (GI []) 1 view_ro) ?_
    rintro v _ ⟨rfl, rfl⟩
    cases hok : rB m l[n] with
    | true =>
      refine RZ (NT (CF (SK (BN (NT (RG ?_))))))
      refine RV true [] .z (.i 8 (.int .i64 ((↑n : Int) + 1)) (.d (.d (.d (.d (.d (.d (.k .a)))))))) .a ([inI64 ((↑n : Int) + (1 : Int))]) ⟨by unfold inI64; omega, trivial⟩ ?_
      refine RZ ?_
      exact fun a' w' hS' => ⟨⟨n + 1, hlt, fun j hj => by
              rcases Nat.lt_or_ge j n with h | h
              · exact hall j h
              · obtain rfl : j = n := by omega
                exact hok⟩, by dsimp only; omega, ent_fr (by kernel_rfl) _ _ (ent_hp [0, 0] rfl _ _ hS')⟩
    | false =>
      refine RZ (NT (CT (SQ (RG ?_))))
      refine RR [] .z (.i 4 (.int .i64 (↑n : Int)) (.d (.d (.d (.d (.d (.k (.k (.d (.k .a)))))))))) .a ?_
      refine RZ (NT (RE (BR (TR (TR (BR (TR ?_)))))))
      refine NE [] .z .a [] (.int .i64 (↑n : Int)) ?_
      refine ⟨_, rfl, ⟨fun _ => ?_, fun _ => by omega⟩, rfl⟩
      cases h : l.all (rB m) with
      | false => rfl
      | true =>
        have h2 := List.all_eq_true.1 h l[n] (List.getElem_mem hlt)
        rw [hok] at h2; cases h2
  · refine SQ (RG ?_)
    refine RR [] .z (.i 9 (.bool (decide ((↑n : Int) < (↑l.length : Int)))) .a) .a ?_
    refine RZ (NT (SQ ?_))
    refine SC 9 (decide ((↑n : Int) < (↑l.length : Int))) false (decide_eq_false (by omega)) ?_
    refine CF (EX (TE (TE (BH (NT (SQ (RG ?_)))))))
    refine RR [] .z (.i 4 (.int .i64 (-1)) .z) .a ?_
    refine RZ (NT (RE ?_))
    refine NE [] .z .a [] (.int .i64 (-1)) ?_
    refine ⟨-1, rfl, ⟨fun h => absurd h (by decide), fun h => ?_⟩, rfl⟩
    have : l.all (rB m) = true := List.all_eq_true.2 fun x hx => by
      obtain ⟨j, hj⟩ := List.getElem?_of_mem hx
      obtain ⟨hj1, rfl⟩ := List.getElem?_eq_some_iff.1 hj
      exact hall j (by omega)
    rw [this] at h; cases h
theorem ContainsFuncR_spec (l : List V) (a : Option Addr) (c : Nat) (m : Int) (g : Nat) (hl : l.length ≤ 1048576) (hs : smL l) : Does Tryz.prog 90 [.slice a l.length c, .func (.func 113) #[] #[.pointer (some ⟨g, 0, none⟩)]] [ro a (l.flatMap valC), ro (some ⟨g, 0, none⟩) [.int .i64 m]] (fun u hp' => u = .bool (!l.all (rB m)) ∧ hp' = []) := by
  refine fn_enter Tryz.func90 rfl 9 rfl fun w0 h0 => ?_
  refine SQ (RG ?_)
  refine RR [] .z (.i 4 (.bool false) .a) .a ?_
  refine RZ (NT (SQ (RG ?_)))
  refine RR [] (.d (.d .a)) (.i 6 (Value.func (Fn.func 113) #[] #[.pointer (some ⟨g, 0, none⟩)]) (.i 5 (.slice a l.length c) (.k .z))) .a ?_
  refine RCG (dst := some 7) .a (IndexFuncR_spec l a c m g hl hs) (GV (GV (GI []) 1 view_ro) 0 view_ro) ?_
  rintro v _ ⟨n, rfl, hn, rfl⟩
  refine RR [] .z (.i 4 (.bool (decide (n ≥ (0 : Int)))) .z) .a ?_
  refine RZ (NT (RE ?_))
  refine NE [] .z .a [] (.bool (decide (n ≥ 0))) ?_
  refine ⟨?_, rfl⟩
  cases h : l.all (rB m) with
  | true =>
    have h0 : ¬ 0 ≤ n := fun h2 => by have := hn.1 h2; rw [h] at this; cases this
    simp [h0]
  | false =>
    have h0 : 0 ≤ n := hn.2 h
    simp [h0]
theorem snapRight_spec (a : Option Addr) (c : Nat) (l : List V) (m : Int) (hl : l.length ≤ 1048576) (hs : smL l) : Does Tryz.prog 75 [.slice a l.length c, .int .i64 m] [ro a (l.flatMap valC)] (fun u hp' => u = .bool (l.all (rB m)) ∧ hp' = []) := by
  have hgo : ∀ b : Bool, (!!b) = b := fun b => Bool.not_not b
  refine fn_enter Tryz.func75 rfl 9 rfl fun w0 h0 => ?_
  refine SQ (RG ?_)
  refine RP [] (.d .a) 3 (.k .z) .a 3 [.int .i64 m] fun g1 => ?_
  refine RR [] .z (.i 4 (.bool false) .a) .a ?_
  refine RZ (NT (SQ (RG ?_)))
  refine RR [] (.d (.d .a)) (.i 6 (Value.func (Fn.func 113) #[] #[.pointer (some ⟨g1, 0, none⟩)]) (.i 5 (.slice a l.length c) (.k .z))) .a ?_
  refine wpr_ent (ent_turn 1 (ro (some ⟨g1, 0, none⟩) [.int .i64 m]) rfl (turn_rblk (l := [.int .i64 m]) (fun u hu => by cases List.mem_singleton.1 hu; rfl)) rfl) ?_
  refine RCG (dst := some 7) .a (ContainsFuncR_spec l a c m g1 hl hs) (GV (GV (GI []) 1 view_ro) 0 view_ro) ?_
  rintro v _ ⟨rfl, rfl⟩
  refine RR [] .z (.i 4 (.bool !!l.all (rB m)) .z) .a ?_
  refine RZ (NT (RE ?_))
  refine NE [] .z .a [] (.bool !!l.all (rB m)) ?_
  exact ⟨by first | rfl | rw [hgo], rfl⟩
end Go.Proofs.YtpfhleghgkeemaaGreatDoor
namespace Go.Proofs.YtpfhleghgkeemaaGreatDoor
open Go Go.Sx
structure SP where
  pos : Int
  st : Int
  fa : Int
  C : List C5
  L : List O
  out : List UInt8
  rd : Int
deriving DecidableEq
structure Sv where
  pos : Int
  st : Int
  fa : Int
  ca : Option Addr
  cc : Nat
  cl : List Cl
  ha : Option Addr
  hc : Nat
  hl : List Ob
  out : List UInt8
  rd : Int
def Sv.p (s : Sv) : SP := ⟨s.pos, s.st, s.fa, s.cl.map Cl.p, s.hl.map Ob.o, s.out, s.rd⟩
def svC (s : Sv) : List Value := [.int .i64 s.pos, .int .i64 s.st, .int .i64 s.fa, .slice s.ca s.cl.length s.cc, .slice s.ha s.hl.length s.hc, .string (mkS s.out), .int .i64 s.rd]
def Sv.ok (s : Sv) : Prop := i64r s.pos ∧ i64r s.st ∧ i64r s.fa ∧ i64r s.rd ∧ s.cl.length ≤ 1048576 ∧ (∀ x ∈ s.cl, x.ok) ∧ s.hl.length ≤ 1048576 ∧ smO s.hl ∧ (∀ o ∈ s.hl, ∀ v ∈ o.cells, v.ok) ∧ s.out.length ≤ 1048576 ∧ usedO (s.hl.map Ob.o) ≤ 1099511627776
def callB (m : Int) (x : C5) : Bool := decide (0 ≤ x.1) && decide (0 ≤ x.2.1) && decide (-1 ≤ x.2.2.1) && decide (x.2.2.2.1.length ≤ 32) && decide (x.2.2.2.2.length ≤ 256) && x.2.2.2.1.all (rB m) && x.2.2.2.2.all (rB m)
def heapOk (L : List O) : Bool := L.all (fun o => objB L.length o.1 o.2) && decide (usedO L ≤ 4096)
def headB (s : SP) : Bool := decide (0 ≤ s.pos) && decide (0 ≤ s.rd) && decide (0 ≤ s.st) && decide (s.st ≤ 2) && decide (0 ≤ s.fa) && decide (s.fa ≤ 10) && decide (s.C.length ≤ 64) && decide (s.out.length ≤ 4096)
def mayB (s : SP) : Bool := headB s && heapOk s.L && s.C.all (callB s.L.length)
theorem headB_iff (s : SP) : headB s = true ↔ 0 ≤ s.pos ∧ 0 ≤ s.rd ∧ 0 ≤ s.st ∧ s.st ≤ 2 ∧ 0 ≤ s.fa ∧ s.fa ≤ 10 ∧ s.C.length ≤ 64 ∧ s.out.length ≤ 4096 := by
  unfold headB; simp only [Bool.and_eq_true, decide_eq_true_eq, and_assoc]
theorem vsm {v : V} (h : v.ok) : v.sm := h.2.2
set_option maxHeartbeats 8000000 in
theorem snapCheck_spec (s : Sv) (hs : s.ok) : Does Tryz.prog 42 [.agg (svC s).toArray] [ro s.ca (s.cl.flatMap clC), gCl s.cl, ro s.ha (s.hl.flatMap objC), gBag s.hl, gWords] (fun r hp' => r = .int .i64 (if mayB s.p then 0 else 2) ∧ hp' = []) := by
  obtain ⟨⟨p1, p2⟩, ⟨s1, s2⟩, ⟨f1, f2⟩, ⟨r1, r2⟩, hc1, hc2, hh1, hh2, hh3, ho, hu⟩ := hs
  have hms : (mkS s.out).size = s.out.length := mkS_size _
  have hLd := Load_spec 4096 s.ha s.hc s.hl hh1 hh2
  unfold svC
  cases hH : headB s.p with
  | false =>
    rw [show mayB s.p = false from by unfold mayB; rw [hH]; rfl]
    by_cases k0 : ¬ 0 ≤ s.pos
    · refine fn_enter Tryz.func42 rfl 106 rfl fun w0 h0 => ?_
      refine SQ (RG ?_)
      refine RP [] (.d .a) 1 .z .a 75 [.int .i64 s.pos, .int .i64 s.st, .int .i64 s.fa, .slice s.ca s.cl.length s.cc, .slice s.ha s.hl.length s.hc, .string (mkS s.out), .int .i64 s.rd] fun g1 => ?_
      refine RR [] .z (.i 2 (.int .i64 0) .a) .a ?_
      refine RZ (NT (SQ (SQ (RG ?_))))
      refine RR [5] (.d (.d (.d (.d .a)))) (.i 10 (.bool (decide (s.pos < (0 : Int)))) .a) .a ?_
      refine SR 10 (decide (s.pos < (0 : Int))) true (decide_eq_true (by omega)) ?_
      refine RR [] .z (.i 46 (.bool true) (.d (.d (.k .a)))) .a ?_
      refine RZ (NT (CT (SQ (RG ?_))))
      refine RR [] .z (.i 2 (.int .i64 2) (.d (.d (.k .a)))) .a ?_
      refine RZ (NT (RE (TR ?_)))
      refine NE [] .z .a [] (.int .i64 2) ?_
      exact ⟨rfl, rfl⟩
    rw [Decidable.not_not] at k0
    by_cases k1 : ¬ 0 ≤ s.rd
    · refine fn_enter Tryz.func42 rfl 106 rfl fun w0 h0 => ?_
      refine SQ (RG ?_)
      refine RP [] (.d .a) 1 .z .a 75 [.int .i64 s.pos, .int .i64 s.st, .int .i64 s.fa, .slice s.ca s.cl.length s.cc, .slice s.ha s.hl.length s.hc, .string (mkS s.out), .int .i64 s.rd] fun g1 => ?_
      refine RR [] .z (.i 2 (.int .i64 0) .a) .a ?_
      refine RZ (NT (SQ (SQ (RG ?_))))
      refine RR [5] (.d (.d (.d (.d .a)))) (.i 10 (.bool (decide (s.pos < (0 : Int)))) .a) .a ?_
      refine SR 10 (decide (s.pos < (0 : Int))) false (decide_eq_false (by omega)) ?_
      refine RR [5] (.d (.d (.d (.d (.d .a))))) (.i 15 (.bool (decide (s.rd < (0 : Int)))) (.d (.d (.k .a)))) .a ?_
      refine SR 15 (decide (s.rd < (0 : Int))) true (decide_eq_true (by omega)) ?_
      refine RR [] .z (.i 46 (.bool true) (.d (.d (.k .a)))) .a ?_
      refine RZ (NT (CT (SQ (RG ?_))))
      refine RR [] .z (.i 2 (.int .i64 2) (.d (.d (.k .a)))) .a ?_
      refine RZ (NT (RE (TR ?_)))
      refine NE [] .z .a [] (.int .i64 2) ?_
      exact ⟨rfl, rfl⟩
    rw [Decidable.not_not] at k1
    by_cases k2 : ¬ 0 ≤ s.st
    · refine fn_enter Tryz.func42 rfl 106 rfl fun w0 h0 => ?_
      refine SQ (RG ?_)
      refine RP [] (.d .a) 1 .z .a 75 [.int .i64 s.pos, .int .i64 s.st, .int .i64 s.fa, .slice s.ca s.cl.length s.cc, .slice s.ha s.hl.length s.hc, .string (mkS s.out), .int .i64 s.rd] fun g1 => ?_
      refine RR [] .z (.i 2 (.int .i64 0) .a) .a ?_
      refine RZ (NT (SQ (SQ (RG ?_))))
      refine RR [5] (.d (.d (.d (.d .a)))) (.i 10 (.bool (decide (s.pos < (0 : Int)))) .a) .a ?_
      refine SR 10 (decide (s.pos < (0 : Int))) false (decide_eq_false (by omega)) ?_
      refine RR [5] (.d (.d (.d (.d (.d .a))))) (.i 15 (.bool (decide (s.rd < (0 : Int)))) (.d (.d (.k .a)))) .a ?_
      refine SR 15 (decide (s.rd < (0 : Int))) false (decide_eq_false (by omega)) ?_
      refine RR [5] (.d (.d (.d (.d (.d .a))))) (.i 20 (.bool (decide (s.st < (0 : Int)))) (.d (.d (.k .a)))) .a ?_
      refine SR 20 (decide (s.st < (0 : Int))) true (decide_eq_true (by omega)) ?_
      refine RR [] .z (.i 46 (.bool true) (.d (.d (.k .a)))) .a ?_
      refine RZ (NT (CT (SQ (RG ?_))))
      refine RR [] .z (.i 2 (.int .i64 2) (.d (.d (.k .a)))) .a ?_
      refine RZ (NT (RE (TR ?_)))
      refine NE [] .z .a [] (.int .i64 2) ?_
      exact ⟨rfl, rfl⟩
    rw [Decidable.not_not] at k2
    by_cases k3 : ¬ s.st ≤ 2
    · refine fn_enter Tryz.func42 rfl 106 rfl fun w0 h0 => ?_
      refine SQ (RG ?_)
      refine RP [] (.d .a) 1 .z .a 75 [.int .i64 s.pos, .int .i64 s.st, .int .i64 s.fa, .slice s.ca s.cl.length s.cc, .slice s.ha s.hl.length s.hc, .string (mkS s.out), .int .i64 s.rd] fun g1 => ?_
      refine RR [] .z (.i 2 (.int .i64 0) .a) .a ?_
      refine RZ (NT (SQ (SQ (RG ?_))))
      refine RR [5] (.d (.d (.d (.d .a)))) (.i 10 (.bool (decide (s.pos < (0 : Int)))) .a) .a ?_
      refine SR 10 (decide (s.pos < (0 : Int))) false (decide_eq_false (by omega)) ?_
      refine RR [5] (.d (.d (.d (.d (.d .a))))) (.i 15 (.bool (decide (s.rd < (0 : Int)))) (.d (.d (.k .a)))) .a ?_
      refine SR 15 (decide (s.rd < (0 : Int))) false (decide_eq_false (by omega)) ?_
      refine RR [5] (.d (.d (.d (.d (.d .a))))) (.i 20 (.bool (decide (s.st < (0 : Int)))) (.d (.d (.k .a)))) .a ?_
      refine SR 20 (decide (s.st < (0 : Int))) false (decide_eq_false (by omega)) ?_
      refine RR [5] (.d (.d (.d (.d (.d .a))))) (.i 25 (.bool (decide (s.st > (2 : Int)))) (.d (.d (.k .a)))) .a ?_
      refine SR 25 (decide (s.st > (2 : Int))) true (decide_eq_true (by omega)) ?_
      refine RR [] .z (.i 46 (.bool true) (.d (.d (.k .a)))) .a ?_
      refine RZ (NT (CT (SQ (RG ?_))))
      refine RR [] .z (.i 2 (.int .i64 2) (.d (.d (.k .a)))) .a ?_
      refine RZ (NT (RE (TR ?_)))
      refine NE [] .z .a [] (.int .i64 2) ?_
      exact ⟨rfl, rfl⟩
    rw [Decidable.not_not] at k3
    by_cases k4 : ¬ 0 ≤ s.fa
    · refine fn_enter Tryz.func42 rfl 106 rfl fun w0 h0 => ?_
      refine SQ (RG ?_)
      refine RP [] (.d .a) 1 .z .a 75 [.int .i64 s.pos, .int .i64 s.st, .int .i64 s.fa, .slice s.ca s.cl.length s.cc, .slice s.ha s.hl.length s.hc, .string (mkS s.out), .int .i64 s.rd] fun g1 => ?_
      refine RR [] .z (.i 2 (.int .i64 0) .a) .a ?_
      refine RZ (NT (SQ (SQ (RG ?_))))
      refine RR [5] (.d (.d (.d (.d .a)))) (.i 10 (.bool (decide (s.pos < (0 : Int)))) .a) .a ?_
      refine SR 10 (decide (s.pos < (0 : Int))) false (decide_eq_false (by omega)) ?_
      refine RR [5] (.d (.d (.d (.d (.d .a))))) (.i 15 (.bool (decide (s.rd < (0 : Int)))) (.d (.d (.k .a)))) .a ?_
      refine SR 15 (decide (s.rd < (0 : Int))) false (decide_eq_false (by omega)) ?_
      refine RR [5] (.d (.d (.d (.d (.d .a))))) (.i 20 (.bool (decide (s.st < (0 : Int)))) (.d (.d (.k .a)))) .a ?_
      refine SR 20 (decide (s.st < (0 : Int))) false (decide_eq_false (by omega)) ?_
      refine RR [5] (.d (.d (.d (.d (.d .a))))) (.i 25 (.bool (decide (s.st > (2 : Int)))) (.d (.d (.k .a)))) .a ?_
      refine SR 25 (decide (s.st > (2 : Int))) false (decide_eq_false (by omega)) ?_
      refine RR [5] (.d (.d (.d (.d (.d .a))))) (.i 30 (.bool (decide (s.fa < (0 : Int)))) (.d (.d (.k .a)))) .a ?_
      refine SR 30 (decide (s.fa < (0 : Int))) true (decide_eq_true (by omega)) ?_
      refine RR [] .z (.i 46 (.bool true) (.d (.d (.k .a)))) .a ?_
      refine RZ (NT (CT (SQ (RG ?_))))
      refine RR [] .z (.i 2 (.int .i64 2) (.d (.d (.k .a)))) .a ?_
      refine RZ (NT (RE (TR ?_)))
      refine NE [] .z .a [] (.int .i64 2) ?_
      exact ⟨rfl, rfl⟩
    rw [Decidable.not_not] at k4
    by_cases k5 : ¬ s.fa ≤ 10
    · refine fn_enter Tryz.func42 rfl 106 rfl fun w0 h0 => ?_
      refine SQ (RG ?_)
      refine RP [] (.d .a) 1 .z .a 75 [.int .i64 s.pos, .int .i64 s.st, .int .i64 s.fa, .slice s.ca s.cl.length s.cc, .slice s.ha s.hl.length s.hc, .string (mkS s.out), .int .i64 s.rd] fun g1 => ?_
      refine RR [] .z (.i 2 (.int .i64 0) .a) .a ?_
      refine RZ (NT (SQ (SQ (RG ?_))))
      refine RR [5] (.d (.d (.d (.d .a)))) (.i 10 (.bool (decide (s.pos < (0 : Int)))) .a) .a ?_
      refine SR 10 (decide (s.pos < (0 : Int))) false (decide_eq_false (by omega)) ?_
      refine RR [5] (.d (.d (.d (.d (.d .a))))) (.i 15 (.bool (decide (s.rd < (0 : Int)))) (.d (.d (.k .a)))) .a ?_
      refine SR 15 (decide (s.rd < (0 : Int))) false (decide_eq_false (by omega)) ?_
      refine RR [5] (.d (.d (.d (.d (.d .a))))) (.i 20 (.bool (decide (s.st < (0 : Int)))) (.d (.d (.k .a)))) .a ?_
      refine SR 20 (decide (s.st < (0 : Int))) false (decide_eq_false (by omega)) ?_
      refine RR [5] (.d (.d (.d (.d (.d .a))))) (.i 25 (.bool (decide (s.st > (2 : Int)))) (.d (.d (.k .a)))) .a ?_
      refine SR 25 (decide (s.st > (2 : Int))) false (decide_eq_false (by omega)) ?_
      refine RR [5] (.d (.d (.d (.d (.d .a))))) (.i 30 (.bool (decide (s.fa < (0 : Int)))) (.d (.d (.k .a)))) .a ?_
      refine SR 30 (decide (s.fa < (0 : Int))) false (decide_eq_false (by omega)) ?_
      refine RR [5] (.d (.d (.d (.d (.d .a))))) (.i 35 (.bool (decide (s.fa > (10 : Int)))) (.d (.d (.k .a)))) .a ?_
      refine SR 35 (decide (s.fa > (10 : Int))) true (decide_eq_true (by omega)) ?_
      refine RR [] .z (.i 46 (.bool true) (.d (.d (.k .a)))) .a ?_
      refine RZ (NT (CT (SQ (RG ?_))))
      refine RR [] .z (.i 2 (.int .i64 2) (.d (.d (.k .a)))) .a ?_
      refine RZ (NT (RE (TR ?_)))
      refine NE [] .z .a [] (.int .i64 2) ?_
      exact ⟨rfl, rfl⟩
    rw [Decidable.not_not] at k5
    by_cases k6 : ¬ s.cl.length ≤ 64
    · refine fn_enter Tryz.func42 rfl 106 rfl fun w0 h0 => ?_
      refine SQ (RG ?_)
      refine RP [] (.d .a) 1 .z .a 75 [.int .i64 s.pos, .int .i64 s.st, .int .i64 s.fa, .slice s.ca s.cl.length s.cc, .slice s.ha s.hl.length s.hc, .string (mkS s.out), .int .i64 s.rd] fun g1 => ?_
      refine RR [] .z (.i 2 (.int .i64 0) .a) .a ?_
      refine RZ (NT (SQ (SQ (RG ?_))))
      refine RR [5] (.d (.d (.d (.d .a)))) (.i 10 (.bool (decide (s.pos < (0 : Int)))) .a) .a ?_
      refine SR 10 (decide (s.pos < (0 : Int))) false (decide_eq_false (by omega)) ?_
      refine RR [5] (.d (.d (.d (.d (.d .a))))) (.i 15 (.bool (decide (s.rd < (0 : Int)))) (.d (.d (.k .a)))) .a ?_
      refine SR 15 (decide (s.rd < (0 : Int))) false (decide_eq_false (by omega)) ?_
      refine RR [5] (.d (.d (.d (.d (.d .a))))) (.i 20 (.bool (decide (s.st < (0 : Int)))) (.d (.d (.k .a)))) .a ?_
      refine SR 20 (decide (s.st < (0 : Int))) false (decide_eq_false (by omega)) ?_
      refine RR [5] (.d (.d (.d (.d (.d .a))))) (.i 25 (.bool (decide (s.st > (2 : Int)))) (.d (.d (.k .a)))) .a ?_
      refine SR 25 (decide (s.st > (2 : Int))) false (decide_eq_false (by omega)) ?_
      refine RR [5] (.d (.d (.d (.d (.d .a))))) (.i 30 (.bool (decide (s.fa < (0 : Int)))) (.d (.d (.k .a)))) .a ?_
      refine SR 30 (decide (s.fa < (0 : Int))) false (decide_eq_false (by omega)) ?_
      refine RR [5] (.d (.d (.d (.d (.d .a))))) (.i 35 (.bool (decide (s.fa > (10 : Int)))) (.d (.d (.k .a)))) .a ?_
      refine SR 35 (decide (s.fa > (10 : Int))) false (decide_eq_false (by omega)) ?_
      refine RR [5] (.d (.d (.d (.d (.d (.d .a)))))) (.i 41 (.bool (decide ((↑s.cl.length : Int) > (64 : Int)))) (.d (.d (.k .a)))) .a ?_
      refine SR 41 (decide ((↑s.cl.length : Int) > (64 : Int))) true (decide_eq_true (by omega)) ?_
      refine RR [] .z (.i 46 (.bool true) (.d (.d (.k .a)))) .a ?_
      refine RZ (NT (CT (SQ (RG ?_))))
      refine RR [] .z (.i 2 (.int .i64 2) (.d (.d (.k .a)))) .a ?_
      refine RZ (NT (RE (TR ?_)))
      refine NE [] .z .a [] (.int .i64 2) ?_
      exact ⟨rfl, rfl⟩
    rw [Decidable.not_not] at k6
    by_cases k7 : ¬ s.out.length ≤ 4096
    · refine fn_enter Tryz.func42 rfl 106 rfl fun w0 h0 => ?_
      refine SQ (RG ?_)
      refine RP [] (.d .a) 1 .z .a 75 [.int .i64 s.pos, .int .i64 s.st, .int .i64 s.fa, .slice s.ca s.cl.length s.cc, .slice s.ha s.hl.length s.hc, .string (mkS s.out), .int .i64 s.rd] fun g1 => ?_
      refine RR [] .z (.i 2 (.int .i64 0) .a) .a ?_
      refine RZ (NT (SQ (SQ (RG ?_))))
      refine RR [5] (.d (.d (.d (.d .a)))) (.i 10 (.bool (decide (s.pos < (0 : Int)))) .a) .a ?_
      refine SR 10 (decide (s.pos < (0 : Int))) false (decide_eq_false (by omega)) ?_
      refine RR [5] (.d (.d (.d (.d (.d .a))))) (.i 15 (.bool (decide (s.rd < (0 : Int)))) (.d (.d (.k .a)))) .a ?_
      refine SR 15 (decide (s.rd < (0 : Int))) false (decide_eq_false (by omega)) ?_
      refine RR [5] (.d (.d (.d (.d (.d .a))))) (.i 20 (.bool (decide (s.st < (0 : Int)))) (.d (.d (.k .a)))) .a ?_
      refine SR 20 (decide (s.st < (0 : Int))) false (decide_eq_false (by omega)) ?_
      refine RR [5] (.d (.d (.d (.d (.d .a))))) (.i 25 (.bool (decide (s.st > (2 : Int)))) (.d (.d (.k .a)))) .a ?_
      refine SR 25 (decide (s.st > (2 : Int))) false (decide_eq_false (by omega)) ?_
      refine RR [5] (.d (.d (.d (.d (.d .a))))) (.i 30 (.bool (decide (s.fa < (0 : Int)))) (.d (.d (.k .a)))) .a ?_
      refine SR 30 (decide (s.fa < (0 : Int))) false (decide_eq_false (by omega)) ?_
      refine RR [5] (.d (.d (.d (.d (.d .a))))) (.i 35 (.bool (decide (s.fa > (10 : Int)))) (.d (.d (.k .a)))) .a ?_
      refine SR 35 (decide (s.fa > (10 : Int))) false (decide_eq_false (by omega)) ?_
      refine RR [5] (.d (.d (.d (.d (.d (.d .a)))))) (.i 41 (.bool (decide ((↑s.cl.length : Int) > (64 : Int)))) (.d (.d (.k .a)))) .a ?_
      refine SR 41 (decide ((↑s.cl.length : Int) > (64 : Int))) false (decide_eq_false (by omega)) ?_
      refine RR [5] .z (.i 46 (.bool (decide ((↑s.out.length : Int) > (4096 : Int)))) (.d (.d (.k .a)))) .a ?_
      refine RZ (NT ?_)
      refine SC 46 (decide ((↑s.out.length : Int) > (4096 : Int))) true (decide_eq_true (by omega)) ?_
      refine CT (SQ (RG ?_))
      refine RR [] .z (.i 2 (.int .i64 2) (.d (.d (.d (.k .a))))) .a ?_
      refine RZ (NT (RE (TR ?_)))
      refine NE [] .z .a [] (.int .i64 2) ?_
      exact ⟨rfl, rfl⟩
    rw [Decidable.not_not] at k7
    have : headB s.p = true := (headB_iff s.p).2 ⟨k0, k1, k2, k3, k4, k5, by show (s.cl.map Cl.p).length ≤ 64; rw [List.length_map]; exact k6, k7⟩
    rw [hH] at this; cases this
  | true =>
    have hH2 := (headB_iff s.p).1 hH
    obtain ⟨q1, q2, q3, q4, q5, q6, q7, q8⟩ := hH2
    have q1' : 0 ≤ s.pos := q1
    have q2' : 0 ≤ s.rd := q2
    have q3' : 0 ≤ s.st := q3
    have q4' : s.st ≤ 2 := q4
    have q5' : 0 ≤ s.fa := q5
    have q6' : s.fa ≤ 10 := q6
    have q7' : s.cl.length ≤ 64 := by have : (s.cl.map Cl.p).length ≤ 64 := q7; rwa [List.length_map] at this
    have q8' : s.out.length ≤ 4096 := q8
    refine fn_enter Tryz.func42 rfl 106 rfl fun w0 h0 => ?_
    refine SQ (RG ?_)
    refine RP [] (.d .a) 1 .z .a 75 [.int .i64 s.pos, .int .i64 s.st, .int .i64 s.fa, .slice s.ca s.cl.length s.cc, .slice s.ha s.hl.length s.hc, .string (mkS s.out), .int .i64 s.rd] fun g1 => ?_
    refine RR [] .z (.i 2 (.int .i64 0) .a) .a ?_
    refine RZ (NT (SQ (SQ (RG ?_))))
    refine RR [5] (.d (.d (.d (.d .a)))) (.i 10 (.bool (decide (s.pos < (0 : Int)))) .a) .a ?_
    refine SR 10 (decide (s.pos < (0 : Int))) false (decide_eq_false (by omega)) ?_
    refine RR [5] (.d (.d (.d (.d (.d .a))))) (.i 15 (.bool (decide (s.rd < (0 : Int)))) (.d (.d (.k .a)))) .a ?_
    refine SR 15 (decide (s.rd < (0 : Int))) false (decide_eq_false (by omega)) ?_
    refine RR [5] (.d (.d (.d (.d (.d .a))))) (.i 20 (.bool (decide (s.st < (0 : Int)))) (.d (.d (.k .a)))) .a ?_
    refine SR 20 (decide (s.st < (0 : Int))) false (decide_eq_false (by omega)) ?_
    refine RR [5] (.d (.d (.d (.d (.d .a))))) (.i 25 (.bool (decide (s.st > (2 : Int)))) (.d (.d (.k .a)))) .a ?_
    refine SR 25 (decide (s.st > (2 : Int))) false (decide_eq_false (by omega)) ?_
    refine RR [5] (.d (.d (.d (.d (.d .a))))) (.i 30 (.bool (decide (s.fa < (0 : Int)))) (.d (.d (.k .a)))) .a ?_
    refine SR 30 (decide (s.fa < (0 : Int))) false (decide_eq_false (by omega)) ?_
    refine RR [5] (.d (.d (.d (.d (.d .a))))) (.i 35 (.bool (decide (s.fa > (10 : Int)))) (.d (.d (.k .a)))) .a ?_
    refine SR 35 (decide (s.fa > (10 : Int))) false (decide_eq_false (by omega)) ?_
    refine RR [5] (.d (.d (.d (.d (.d (.d .a)))))) (.i 41 (.bool (decide ((↑s.cl.length : Int) > (64 : Int)))) (.d (.d (.k .a)))) .a ?_
    refine SR 41 (decide ((↑s.cl.length : Int) > (64 : Int))) false (decide_eq_false (by omega)) ?_
    refine RR [5] .z (.i 46 (.bool (decide ((↑s.out.length : Int) > (4096 : Int)))) (.d (.d (.k .a)))) .a ?_
    refine RZ (NT ?_)
    refine SC 46 (decide ((↑s.out.length : Int) > (4096 : Int))) false (decide_eq_false (by omega)) ?_
    refine CF (SK (NT (SQ (SQ (RG ?_)))))
    refine RR [5] (.d (.d .a)) (.i 49 (.slice s.ha s.hl.length s.hc) (.d (.d (.k .a)))) .a ?_
    refine RCG (dst := some 50) .a (hLd) (GV (GV (GV (GI []) 4 view_ro) 3 view_self) 2 view_ro) ?_
    intro r hp' hr
    have hok : okObs s.hl.length s.hl = (s.hl.map Ob.o).all (fun o => objB (s.hl.map Ob.o).length o.1 o.2) := by
      unfold okObs; rw [List.length_map, List.all_map]; rfl
    by_cases h1 : okObs s.hl.length s.hl = false
    · rw [if_pos h1] at hr
      obtain ⟨rfl, rfl⟩ := hr
      rw [show mayB s.p = false from by unfold mayB heapOk; rw [show s.p.L = s.hl.map Ob.o from rfl, ← hok, h1]; simp]
      refine RR [] .z (.i 4 (.int .i64 2) (.d (.d (.k .a)))) .a ?_
      refine RZ (NT (SQ (RG ?_)))
      refine RR [] .z (.i 54 (.bool true) (.d (.k .a))) .a ?_
      refine RZ (NT (CT (SQ (RG ?_))))
      refine RR [] .z (.i 2 (.int .i64 2) (.d (.d (.k .a)))) .a ?_
      refine RZ (NT (RE (TR ?_)))
      refine NE [] .z .a [] (.int .i64 2) ?_
      exact ⟨rfl, rfl⟩
    by_cases h2 : ¬ (usedN (s.hl.map Ob.n) : Int) ≤ mostI 4096
    · rw [if_neg h1, if_neg h2] at hr
      obtain ⟨rfl, rfl⟩ := hr
      rw [show mayB s.p = false from by
        unfold mayB heapOk
        rw [show s.p.L = s.hl.map Ob.o from rfl, decide_eq_false (p := usedO (s.hl.map Ob.o) ≤ 4096) (by rw [← usedO_eq]; intro h; exact h2 (by show _ ≤ (4096 : Int); omega))]
        simp]
      refine RR [] .z (.i 4 (.int .i64 12) (.d (.d (.k .a)))) .a ?_
      refine RZ (NT (SQ (RG ?_)))
      refine RR [] .z (.i 54 (.bool true) (.d (.k .a))) .a ?_
      refine RZ (NT (CT (SQ (RG ?_))))
      refine RR [] .z (.i 2 (.int .i64 2) (.d (.d (.k .a)))) .a ?_
      refine RZ (NT (RE (TR ?_)))
      refine NE [] .z .a [] (.int .i64 2) ?_
      exact ⟨rfl, rfl⟩
    rw [Decidable.not_not] at h2
    rw [if_neg h1, if_pos h2] at hr
    obtain ⟨g, a1, c1, l1, hm1, rfl, rfl⟩ := hr
    have hhp : heapOk s.p.L = true := by
      unfold heapOk
      rw [show s.p.L = s.hl.map Ob.o from rfl, ← hok, decide_eq_true (p := usedO (s.hl.map Ob.o) ≤ 4096) (by rw [← usedO_eq]; have h3 : (usedN (s.hl.map Ob.n) : Int) ≤ 4096 := h2; omega)]
      cases h4 : okObs s.hl.length s.hl with
      | false => exact absurd h4 h1
      | true => rfl
    have hmay : mayB s.p = s.p.C.all (callB s.p.L.length) := by unfold mayB; rw [hH, hhp]; rfl
    rw [hmay]
    have hn : s.p.L.length = s.hl.length := List.length_map ..
    rw [hn]
    refine RR [] .z (.i 4 (.int .i64 0) (.d (.d (.k .a)))) (.i (.blk g 59 [.bool true, .int .i64 4096, .int .i64 (↑(usedN (List.map Ob.n l1)) : Int), .slice a1 l1.length c1]) (.d (.k .a))) ?_
    refine RZ (NT (SQ (RG ?_)))
    refine RR [] .z (.i 54 (.bool false) (.d (.k .a))) .a ?_
    refine RZ (NT (CF (SK (NT (SQ (SQ (RG ?_)))))))
    refine RR [8] .z (.i 58 (.int .i64 0) (.i 57 (.int .i64 (↑s.cl.length : Int)) (.i 56 (.slice s.ca s.cl.length s.cc) (.d (.k .a))))) .a ?_
    refine RZ (NT (BK ?_))
    refine wpc_loop (X := {i : Nat // ∃ h : i ≤ s.cl.length, ∀ j, (hj : j < i) → callB s.hl.length (s.cl[j]'(by omega)).p = true}) (fun x => St.mk [(58, .int .i64 (x.1 : Int)), (57, .int .i64 s.cl.length), (56, .slice s.ca s.cl.length s.cc), (2, .int .i64 0), (1, .pointer (some ⟨g1, 0, none⟩))]
      [ro s.ca (s.cl.flatMap clC), gCl s.cl, .blk g1 75 [.int .i64 s.pos, .int .i64 s.st, .int .i64 s.fa, .slice s.ca s.cl.length s.cc, .slice s.ha s.hl.length s.hc, .string (mkS s.out), .int .i64 s.rd]]) (fun x => s.cl.length - x.1) ⟨0, Nat.zero_le _, fun j h => absurd h (Nat.not_lt_zero _)⟩ ?_ ?_
    · exact Ent.trans (ent_hp [3, 3, 6] rfl) (ent_fr (by kernel_rfl))
    rintro ⟨i, hi, hall⟩
    dsimp only at hi hall ⊢
    by_cases hlt : i < s.cl.length
    · have hno : callB s.hl.length s.cl[i].p = false → s.p.C.all (callB s.hl.length) = false := fun hob => by
        cases h : s.p.C.all (callB s.hl.length) with
        | false => rfl
        | true =>
          have h2 := List.all_eq_true.1 h s.cl[i].p (List.mem_map.2 ⟨_, List.getElem_mem hlt, rfl⟩)
          rw [hob] at h2; cases h2
      obtain ⟨⟨u1, u2⟩, ⟨t1, t2⟩, ⟨m1, m2⟩, x1, x2, x3, x4⟩ := hc2 _ (List.getElem_mem hlt)
      refine wpc_fact (fun w h => ro_addr h 0 rfl (by rw [cls_len]; omega)) ?_
      rintro ⟨g0, o0, hca⟩
      rw [hca]
      refine SQ (RG ?_)
      refine RR [] .z (.i 59 (.bool (decide ((↑i : Int) < (↑s.cl.length : Int)))) .a) .a ?_
      refine RZ (NT (SQ ?_))
      refine SC 59 (decide ((↑i : Int) < (↑s.cl.length : Int))) true (decide_eq_true (by omega)) ?_
      refine CT (SK (NT (SQ (BK (SQ (RG ?_))))))
      refine RV true [] (.d .a) (.i 60 (.pointer (some ⟨g0, o0 + i * 5, none⟩)) (.d (.d (.k .a)))) .a [(0 : Int) ≤ (↑i : Int) ∧ (↑i : Int) < (↑s.cl.length : Int)] ⟨by omega, trivial⟩ ?_
      refine wpr_eq (ld (t := 124) (a := ⟨g0, o0 + i * 5, none⟩) (dst := some 61) (by kernel_rfl) true 5 (by kernel_rfl) (by simp) (clC s.cl[i]) rfl (fun w h => ld_ro h 0 rfl (i * 5) (cls_at hlt))) ?_
      by_cases k0 : ¬ 0 ≤ s.cl[i].u
      · rw [hno (by unfold callB Cl.p; dsimp only; rw [decide_eq_false k0]; simp)]
        refine RP [] (.d .a) 6 (.i 61 (.agg #[.int .i64 s.cl[i].u, .int .i64 s.cl[i].t, .int .i64 s.cl[i].m, .slice s.cl[i].sa s.cl[i].slots.length s.cl[i].sc, .slice s.cl[i].ta s.cl[i].stack.length s.cl[i].tc]) (.d (.d (.k .a)))) .a 124 [.int .i64 0, .int .i64 0, .int .i64 0, .slice none 0 0, .slice none 0 0] fun g2 => ?_
        refine RR [3, 3, 3, 3, 3] .z (.k (.d (.k .a))) (.k (.k (.k (.u (.i (.int .i64 s.cl[i].u) (.i (.int .i64 s.cl[i].t) (.i (.int .i64 s.cl[i].m) (.i (.slice s.cl[i].sa s.cl[i].slots.length s.cl[i].sc) (.i (.slice s.cl[i].ta s.cl[i].stack.length s.cl[i].tc) .z))))) .a)))) ?_
        refine RZ (NT (SQ (RG ?_)))
        refine RR [3] (.d (.d (.d (.d .a)))) (.i 65 (.bool (decide (s.cl[i].u < (0 : Int)))) .a) .a ?_
        refine SR 65 (decide (s.cl[i].u < (0 : Int))) true (decide_eq_true (by omega)) ?_
        refine RR [] .z (.i 104 (.bool true) (.d (.d (.d (.k .a))))) .a ?_
        refine RZ (NT (CT (SQ (RG ?_))))
        refine RR [] .z (.i 2 (.int .i64 2) (.d (.k (.k (.k (.d (.k .a))))))) .a ?_
        refine RZ (NT (RE (BR (TR (TR (BR (TR ?_)))))))
        refine NE [] .z .a [] (.int .i64 2) ?_
        exact ⟨rfl, rfl⟩
      rw [Decidable.not_not] at k0
      by_cases k1 : ¬ 0 ≤ s.cl[i].t
      · rw [hno (by unfold callB Cl.p; dsimp only; rw [decide_eq_false k1]; simp)]
        refine RP [] (.d .a) 6 (.i 61 (.agg #[.int .i64 s.cl[i].u, .int .i64 s.cl[i].t, .int .i64 s.cl[i].m, .slice s.cl[i].sa s.cl[i].slots.length s.cl[i].sc, .slice s.cl[i].ta s.cl[i].stack.length s.cl[i].tc]) (.d (.d (.k .a)))) .a 124 [.int .i64 0, .int .i64 0, .int .i64 0, .slice none 0 0, .slice none 0 0] fun g2 => ?_
        refine RR [3, 3, 3, 3, 3] .z (.k (.d (.k .a))) (.k (.k (.k (.u (.i (.int .i64 s.cl[i].u) (.i (.int .i64 s.cl[i].t) (.i (.int .i64 s.cl[i].m) (.i (.slice s.cl[i].sa s.cl[i].slots.length s.cl[i].sc) (.i (.slice s.cl[i].ta s.cl[i].stack.length s.cl[i].tc) .z))))) .a)))) ?_
        refine RZ (NT (SQ (RG ?_)))
        refine RR [3] (.d (.d (.d (.d .a)))) (.i 65 (.bool (decide (s.cl[i].u < (0 : Int)))) .a) .a ?_
        refine SR 65 (decide (s.cl[i].u < (0 : Int))) false (decide_eq_false (by omega)) ?_
        refine RR [3] (.d (.d (.d (.d (.d .a))))) (.i 70 (.bool (decide (s.cl[i].t < (0 : Int)))) (.d (.d (.k .a)))) .a ?_
        refine SR 70 (decide (s.cl[i].t < (0 : Int))) true (decide_eq_true (by omega)) ?_
        refine RR [] .z (.i 104 (.bool true) (.d (.d (.d (.k .a))))) .a ?_
        refine RZ (NT (CT (SQ (RG ?_))))
        refine RR [] .z (.i 2 (.int .i64 2) (.d (.k (.k (.k (.d (.k .a))))))) .a ?_
        refine RZ (NT (RE (BR (TR (TR (BR (TR ?_)))))))
        refine NE [] .z .a [] (.int .i64 2) ?_
        exact ⟨rfl, rfl⟩
      rw [Decidable.not_not] at k1
      by_cases k2 : ¬ -1 ≤ s.cl[i].m
      · rw [hno (by unfold callB Cl.p; dsimp only; rw [decide_eq_false k2]; simp)]
        refine RP [] (.d .a) 6 (.i 61 (.agg #[.int .i64 s.cl[i].u, .int .i64 s.cl[i].t, .int .i64 s.cl[i].m, .slice s.cl[i].sa s.cl[i].slots.length s.cl[i].sc, .slice s.cl[i].ta s.cl[i].stack.length s.cl[i].tc]) (.d (.d (.k .a)))) .a 124 [.int .i64 0, .int .i64 0, .int .i64 0, .slice none 0 0, .slice none 0 0] fun g2 => ?_
        refine RR [3, 3, 3, 3, 3] .z (.k (.d (.k .a))) (.k (.k (.k (.u (.i (.int .i64 s.cl[i].u) (.i (.int .i64 s.cl[i].t) (.i (.int .i64 s.cl[i].m) (.i (.slice s.cl[i].sa s.cl[i].slots.length s.cl[i].sc) (.i (.slice s.cl[i].ta s.cl[i].stack.length s.cl[i].tc) .z))))) .a)))) ?_
        refine RZ (NT (SQ (RG ?_)))
        refine RR [3] (.d (.d (.d (.d .a)))) (.i 65 (.bool (decide (s.cl[i].u < (0 : Int)))) .a) .a ?_
        refine SR 65 (decide (s.cl[i].u < (0 : Int))) false (decide_eq_false (by omega)) ?_
        refine RR [3] (.d (.d (.d (.d (.d .a))))) (.i 70 (.bool (decide (s.cl[i].t < (0 : Int)))) (.d (.d (.k .a)))) .a ?_
        refine SR 70 (decide (s.cl[i].t < (0 : Int))) false (decide_eq_false (by omega)) ?_
        refine RR [3] (.d (.d (.d (.d (.d .a))))) (.i 75 (.bool (decide (s.cl[i].m < (-1 : Int)))) (.d (.d (.k .a)))) .a ?_
        refine SR 75 (decide (s.cl[i].m < (-1 : Int))) true (decide_eq_true (by omega)) ?_
        refine RR [] .z (.i 104 (.bool true) (.d (.d (.d (.k .a))))) .a ?_
        refine RZ (NT (CT (SQ (RG ?_))))
        refine RR [] .z (.i 2 (.int .i64 2) (.d (.k (.k (.k (.d (.k .a))))))) .a ?_
        refine RZ (NT (RE (BR (TR (TR (BR (TR ?_)))))))
        refine NE [] .z .a [] (.int .i64 2) ?_
        exact ⟨rfl, rfl⟩
      rw [Decidable.not_not] at k2
      by_cases k3 : ¬ s.cl[i].slots.length ≤ 32
      · rw [hno (by unfold callB Cl.p; dsimp only; rw [decide_eq_false k3]; simp)]
        refine RP [] (.d .a) 6 (.i 61 (.agg #[.int .i64 s.cl[i].u, .int .i64 s.cl[i].t, .int .i64 s.cl[i].m, .slice s.cl[i].sa s.cl[i].slots.length s.cl[i].sc, .slice s.cl[i].ta s.cl[i].stack.length s.cl[i].tc]) (.d (.d (.k .a)))) .a 124 [.int .i64 0, .int .i64 0, .int .i64 0, .slice none 0 0, .slice none 0 0] fun g2 => ?_
        refine RR [3, 3, 3, 3, 3] .z (.k (.d (.k .a))) (.k (.k (.k (.u (.i (.int .i64 s.cl[i].u) (.i (.int .i64 s.cl[i].t) (.i (.int .i64 s.cl[i].m) (.i (.slice s.cl[i].sa s.cl[i].slots.length s.cl[i].sc) (.i (.slice s.cl[i].ta s.cl[i].stack.length s.cl[i].tc) .z))))) .a)))) ?_
        refine RZ (NT (SQ (RG ?_)))
        refine RR [3] (.d (.d (.d (.d .a)))) (.i 65 (.bool (decide (s.cl[i].u < (0 : Int)))) .a) .a ?_
        refine SR 65 (decide (s.cl[i].u < (0 : Int))) false (decide_eq_false (by omega)) ?_
        refine RR [3] (.d (.d (.d (.d (.d .a))))) (.i 70 (.bool (decide (s.cl[i].t < (0 : Int)))) (.d (.d (.k .a)))) .a ?_
        refine SR 70 (decide (s.cl[i].t < (0 : Int))) false (decide_eq_false (by omega)) ?_
        refine RR [3] (.d (.d (.d (.d (.d .a))))) (.i 75 (.bool (decide (s.cl[i].m < (-1 : Int)))) (.d (.d (.k .a)))) .a ?_
        refine SR 75 (decide (s.cl[i].m < (-1 : Int))) false (decide_eq_false (by omega)) ?_
        refine RR [3] (.d (.d (.d (.d (.d (.d .a)))))) (.i 81 (.bool (decide ((↑s.cl[i].slots.length : Int) > (32 : Int)))) (.d (.d (.k .a)))) .a ?_
        refine SR 81 (decide ((↑s.cl[i].slots.length : Int) > (32 : Int))) true (decide_eq_true (by omega)) ?_
        refine RR [] .z (.i 104 (.bool true) (.d (.d (.d (.k .a))))) .a ?_
        refine RZ (NT (CT (SQ (RG ?_))))
        refine RR [] .z (.i 2 (.int .i64 2) (.d (.k (.k (.k (.d (.k .a))))))) .a ?_
        refine RZ (NT (RE (BR (TR (TR (BR (TR ?_)))))))
        refine NE [] .z .a [] (.int .i64 2) ?_
        exact ⟨rfl, rfl⟩
      rw [Decidable.not_not] at k3
      by_cases k4 : ¬ s.cl[i].stack.length ≤ 256
      · rw [hno (by unfold callB Cl.p; dsimp only; rw [decide_eq_false k4]; simp)]
        refine RP [] (.d .a) 6 (.i 61 (.agg #[.int .i64 s.cl[i].u, .int .i64 s.cl[i].t, .int .i64 s.cl[i].m, .slice s.cl[i].sa s.cl[i].slots.length s.cl[i].sc, .slice s.cl[i].ta s.cl[i].stack.length s.cl[i].tc]) (.d (.d (.k .a)))) .a 124 [.int .i64 0, .int .i64 0, .int .i64 0, .slice none 0 0, .slice none 0 0] fun g2 => ?_
        refine RR [3, 3, 3, 3, 3] .z (.k (.d (.k .a))) (.k (.k (.k (.u (.i (.int .i64 s.cl[i].u) (.i (.int .i64 s.cl[i].t) (.i (.int .i64 s.cl[i].m) (.i (.slice s.cl[i].sa s.cl[i].slots.length s.cl[i].sc) (.i (.slice s.cl[i].ta s.cl[i].stack.length s.cl[i].tc) .z))))) .a)))) ?_
        refine RZ (NT (SQ (RG ?_)))
        refine RR [3] (.d (.d (.d (.d .a)))) (.i 65 (.bool (decide (s.cl[i].u < (0 : Int)))) .a) .a ?_
        refine SR 65 (decide (s.cl[i].u < (0 : Int))) false (decide_eq_false (by omega)) ?_
        refine RR [3] (.d (.d (.d (.d (.d .a))))) (.i 70 (.bool (decide (s.cl[i].t < (0 : Int)))) (.d (.d (.k .a)))) .a ?_
        refine SR 70 (decide (s.cl[i].t < (0 : Int))) false (decide_eq_false (by omega)) ?_
        refine RR [3] (.d (.d (.d (.d (.d .a))))) (.i 75 (.bool (decide (s.cl[i].m < (-1 : Int)))) (.d (.d (.k .a)))) .a ?_
        refine SR 75 (decide (s.cl[i].m < (-1 : Int))) false (decide_eq_false (by omega)) ?_
        refine RR [3] (.d (.d (.d (.d (.d (.d .a)))))) (.i 81 (.bool (decide ((↑s.cl[i].slots.length : Int) > (32 : Int)))) (.d (.d (.k .a)))) .a ?_
        refine SR 81 (decide ((↑s.cl[i].slots.length : Int) > (32 : Int))) false (decide_eq_false (by omega)) ?_
        refine RR [3] (.d (.d (.d (.d (.d (.d .a)))))) (.i 87 (.bool (decide ((↑s.cl[i].stack.length : Int) > (256 : Int)))) (.d (.d (.k .a)))) .a ?_
        refine SR 87 (decide ((↑s.cl[i].stack.length : Int) > (256 : Int))) true (decide_eq_true (by omega)) ?_
        refine RR [] .z (.i 104 (.bool true) (.d (.d (.d (.k .a))))) .a ?_
        refine RZ (NT (CT (SQ (RG ?_))))
        refine RR [] .z (.i 2 (.int .i64 2) (.d (.k (.k (.k (.d (.k .a))))))) .a ?_
        refine RZ (NT (RE (BR (TR (TR (BR (TR ?_)))))))
        refine NE [] .z .a [] (.int .i64 2) ?_
        exact ⟨rfl, rfl⟩
      rw [Decidable.not_not] at k4
      refine RP [] (.d .a) 6 (.i 61 (.agg #[.int .i64 s.cl[i].u, .int .i64 s.cl[i].t, .int .i64 s.cl[i].m, .slice s.cl[i].sa s.cl[i].slots.length s.cl[i].sc, .slice s.cl[i].ta s.cl[i].stack.length s.cl[i].tc]) (.d (.d (.k .a)))) .a 124 [.int .i64 0, .int .i64 0, .int .i64 0, .slice none 0 0, .slice none 0 0] fun g2 => ?_
      refine RR [3, 3, 3, 3, 3] .z (.k (.d (.k .a))) (.k (.k (.k (.u (.i (.int .i64 s.cl[i].u) (.i (.int .i64 s.cl[i].t) (.i (.int .i64 s.cl[i].m) (.i (.slice s.cl[i].sa s.cl[i].slots.length s.cl[i].sc) (.i (.slice s.cl[i].ta s.cl[i].stack.length s.cl[i].tc) .z))))) .a)))) ?_
      refine RZ (NT (SQ (RG ?_)))
      refine RR [3] (.d (.d (.d (.d .a)))) (.i 65 (.bool (decide (s.cl[i].u < (0 : Int)))) .a) .a ?_
      refine SR 65 (decide (s.cl[i].u < (0 : Int))) false (decide_eq_false (by omega)) ?_
      refine RR [3] (.d (.d (.d (.d (.d .a))))) (.i 70 (.bool (decide (s.cl[i].t < (0 : Int)))) (.d (.d (.k .a)))) .a ?_
      refine SR 70 (decide (s.cl[i].t < (0 : Int))) false (decide_eq_false (by omega)) ?_
      refine RR [3] (.d (.d (.d (.d (.d .a))))) (.i 75 (.bool (decide (s.cl[i].m < (-1 : Int)))) (.d (.d (.k .a)))) .a ?_
      refine SR 75 (decide (s.cl[i].m < (-1 : Int))) false (decide_eq_false (by omega)) ?_
      refine RR [3] (.d (.d (.d (.d (.d (.d .a)))))) (.i 81 (.bool (decide ((↑s.cl[i].slots.length : Int) > (32 : Int)))) (.d (.d (.k .a)))) .a ?_
      refine SR 81 (decide ((↑s.cl[i].slots.length : Int) > (32 : Int))) false (decide_eq_false (by omega)) ?_
      refine RR [3] (.d (.d (.d (.d (.d (.d .a)))))) (.i 87 (.bool (decide ((↑s.cl[i].stack.length : Int) > (256 : Int)))) (.d (.d (.k .a)))) .a ?_
      refine SR 87 (decide ((↑s.cl[i].stack.length : Int) > (256 : Int))) false (decide_eq_false (by omega)) ?_
      refine RR [3, 2] (.d (.d (.d (.d (.d .a))))) (.i 92 (.int .i64 (↑s.hl.length : Int)) (.i 89 (.slice s.cl[i].sa s.cl[i].slots.length s.cl[i].sc) (.k (.d (.k .a))))) .a ?_
      refine wpr_ent (ent_copy 1 (ro s.cl[i].sa (s.cl[i].slots.flatMap valC)) rfl (fun h => h) (view_in (clRo_in1 hlt) view_ro)) ?_
      refine wpr_ent (ent_copy 2 (ro s.cl[i].ta (s.cl[i].stack.flatMap valC)) rfl (fun h => h) (view_in (clRo_in2 hlt) view_ro)) ?_
      refine RCG (dst := some 93) .a (snapRight_spec s.cl[i].sa s.cl[i].sc s.cl[i].slots s.hl.length x1 (fun v hv => vsm (x3 v hv))) (GV (GI []) 1 view_ro) ?_
      rintro r _ ⟨rfl, rfl⟩
      cases hr1 : s.cl[i].slots.all (rB s.hl.length) with
      | false =>
        rw [hno (by unfold callB Cl.p; dsimp only; rw [hr1]; simp)]
        refine RR [] .z (.i 104 (.bool true) (.d (.d (.d (.d (.d (.k .a))))))) .a ?_
        refine RZ (NT (CT (SQ (RG ?_))))
        refine RR [] .z (.i 2 (.int .i64 2) (.d (.k (.k (.k (.d (.k .a))))))) .a ?_
        refine RZ (NT (RE (BR (TR (TR (BR (TR ?_)))))))
        refine NE [] .z .a [] (.int .i64 2) ?_
        exact ⟨rfl, rfl⟩
      | true =>
      refine RR [5, 4] (.d (.d (.d (.d (.d (.d (.d (.d .a)))))))) (.i 101 (.int .i64 (↑s.hl.length : Int)) (.i 98 (.slice s.cl[i].ta s.cl[i].stack.length s.cl[i].tc) (.i 96 (.bool false) (.d (.d (.d (.d (.d (.k .a))))))))) .a ?_
      refine RCG (dst := some 102) .a (snapRight_spec s.cl[i].ta s.cl[i].tc s.cl[i].stack s.hl.length x2 (fun v hv => vsm (x4 v hv))) (GV (GI []) 0 view_ro) ?_
      rintro r _ ⟨rfl, rfl⟩
      cases hr2 : s.cl[i].stack.all (rB s.hl.length) with
      | false =>
        rw [hno (by unfold callB Cl.p; dsimp only; rw [hr2]; simp)]
        refine RR [] .z (.i 104 (.bool true) (.d (.d (.d (.d (.k .a)))))) .a ?_
        refine RZ (NT (CT (SQ (RG ?_))))
        refine RR [] .z (.i 2 (.int .i64 2) (.d (.k (.k (.k (.d (.k .a))))))) .a ?_
        refine RZ (NT (RE (BR (TR (TR (BR (TR ?_)))))))
        refine NE [] .z .a [] (.int .i64 2) ?_
        exact ⟨rfl, rfl⟩
      | true =>
      refine RR [] .z (.i 104 (.bool false) (.d (.d (.d (.d (.k .a)))))) .a ?_
      refine RZ (NT (CF (SK (BN (NT (RG ?_))))))
      refine RV true [] .z (.i 58 (.int .i64 ((↑i : Int) + 1)) (.d (.d (.k .a)))) .a ([inI64 ((↑i : Int) + (1 : Int))]) ⟨by unfold inI64; omega, trivial⟩ ?_
      refine RZ ?_
      rw [← hca]
      exact fun a' w' hS' => ⟨⟨i + 1, hlt, fun j hj => by
              rcases Nat.lt_or_ge j i with h | h
              · exact hall j h
              · obtain rfl : j = i := by omega
                unfold callB Cl.p; dsimp only
                rw [decide_eq_true k0, decide_eq_true k1, decide_eq_true k2, decide_eq_true k3, decide_eq_true k4, hr1, hr2]; rfl⟩, by dsimp only; omega, ent_fr (by kernel_rfl) _ _ (ent_hp [2, 2, 2] rfl _ _ hS')⟩
    · have hok2 : s.p.C.all (callB s.hl.length) = true := List.all_eq_true.2 fun x hx => by
        obtain ⟨y, hy, rfl⟩ := List.mem_map.1 hx
        obtain ⟨j, hj⟩ := List.getElem?_of_mem hy
        obtain ⟨hj1, rfl⟩ := List.getElem?_eq_some_iff.1 hj
        exact hall j (by omega)
      rw [hok2]
      refine SQ (RG ?_)
      refine RR [] .z (.i 59 (.bool (decide ((↑i : Int) < (↑s.cl.length : Int)))) .a) .a ?_
      refine RZ (NT (SQ ?_))
      refine SC 59 (decide ((↑i : Int) < (↑s.cl.length : Int))) false (decide_eq_false (by omega)) ?_
      refine CF (EX (TE (TE (BH (NT (SQ (RG ?_)))))))
      refine RR [] .z (.d (.d (.d (.d (.d (.k .z)))))) .a ?_
      refine RZ (NT (RE ?_))
      refine NE [] .z .a [] (.int .i64 0) ?_
      exact ⟨rfl, rfl⟩
end Go.Proofs.YtpfhleghgkeemaaGreatDoor
namespace Go.Proofs.YtpfhleghgkeemaaGreatDoor
open Go Go.Sx
def encS (s : SP) : List UInt8 := [s.pos, s.st, s.fa, s.rd].flatMap encI ++ encT s.out ++ encCs s.C ++ encOs s.L
set_option maxHeartbeats 8000000 in
theorem snapBytes_spec (s : Sv) (hs : s.ok) (hB : (encS s.p).length ≤ 549755813888) : Does Tryz.prog 40 [.agg (svC s).toArray] [ro s.ca (s.cl.flatMap clC), gCl s.cl, ro s.ha (s.hl.flatMap objC), gBag s.hl, gWords]
    (fun r hp' => if mayB s.p then ∃ a' c', r = .tuple #[.slice a' (encS s.p).length c', .int .i64 0] ∧ hp' = [row 5 1 a' (encS s.p).length c' (u8s (encS s.p))] else r = .tuple #[.slice none 0 0, .int .i64 2] ∧ hp' = []) := by
  have hCk := snapCheck_spec s hs
  obtain ⟨⟨p1, p2⟩, ⟨s1, s2⟩, ⟨f1, f2⟩, ⟨r1, r2⟩, hc1, hc2, hh1, hh2, hh3, ho, hu⟩ := hs
  have hEl : (encS s.p).length = (encI s.pos).length + (encI s.st).length + (encI s.fa).length + (encI s.rd).length + (encT s.out).length + (encCs (s.cl.map Cl.p)).length + (encOs (s.hl.map Ob.o)).length := by
    unfold encS Sv.p; simp only [List.length_append, List.flatMap_cons, List.flatMap_nil, List.length_nil]; omega
  unfold svC at hCk ⊢
  refine fn_enter Tryz.func40 rfl 40 rfl fun w0 h0 => ?_
  refine SQ (RG ?_)
  refine RP [] (.d .a) 1 .z .a 75 [.int .i64 s.pos, .int .i64 s.st, .int .i64 s.fa, .slice s.ca s.cl.length s.cc, .slice s.ha s.hl.length s.hc, .string (mkS s.out), .int .i64 s.rd] fun g1 => ?_
  refine RR [] .z (.i 3 (.int .i64 0) (.i 2 (.slice none 0 0) .a)) .a ?_
  refine RZ (NT (SQ (SQ (RG ?_))))
  refine RR [5, 5, 5, 5, 5, 5, 5] (.d .a) (.i 8 (.agg #[.int .i64 s.pos, .int .i64 s.st, .int .i64 s.fa, .slice s.ca s.cl.length s.cc, .slice s.ha s.hl.length s.hc, .string (mkS s.out), .int .i64 s.rd]) .a) .a ?_
  refine RCG (dst := some 9) .a (hCk) (GV (GV (GV (GV (GV (GI []) 4 view_ro) 3 view_self) 2 view_ro) 1 view_self) 0 view_ro) ?_
  rintro r _ ⟨rfl, rfl⟩
  cases hm : mayB s.p with
  | false =>
    refine RR [] .z (.i 4 (.int .i64 2) (.d (.d (.k .a)))) .a ?_
    refine RZ (NT (SQ (RG ?_)))
    refine RR [] .z (.i 11 (.bool true) .a) .a ?_
    refine RZ (NT (CT (SQ (RG ?_))))
    refine RR [] .z (.i 3 (.int .i64 2) (.d (.d (.d (.k .a))))) .a ?_
    refine RZ (NT (RE (TR ?_)))
    refine NE [] .z .a [] (.tuple #[.slice none 0 0, .int .i64 2]) ?_
    exact ⟨rfl, rfl⟩
  | true =>
    refine RR [] .z (.i 4 (.int .i64 0) (.d (.d (.k .a)))) .a ?_
    refine RZ (NT (SQ (RG ?_)))
    refine RR [] .z (.i 11 (.bool false) .a) .a ?_
    refine RZ (NT (CF (SK (NT (SQ (RG ?_))))))
    refine RR [] .z (.i 5 (.slice none 0 0) (.d (.d (.k .a)))) .a ?_
    refine RZ (NT (SQ (SQ (RG ?_))))
    refine RR [5, 5, 5, 5] .z (.i 22 (.int .i64 0) (.i 21 (.agg #[.int .i64 s.pos, .int .i64 s.st, .int .i64 s.fa, .int .i64 s.rd]) .a)) .a ?_
    refine RZ (NT (BK ?_))
    refine wpc_loop (X := {y : Nat × Option Addr × Nat // y.1 ≤ 4}) (fun y => St.mk [(22, .int .i64 (y.1.1 : Int)), (21, .agg #[.int .i64 s.pos, .int .i64 s.st, .int .i64 s.fa, .int .i64 s.rd]), (5, .slice y.1.2.1 (([s.pos, s.st, s.fa, s.rd].take y.1.1).flatMap encI).length y.1.2.2), (3, .int .i64 0), (2, .slice none 0 0), (1, .pointer (some ⟨g1, 0, none⟩))]
      [row 5 1 y.1.2.1 (([s.pos, s.st, s.fa, s.rd].take y.1.1).flatMap encI).length y.1.2.2 (u8s (([s.pos, s.st, s.fa, s.rd].take y.1.1).flatMap encI)), ro s.ca (s.cl.flatMap clC), gCl s.cl, ro s.ha (s.hl.flatMap objC), gBag s.hl, .blk g1 75 [.int .i64 s.pos, .int .i64 s.st, .int .i64 s.fa, .slice s.ca s.cl.length s.cc, .slice s.ha s.hl.length s.hc, .string (mkS s.out), .int .i64 s.rd]]) (fun y => 4 - y.1.1) ⟨(0, none, 0), Nat.zero_le _⟩ ?_ ?_
    · exact Ent.trans (ent_nil 5 1) (Ent.trans (ent_hp [0, 0, 0, 0, 0, 1] rfl) (ent_fr (by kernel_rfl)))
    rintro ⟨⟨i, a1, c1⟩, hi⟩
    dsimp only at hi ⊢
    obtain rfl | rfl | rfl | rfl | rfl : i = 0 ∨ i = 1 ∨ i = 2 ∨ i = 3 ∨ i = 4 := by omega
    · refine SQ (RG ?_)
      refine RR [] .z (.i 23 (.bool true) (.i 22 (.int .i64 0) (.d (.k (.i 5 (.slice a1 0 c1) (.d (.k .a))))))) (.i (row 5 1 a1 0 c1 (u8s (List.flatMap encI (List.take 0 [s.pos, s.st, s.fa, s.rd])))) (.d (.k .a))) ?_
      refine RZ (NT (SQ (CT (SK (NT (SQ (BK (SQ (RG ?_)))))))))
      refine RR [] .z (.i 7 (.int .i64 s.pos) (.d (.k .a))) .a ?_
      refine RZ (NT (RG ?_))
      refine RR [] (.d (.d .a)) (.i 26 (.int .i64 s.pos) (.i 25 (.slice a1 0 c1) (.d (.k .a)))) .a ?_
      refine RC (dst := some 27) [0] (.d (.k .a)) (PutInt_spec a1 c1 (([s.pos, s.st, s.fa, s.rd].take 0).flatMap encI) s.pos p1 p2 (by simp only [List.length_append, List.take_succ_cons, List.take_zero, List.take_nil, List.flatMap_cons, List.flatMap_nil, List.length_nil]; omega)) ?_
      rintro r _ ⟨a2, c2, rfl, rfl⟩
      rw [show ([s.pos, s.st, s.fa, s.rd].take 0).flatMap encI ++ encI s.pos = ([s.pos, s.st, s.fa, s.rd].take (0 + 1)).flatMap encI from by simp]
      refine RR [] .z (.i 5 (.slice a2 (List.flatMap encI (List.take 1 [s.pos, s.st, s.fa, s.rd])).length c2) (.d (.d (.d (.k (.k (.d (.k .a)))))))) .a ?_
      refine RZ (BN (NT (RG ?_)))
      refine RV true [] .z (.i 22 (.int .i64 1) (.k (.d (.k .a)))) .a ([inI64 ((0 : Int) + (1 : Int))]) ⟨by unfold inI64; omega, trivial⟩ ?_
      refine RZ ?_
      exact fun a' w' hS' => ⟨⟨(0 + 1, a2, c2), by dsimp only; omega⟩, by dsimp only; omega, ent_fr (by kernel_rfl) _ _ (ent_hp [0, 0, 0, 0, 0, 0] rfl _ _ hS')⟩
    · refine SQ (RG ?_)
      refine RR [] .z (.i 23 (.bool true) (.i 22 (.int .i64 1) (.d (.k .a)))) .a ?_
      refine RZ (NT (SQ (CT (SK (NT (SQ (BK (SQ (RG ?_)))))))))
      refine RR [] .z (.i 7 (.int .i64 s.st) (.d (.k .a))) .a ?_
      refine RZ (NT (RG ?_))
      refine RR [] (.d (.d .a)) (.i 26 (.int .i64 s.st) (.i 25 (.slice a1 (List.flatMap encI (List.take 1 [s.pos, s.st, s.fa, s.rd])).length c1) (.d (.k .a)))) .a ?_
      refine RC (dst := some 27) [0] (.d (.k .a)) (PutInt_spec a1 c1 (([s.pos, s.st, s.fa, s.rd].take 1).flatMap encI) s.st s1 s2 (by simp only [List.length_append, List.take_succ_cons, List.take_zero, List.take_nil, List.flatMap_cons, List.flatMap_nil, List.length_nil]; omega)) ?_
      rintro r _ ⟨a2, c2, rfl, rfl⟩
      rw [show ([s.pos, s.st, s.fa, s.rd].take 1).flatMap encI ++ encI s.st = ([s.pos, s.st, s.fa, s.rd].take (1 + 1)).flatMap encI from by simp]
      refine RR [] .z (.i 5 (.slice a2 (List.flatMap encI (List.take 2 [s.pos, s.st, s.fa, s.rd])).length c2) (.d (.d (.d (.k (.k (.d (.k .a)))))))) .a ?_
      refine RZ (BN (NT (RG ?_)))
      refine RV true [] .z (.i 22 (.int .i64 2) (.k (.d (.k .a)))) .a ([inI64 ((1 : Int) + (1 : Int))]) ⟨by unfold inI64; omega, trivial⟩ ?_
      refine RZ ?_
      exact fun a' w' hS' => ⟨⟨(1 + 1, a2, c2), by dsimp only; omega⟩, by dsimp only; omega, ent_fr (by kernel_rfl) _ _ (ent_hp [0, 0, 0, 0, 0, 0] rfl _ _ hS')⟩
    · refine SQ (RG ?_)
      refine RR [] .z (.i 23 (.bool true) (.i 22 (.int .i64 2) (.d (.k .a)))) .a ?_
      refine RZ (NT (SQ (CT (SK (NT (SQ (BK (SQ (RG ?_)))))))))
      refine RR [] .z (.i 7 (.int .i64 s.fa) (.d (.k .a))) .a ?_
      refine RZ (NT (RG ?_))
      refine RR [] (.d (.d .a)) (.i 26 (.int .i64 s.fa) (.i 25 (.slice a1 (List.flatMap encI (List.take 2 [s.pos, s.st, s.fa, s.rd])).length c1) (.d (.k .a)))) .a ?_
      refine RC (dst := some 27) [0] (.d (.k .a)) (PutInt_spec a1 c1 (([s.pos, s.st, s.fa, s.rd].take 2).flatMap encI) s.fa f1 f2 (by simp only [List.length_append, List.take_succ_cons, List.take_zero, List.take_nil, List.flatMap_cons, List.flatMap_nil, List.length_nil]; omega)) ?_
      rintro r _ ⟨a2, c2, rfl, rfl⟩
      rw [show ([s.pos, s.st, s.fa, s.rd].take 2).flatMap encI ++ encI s.fa = ([s.pos, s.st, s.fa, s.rd].take (2 + 1)).flatMap encI from by simp]
      refine RR [] .z (.i 5 (.slice a2 (List.flatMap encI (List.take 3 [s.pos, s.st, s.fa, s.rd])).length c2) (.d (.d (.d (.k (.k (.d (.k .a)))))))) .a ?_
      refine RZ (BN (NT (RG ?_)))
      refine RV true [] .z (.i 22 (.int .i64 3) (.k (.d (.k .a)))) .a ([inI64 ((2 : Int) + (1 : Int))]) ⟨by unfold inI64; omega, trivial⟩ ?_
      refine RZ ?_
      exact fun a' w' hS' => ⟨⟨(2 + 1, a2, c2), by dsimp only; omega⟩, by dsimp only; omega, ent_fr (by kernel_rfl) _ _ (ent_hp [0, 0, 0, 0, 0, 0] rfl _ _ hS')⟩
    · refine SQ (RG ?_)
      refine RR [] .z (.i 23 (.bool true) (.i 22 (.int .i64 3) (.d (.k .a)))) .a ?_
      refine RZ (NT (SQ (CT (SK (NT (SQ (BK (SQ (RG ?_)))))))))
      refine RR [] .z (.i 7 (.int .i64 s.rd) (.d (.k .a))) .a ?_
      refine RZ (NT (RG ?_))
      refine RR [] (.d (.d .a)) (.i 26 (.int .i64 s.rd) (.i 25 (.slice a1 (List.flatMap encI (List.take 3 [s.pos, s.st, s.fa, s.rd])).length c1) (.d (.k .a)))) .a ?_
      refine RC (dst := some 27) [0] (.d (.k .a)) (PutInt_spec a1 c1 (([s.pos, s.st, s.fa, s.rd].take 3).flatMap encI) s.rd r1 r2 (by simp only [List.length_append, List.take_succ_cons, List.take_zero, List.take_nil, List.flatMap_cons, List.flatMap_nil, List.length_nil]; omega)) ?_
      rintro r _ ⟨a2, c2, rfl, rfl⟩
      rw [show ([s.pos, s.st, s.fa, s.rd].take 3).flatMap encI ++ encI s.rd = ([s.pos, s.st, s.fa, s.rd].take (3 + 1)).flatMap encI from by simp]
      refine RR [] .z (.i 5 (.slice a2 (List.flatMap encI (List.take 4 [s.pos, s.st, s.fa, s.rd])).length c2) (.d (.d (.d (.k (.k (.d (.k .a)))))))) .a ?_
      refine RZ (BN (NT (RG ?_)))
      refine RV true [] .z (.i 22 (.int .i64 4) (.k (.d (.k .a)))) .a ([inI64 ((3 : Int) + (1 : Int))]) ⟨by unfold inI64; omega, trivial⟩ ?_
      refine RZ ?_
      exact fun a' w' hS' => ⟨⟨(3 + 1, a2, c2), by dsimp only; omega⟩, by dsimp only; omega, ent_fr (by kernel_rfl) _ _ (ent_hp [0, 0, 0, 0, 0, 0] rfl _ _ hS')⟩
    · obtain ⟨b4, hb4⟩ : ∃ b4, b4 = ([s.pos, s.st, s.fa, s.rd].take 4).flatMap encI := ⟨_, rfl⟩
      have hbl : b4.length = (encI s.pos).length + (encI s.st).length + (encI s.fa).length + (encI s.rd).length := by
        rw [hb4]; simp only [List.length_append, List.take_succ_cons, List.take_zero, List.flatMap_cons, List.flatMap_nil, List.length_nil]; omega
      rw [← hb4]
      refine SQ (RG ?_)
      refine RR [] .z (.i 23 (.bool false) (.i 22 (.int .i64 4) (.d (.k .a)))) .a ?_
      refine RZ (NT (SQ (CF (EX (TE (TE (BH (NT (SQ (RG ?_))))))))))
      refine RR [5] (.d (.d (.d .a))) (.i 31 (.string (mkS s.out)) (.i 29 (.slice a1 b4.length c1) (.d (.d (.d (.k .a)))))) .a ?_
      refine RC (dst := some 32) [0] (.d (.k .a)) (PutText_spec a1 c1 b4 s.out (by omega) (by omega)) ?_
      rintro r _ ⟨a2, c2, rfl, rfl⟩
      refine RR [] .z (.i 5 (.slice a2 (b4 ++ encT s.out).length c2) (.d (.d (.d (.d (.k .a)))))) .a ?_
      refine RZ (NT (SQ ?_))
      refine wpc_draw (by kernel_rfl) [ro s.ca (List.flatMap clC s.cl), gCl s.cl, ro s.ha (List.flatMap objC s.hl), gBag s.hl, .blk g1 75 [.int .i64 s.pos, .int .i64 s.st, .int .i64 s.fa, .slice s.ca s.cl.length s.cc, .slice s.ha s.hl.length s.hc, .string (mkS s.out), .int .i64 s.rd]] (sub_of [1, 2, 3, 4, 5] (by kernel_rfl)) 9 (by kernel_rfl) ?_
      refine TK 4 [(0, []), (1, []), (2, [4]), (4, []), (5, [4])] (.i 38 (.slice s.ha s.hl.length s.hc) (.i 35 (.slice s.ca s.cl.length s.cc) (.i 33 (.slice a2 (b4 ++ encT s.out).length c2) (.d (.k (.k .z)))))) (#[true, true, true, false, true, true, false, false, false]) ?_
      refine AC (dst := some 36) 3 3 (.d (.k .a)) (rowC_spec a2 c2 (b4 ++ encT s.out) s.ca s.cc s.cl hc1 hc2 (by rw [List.length_append]; omega)) (GO (GV (GV (GJ [0]) 1 view_self) 0 view_ro) [2, 0, 0]) [0, 1, 2, 3, 4] ?_
      rintro r _ ⟨a3, c3, rfl, rfl⟩
      refine AC (dst := some 39) 2 6 (.d (.k .a)) (rowO_spec a3 c3 (b4 ++ encT s.out ++ encCs (s.cl.map Cl.p)) s.ha s.hc s.hl hh1 (fun o ho => ⟨(hh2 o ho).1, (hh2 o ho).2.2.1, hh3 o ho⟩) (by rw [List.length_append, List.length_append]; omega)) (GO (GV (GV (GJ [0]) 3 view_self) 2 view_ro) [2, 0, 0]) [0, 1, 2, 3, 4] ?_
      rintro r _ ⟨a4, c4, rfl, rfl⟩
      refine TK 0 [(7, []), (8, [])] (.d (.d (.d (.d (.d (.k (.i 2 (.slice a4 (b4 ++ encT s.out ++ encCs (List.map Cl.p s.cl) ++ encOs (List.map Ob.o s.hl)).length c4) .z))))))) (#[true, true, true, true, true, true, true, true, true]) ?_
      refine wpa_done 0 (by kernel_rfl) ?_
      refine NT (RE ?_)
      refine NE [0] (.k .z) (.d (.k .a)) [] (.tuple #[.slice a4 (b4 ++ encT s.out ++ encCs (List.map Cl.p s.cl) ++ encOs (List.map Ob.o s.hl)).length c4, .int .i64 0]) ?_
      rw [if_pos rfl, show b4 ++ encT s.out ++ encCs (s.cl.map Cl.p) ++ encOs (s.hl.map Ob.o) = encS s.p from by rw [hb4]; rfl]
      exact ⟨a4, c4, rfl, rfl⟩
end Go.Proofs.YtpfhleghgkeemaaGreatDoor
namespace Go.Proofs.YtpfhleghgkeemaaGreatDoor
open Go Go.Sx
/-! The document's: values right, a state's bytes. -/
theorem rvals_spec (a : Option Addr) (c : Nat) (l : List V) (m : Int) (hl : l.length ≤ 1048576) (hs : smL l) :
    Does Tryz.prog 109 [.slice a l.length c, .int .i64 m] [ro a (l.flatMap valC)] (fun v hp' => v = .bool (l.all (rB m)) ∧ hp' = []) := by
  refine fn_enter Tryz.func109 rfl 19 rfl fun w0 h0 => ?_
  refine SQ (RG ?_)
  refine RR [] .z (.i 4 (.bool false) .a) .a ?_
  refine RZ (NT (SQ (SQ (RG ?_))))
  refine RR [] .z (.i 5 (.int .i64 0) .a) .a ?_
  refine RZ (NT (BK ?_))
  refine wpc_loop (X := {i : Nat // i ≤ l.length ∧ (l.take i).all (rB m) = true}) (fun x => St.mk [(5, .int .i64 (x.1 : Int)), (4, .bool false), (0, .slice a l.length c), (1, .int .i64 m)] [ro a (l.flatMap valC)]) (fun x => l.length - x.1) ⟨0, Nat.zero_le _, rfl⟩ (ent_fr (by kernel_rfl)) ?_
  rintro ⟨i, hi, he⟩
  dsimp only at hi he ⊢
  by_cases hlt : i < l.length
  · refine wpc_fact (fun w h => ro_addr h 0 rfl (by rw [vals_len]; omega)) ?_
    rintro ⟨g0, o0, rfl⟩
    have hR := Right_spec l[i] m (hs _ (List.getElem_mem hlt))
    unfold valV at hR
    refine SQ (SQ (RG ?_))
    refine RR [] .z (.i 9 (.bool (decide ((↑i : Int) < (↑l.length : Int)))) .a) .a ?_
    refine RZ (NT ?_)
    refine SC 9 (decide ((↑i : Int) < (↑l.length : Int))) true (decide_eq_true (by omega)) ?_
    refine CT (SK (NT (SQ (BK (SQ (RG ?_))))))
    refine RV true [] (.d (.d (.d .a))) (.i 14 (.pointer (some ⟨g0, o0 + i * 3, none⟩)) (.d (.d (.k .a)))) .a [(0 : Int) ≤ (↑i : Int) ∧ (↑i : Int) < (↑l.length : Int)] ⟨by omega, trivial⟩ ?_
    refine wpr_eq (ld (t := 28) (a := ⟨g0, o0 + i * 3, none⟩) (dst := some 15) (by kernel_rfl) true 3 (by kernel_rfl) (by simp) (valC l[i]) rfl (fun w h => ld_ro h 0 rfl (i * 3) (vals_at hlt))) ?_
    refine RR [] (.d .a) (.i 16 (.int .i64 m) (.i 15 (.agg #[.int .i64 l[i].k, .int .i64 l[i].n, .string (mkS l[i].s)]) (.d (.d (.k .a))))) .a ?_
    refine RC (dst := some 17) [] .a (hR) ?_
    rintro r _ ⟨rfl, rfl⟩
    cases hr : rightB l[i] m with
    | false =>
      refine RR [] .z (.i 18 (.bool true) (.d (.d (.d (.k .a))))) .a ?_
      refine RZ (NT (CT (SQ (RG ?_))))
      refine RR [] .z (.i 4 (.bool false) (.d (.k (.d (.k .a))))) .a ?_
      refine RZ (NT (RE (BR (TR (TR (BR (TR ?_)))))))
      refine NE [] .z .a [] (.bool false) ?_
      refine ⟨?_, rfl⟩
      cases hx : l.all (rB m) with
      | false => rfl
      | true =>
        have h2 := List.all_eq_true.1 hx _ (List.getElem_mem hlt)
        unfold rB at h2
        rw [hr] at h2; cases h2
    | true =>
      refine RR [] .z (.i 18 (.bool false) (.d (.d (.d (.k .a))))) .a ?_
      refine RZ (NT (CF (SK (BN (NT (RG ?_))))))
      refine RV true [] .z (.i 5 (.int .i64 ((↑i : Int) + 1)) (.d (.d (.k .a)))) .a ([inI64 ((↑i : Int) + (1 : Int))]) ⟨by unfold inI64; omega, trivial⟩ ?_
      refine RZ ?_
      exact fun a' w' hS' => ⟨⟨i + 1, hlt, by
              rw [← List.take_append_getElem hlt, List.all_append, he]
              simp [rB, hr]⟩, by dsimp only; omega, ent_fr (by kernel_rfl) _ _ (ent_hp [0] rfl _ _ hS')⟩
  · obtain rfl : i = l.length := by omega
    refine SQ (SQ (RG ?_))
    refine RR [] .z (.i 9 (.bool (decide ((↑l.length : Int) < (↑l.length : Int)))) .a) .a ?_
    refine RZ (NT ?_)
    refine SC 9 (decide ((↑l.length : Int) < (↑l.length : Int))) false (by simp) ?_
    refine CF (EX (TE (TE (BH (NT (SQ (RG ?_)))))))
    refine RR [] .z (.i 4 (.bool true) .z) .a ?_
    refine RZ (NT (RE ?_))
    refine NE [] .z .a [] (.bool true) ?_
    exact ⟨by rw [List.take_length] at he; rw [he], rfl⟩
theorem rval_spec (v : V) (hv : v.ok) : Does Tryz.prog 145 [valV v] [] (fun r hp' => r = .string (mkS (encV v)) ∧ hp' = []) := by
  obtain ⟨⟨h1, h2⟩, ⟨h3, h4⟩, h5⟩ := hv
  have e1 := encI_len h1 h2
  have e3 := encI_len h3 h4
  have e5 := encT_len h5
  unfold valV
  refine fn_enter Tryz.func145 rfl 26 rfl fun w0 h0 => ?_
  refine SQ (RG ?_)
  refine RP [] (.d .a) 1 .z .a 28 [.int .i64 v.k, .int .i64 v.n, .string (mkS v.s)] fun g1 => ?_
  refine RR [] .z (.i 2 (.string ⟨#[]⟩) .a) .a ?_
  refine RZ (NT (SQ (RG ?_)))
  refine RR [0] (.d (.d .a)) (.i 5 (.int .i64 v.k) .a) .a ?_
  refine RC (dst := some 6) [] .a (RInt_spec v.k h1 h2) ?_
  rintro r _ ⟨rfl, rfl⟩
  by_cases k1 : v.k = 1
  · refine RR [] .z (.i 3 (.string (mkS (encI v.k))) (.d (.d (.k .a)))) .a ?_
    refine RZ (NT (SQ (SQ (RG ?_))))
    refine RR [0] .z (.i 8 (.int .i64 v.k) .a) .a ?_
    refine RZ (NT (BK (SQ (SQ (RG ?_)))))
    refine RR [] .z (.i 9 (.bool (v.k == (1 : Int))) .a) .a ?_
    refine RZ (NT ?_)
    refine SC 9 (v.k == (1 : Int)) true (by simp only [bne_iff_ne, beq_iff_eq, ne_eq]; omega) ?_
    refine CT (SK (NT (CT (RG ?_))))
    refine RR [0] (.d (.d (.d .a))) (.i 15 (.int .i64 v.n) (.i 13 (.string (mkS (encI v.k))) (.d (.d (.d (.k (.k .z))))))) .a ?_
    refine RC (dst := some 16) [] .a (RInt_spec v.n h3 h4) ?_
    rintro r _ ⟨rfl, rfl⟩
    refine RV true [] .z (.i 3 (.string (mkS (encI v.k ++ encI v.n))) (.d (.d (.d (.d (.k .a)))))) .a ([(encI v.k).length + (encI v.n).length ≤ (9223372036854775807 : Nat)]) ⟨by omega, trivial⟩ ?_
    refine RZ (BN (NT (SQ (RG ?_))))
    refine RR [] .z (.i 2 (.string (mkS (encI v.k ++ encI v.n))) .z) .a ?_
    refine RZ (NT (RE ?_))
    refine NE [] .z .a [] (.string (mkS (encI v.k ++ encI v.n))) ?_
    exact ⟨by unfold encV; rw [if_pos (by omega)], rfl⟩
  by_cases k2 : v.k = 2
  · refine RR [] .z (.i 3 (.string (mkS (encI v.k))) (.d (.d (.k .a)))) .a ?_
    refine RZ (NT (SQ (SQ (RG ?_))))
    refine RR [0] .z (.i 8 (.int .i64 v.k) .a) .a ?_
    refine RZ (NT (BK (SQ (SQ (RG ?_)))))
    refine RR [] .z (.i 9 (.bool (v.k == (1 : Int))) .a) .a ?_
    refine RZ (NT ?_)
    refine SC 9 (v.k == (1 : Int)) false (by simp only [bne_eq_false_iff_eq, beq_eq_false_iff_ne, ne_eq]; omega) ?_
    refine CF (SQ (RG ?_))
    refine RR [] .z (.i 9 (.bool (v.k == (2 : Int))) (.d (.d (.k .a)))) .a ?_
    refine RZ (NT ?_)
    refine SC 9 (v.k == (2 : Int)) true (by simp only [bne_iff_ne, beq_iff_eq, ne_eq]; omega) ?_
    refine CT (SK (NT (CT (RG ?_))))
    refine RR [0] (.d (.d (.d .a))) (.i 15 (.int .i64 v.n) (.i 13 (.string (mkS (encI v.k))) (.d (.d (.d (.k (.k .z))))))) .a ?_
    refine RC (dst := some 16) [] .a (RInt_spec v.n h3 h4) ?_
    rintro r _ ⟨rfl, rfl⟩
    refine RV true [] .z (.i 3 (.string (mkS (encI v.k ++ encI v.n))) (.d (.d (.d (.d (.k .a)))))) .a ([(encI v.k).length + (encI v.n).length ≤ (9223372036854775807 : Nat)]) ⟨by omega, trivial⟩ ?_
    refine RZ (BN (NT (SQ (RG ?_))))
    refine RR [] .z (.i 2 (.string (mkS (encI v.k ++ encI v.n))) .z) .a ?_
    refine RZ (NT (RE ?_))
    refine NE [] .z .a [] (.string (mkS (encI v.k ++ encI v.n))) ?_
    exact ⟨by unfold encV; rw [if_pos (by omega)], rfl⟩
  by_cases k4 : v.k = 4
  · refine RR [] .z (.i 3 (.string (mkS (encI v.k))) (.d (.d (.k .a)))) .a ?_
    refine RZ (NT (SQ (SQ (RG ?_))))
    refine RR [0] .z (.i 8 (.int .i64 v.k) .a) .a ?_
    refine RZ (NT (BK (SQ (SQ (RG ?_)))))
    refine RR [] .z (.i 9 (.bool (v.k == (1 : Int))) .a) .a ?_
    refine RZ (NT ?_)
    refine SC 9 (v.k == (1 : Int)) false (by simp only [bne_eq_false_iff_eq, beq_eq_false_iff_ne, ne_eq]; omega) ?_
    refine CF (SQ (RG ?_))
    refine RR [] .z (.i 9 (.bool (v.k == (2 : Int))) (.d (.d (.k .a)))) .a ?_
    refine RZ (NT ?_)
    refine SC 9 (v.k == (2 : Int)) false (by simp only [bne_eq_false_iff_eq, beq_eq_false_iff_ne, ne_eq]; omega) ?_
    refine CF (RG ?_)
    refine RR [] .z (.i 9 (.bool (v.k == (4 : Int))) (.d (.d (.k .a)))) .a ?_
    refine RZ (NT ?_)
    refine SC 9 (v.k == (4 : Int)) true (by simp only [bne_iff_ne, beq_iff_eq, ne_eq]; omega) ?_
    refine CT (RG ?_)
    refine RR [0] (.d (.d (.d .a))) (.i 15 (.int .i64 v.n) (.i 13 (.string (mkS (encI v.k))) (.d (.d (.d (.k (.k .z))))))) .a ?_
    refine RC (dst := some 16) [] .a (RInt_spec v.n h3 h4) ?_
    rintro r _ ⟨rfl, rfl⟩
    refine RV true [] .z (.i 3 (.string (mkS (encI v.k ++ encI v.n))) (.d (.d (.d (.d (.k .a)))))) .a ([(encI v.k).length + (encI v.n).length ≤ (9223372036854775807 : Nat)]) ⟨by omega, trivial⟩ ?_
    refine RZ (BN (NT (SQ (RG ?_))))
    refine RR [] .z (.i 2 (.string (mkS (encI v.k ++ encI v.n))) .z) .a ?_
    refine RZ (NT (RE ?_))
    refine NE [] .z .a [] (.string (mkS (encI v.k ++ encI v.n))) ?_
    exact ⟨by unfold encV; rw [if_pos (by omega)], rfl⟩
  by_cases k3 : v.k = 3
  · refine RR [] .z (.i 3 (.string (mkS (encI v.k))) (.d (.d (.k .a)))) .a ?_
    refine RZ (NT (SQ (SQ (RG ?_))))
    refine RR [0] .z (.i 8 (.int .i64 v.k) .a) .a ?_
    refine RZ (NT (BK (SQ (SQ (RG ?_)))))
    refine RR [] .z (.i 9 (.bool (v.k == (1 : Int))) .a) .a ?_
    refine RZ (NT ?_)
    refine SC 9 (v.k == (1 : Int)) false (by simp only [bne_eq_false_iff_eq, beq_eq_false_iff_ne, ne_eq]; omega) ?_
    refine CF (SQ (RG ?_))
    refine RR [] .z (.i 9 (.bool (v.k == (2 : Int))) (.d (.d (.k .a)))) .a ?_
    refine RZ (NT ?_)
    refine SC 9 (v.k == (2 : Int)) false (by simp only [bne_eq_false_iff_eq, beq_eq_false_iff_ne, ne_eq]; omega) ?_
    refine CF (RG ?_)
    refine RR [] .z (.i 9 (.bool (v.k == (4 : Int))) (.d (.d (.k .a)))) .a ?_
    refine RZ (NT ?_)
    refine SC 9 (v.k == (4 : Int)) false (by simp only [bne_eq_false_iff_eq, beq_eq_false_iff_ne, ne_eq]; omega) ?_
    refine CF (SQ (RG ?_))
    refine RR [] .z (.i 18 (.bool (v.k == (3 : Int))) (.d (.d (.d (.k .a))))) .a ?_
    refine RZ (NT ?_)
    refine SC 18 (v.k == (3 : Int)) true (by simp only [bne_iff_ne, beq_iff_eq, ne_eq]; omega) ?_
    refine CT (RG ?_)
    refine RR [0] (.d (.d (.d .a))) (.i 22 (.string (mkS v.s)) (.i 20 (.string (mkS (encI v.k))) (.d (.d (.k (.k .z)))))) .a ?_
    refine RC (dst := some 23) [] .a (RText_spec v.s (by omega)) ?_
    rintro r _ ⟨rfl, rfl⟩
    refine RV true [] .z (.i 3 (.string (mkS (encI v.k ++ encT v.s))) (.d (.d (.d (.d (.k .a)))))) .a ([(encI v.k).length + (encT v.s).length ≤ (9223372036854775807 : Nat)]) ⟨by omega, trivial⟩ ?_
    refine RZ (BN (NT (SQ (RG ?_))))
    refine RR [] .z (.i 2 (.string (mkS (encI v.k ++ encT v.s))) .z) .a ?_
    refine RZ (NT (RE ?_))
    refine NE [] .z .a [] (.string (mkS (encI v.k ++ encT v.s))) ?_
    exact ⟨by unfold encV; rw [if_neg (by omega), if_pos k3], rfl⟩
  · refine RR [] .z (.i 3 (.string (mkS (encI v.k))) (.d (.d (.k .a)))) .a ?_
    refine RZ (NT (SQ (SQ (RG ?_))))
    refine RR [0] .z (.i 8 (.int .i64 v.k) .a) .a ?_
    refine RZ (NT (BK (SQ (SQ (RG ?_)))))
    refine RR [] .z (.i 9 (.bool (v.k == (1 : Int))) .a) .a ?_
    refine RZ (NT ?_)
    refine SC 9 (v.k == (1 : Int)) false (by simp only [bne_eq_false_iff_eq, beq_eq_false_iff_ne, ne_eq]; omega) ?_
    refine CF (SQ (RG ?_))
    refine RR [] .z (.i 9 (.bool (v.k == (2 : Int))) (.d (.d (.k .a)))) .a ?_
    refine RZ (NT ?_)
    refine SC 9 (v.k == (2 : Int)) false (by simp only [bne_eq_false_iff_eq, beq_eq_false_iff_ne, ne_eq]; omega) ?_
    refine CF (RG ?_)
    refine RR [] .z (.i 9 (.bool (v.k == (4 : Int))) (.d (.d (.k .a)))) .a ?_
    refine RZ (NT ?_)
    refine SC 9 (v.k == (4 : Int)) false (by simp only [bne_eq_false_iff_eq, beq_eq_false_iff_ne, ne_eq]; omega) ?_
    refine CF (SQ (RG ?_))
    refine RR [] .z (.i 18 (.bool (v.k == (3 : Int))) (.d (.d (.d (.k .a))))) .a ?_
    refine RZ (NT ?_)
    refine SC 18 (v.k == (3 : Int)) false (by simp only [bne_eq_false_iff_eq, beq_eq_false_iff_ne, ne_eq]; omega) ?_
    refine CF (SK (BN (NT (SQ (RG ?_)))))
    refine RR [] .z (.i 2 (.string (mkS (encI v.k))) .z) .a ?_
    refine RZ (NT (RE ?_))
    refine NE [] .z .a [] (.string (mkS (encI v.k))) ?_
    exact ⟨by unfold encV; rw [if_neg (by omega), if_neg k3, List.append_nil], rfl⟩
theorem rall_spec (a : Option Addr) (c : Nat) (l : List V) (hl : l.length ≤ 1048576) (hv : ∀ v ∈ l, v.ok) (hB : (encVs l).length ≤ 549755813888) :
    Does Tryz.prog 112 [.slice a l.length c] [ro a (l.flatMap valC)] (fun r hp' => r = .string (mkS (encVs l)) ∧ hp' = []) := by
  have hEl : (encVs l).length = (encI l.length).length + (l.flatMap encV).length := by unfold encVs; rw [List.length_append]
  refine fn_enter Tryz.func112 rfl 22 rfl fun w0 h0 => ?_
  refine SQ (RG ?_)
  refine RR [] .z (.i 2 (.string ⟨#[]⟩) .a) .a ?_
  refine RZ (NT (SQ (RG ?_)))
  refine RR [] (.d (.d .a)) (.i 6 (.int .i64 (↑l.length : Int)) .a) .a ?_
  refine RC (dst := some 7) [] .a (RInt_spec l.length (by omega) (by omega)) ?_
  rintro r _ ⟨rfl, rfl⟩
  refine RR [] .z (.i 3 (.string (mkS (encI (↑l.length : Int)))) (.d (.d (.k .a)))) .a ?_
  refine RZ (NT (SQ (SQ (RG ?_))))
  refine RR [] .z (.i 4 (.int .i64 0) .a) .a ?_
  refine RZ (NT (BK ?_))
  refine wpc_loop (X := {i : Nat // i ≤ l.length}) (fun x => St.mk [(4, .int .i64 (x.1 : Int)), (3, .string (mkS (encI l.length ++ (l.take x.1).flatMap encV))), (2, .string ⟨#[]⟩), (0, .slice a l.length c)] [ro a (l.flatMap valC)]) (fun x => l.length - x.1) ⟨0, Nat.zero_le _⟩ ?_ ?_
  · show Ent _ _ (St.mk [_, (3, .string (mkS (encI l.length ++ []))), _, _] _)
    rw [List.append_nil]
    exact ent_fr (by kernel_rfl)
  rintro ⟨i, hi⟩
  dsimp only at hi ⊢
  by_cases hlt : i < l.length
  · have hme := mem_flat_len encV hlt
    obtain ⟨b2, hb2⟩ : ∃ b2, b2 = encI l.length ++ (l.take i).flatMap encV := ⟨_, rfl⟩
    have hbl : b2.length = (encI l.length).length + ((l.take i).flatMap encV).length := by rw [hb2, List.length_append]
    rw [← hb2]
    have hvs := rval_spec l[i] (hv _ (List.getElem_mem hlt))
    unfold valV at hvs
    refine wpc_fact (fun w h => ro_addr h 0 rfl (by rw [vals_len]; omega)) ?_
    rintro ⟨g0, o0, rfl⟩
    refine SQ (SQ (RG ?_))
    refine RR [] .z (.i 11 (.bool (decide ((↑i : Int) < (↑l.length : Int)))) .a) .a ?_
    refine RZ (NT ?_)
    refine SC 11 (decide ((↑i : Int) < (↑l.length : Int))) true (decide_eq_true (by omega)) ?_
    refine CT (SK (NT (SQ (BK (RG ?_)))))
    refine RV true [] (.d (.d (.d (.d .a)))) (.i 17 (.pointer (some ⟨g0, o0 + i * 3, none⟩)) (.i 14 (.string (mkS b2)) (.d (.d (.k .a))))) .a [(0 : Int) ≤ (↑i : Int) ∧ (↑i : Int) < (↑l.length : Int)] ⟨by omega, trivial⟩ ?_
    refine wpr_eq (ld (t := 28) (a := ⟨g0, o0 + i * 3, none⟩) (dst := some 18) (by kernel_rfl) true 3 (by kernel_rfl) (by simp) (valC l[i]) rfl (fun w h => ld_ro h 0 rfl (i * 3) (vals_at hlt))) ?_
    refine RC (dst := some 19) [] .a (hvs) ?_
    rintro r _ ⟨rfl, rfl⟩
    refine RV true [] .z (.i 3 (.string (mkS (b2 ++ encV l[i]))) (.d (.d (.d (.d (.k (.d (.k .a)))))))) .a ([b2.length + (encV l[i]).length ≤ (9223372036854775807 : Nat)]) ⟨by omega, trivial⟩ ?_
    refine RZ (BN (NT (RG ?_)))
    refine RV true [] .z (.i 4 (.int .i64 ((↑i : Int) + 1)) (.k (.d (.k .a)))) .a ([inI64 ((↑i : Int) + (1 : Int))]) ⟨by unfold inI64; omega, trivial⟩ ?_
    refine RZ ?_
    rw [show b2 ++ encV l[i] = encI l.length ++ (l.take (i + 1)).flatMap encV from by rw [hb2, flat_take_succ encV hlt, List.append_assoc]]
    exact fun a' w' hS' => ⟨⟨i + 1, hlt⟩, by dsimp only; omega, ent_fr (by kernel_rfl) _ _ (ent_hp [0] rfl _ _ hS')⟩
  · obtain rfl : i = l.length := by omega
    refine SQ (SQ (RG ?_))
    refine RR [] .z (.i 11 (.bool (decide ((↑l.length : Int) < (↑l.length : Int)))) .a) .a ?_
    refine RZ (NT ?_)
    refine SC 11 (decide ((↑l.length : Int) < (↑l.length : Int))) false (by simp) ?_
    refine CF (EX (TE (TE (BH (NT (SQ (RG ?_)))))))
    refine RR [] .z (.i 2 (.string (mkS (encI (↑l.length : Int) ++ List.flatMap encV (List.take l.length l)))) .z) .a ?_
    refine RZ (NT (RE ?_))
    refine NE [] .z .a [] (.string (mkS (encI (↑l.length : Int) ++ List.flatMap encV (List.take l.length l)))) ?_
    exact ⟨by rw [List.take_length]; rfl, rfl⟩
set_option maxHeartbeats 8000000 in
theorem rput_spec (s : Sv) (hs : s.ok) (hB : (encS s.p).length ≤ 549755813888) : Does Tryz.prog 74 [.agg (svC s).toArray] [ro s.ca (s.cl.flatMap clC), gCl s.cl, ro s.ha (s.hl.flatMap objC), gBag s.hl]
    (fun r hp' => r = .string (mkS (encS s.p)) ∧ hp' = []) := by
  obtain ⟨⟨p1, p2⟩, ⟨s1, s2⟩, ⟨f1, f2⟩, ⟨r1, r2⟩, hc1, hc2, hh1, hh2, hh3, ho, hu⟩ := hs
  have hEl : (encS s.p).length = (encI s.pos).length + (encI s.st).length + (encI s.fa).length + (encI s.rd).length + (encT s.out).length + (encCs (s.cl.map Cl.p)).length + (encOs (s.hl.map Ob.o)).length := by
    unfold encS Sv.p; simp only [List.length_append, List.flatMap_cons, List.flatMap_nil, List.length_nil]; omega
  have hCl : (encCs (s.cl.map Cl.p)).length = (encI s.cl.length).length + ((s.cl.map Cl.p).flatMap encC).length := by unfold encCs; rw [List.length_append, List.length_map]
  have hOl : (encOs (s.hl.map Ob.o)).length = (encI s.hl.length).length + ((s.hl.map Ob.o).flatMap encO).length := by unfold encOs; rw [List.length_append, List.length_map]
  unfold svC
  refine fn_enter Tryz.func74 rfl 95 rfl fun w0 h0 => ?_
  refine SQ (RG ?_)
  refine RP [] (.d .a) 1 .z .a 75 [.int .i64 s.pos, .int .i64 s.st, .int .i64 s.fa, .slice s.ca s.cl.length s.cc, .slice s.ha s.hl.length s.hc, .string (mkS s.out), .int .i64 s.rd] fun g1 => ?_
  refine RR [] .z (.i 2 (.string ⟨#[]⟩) .a) .a ?_
  refine RZ (NT (SQ ?_))
  refine wpc_draw (by kernel_rfl) [.blk g1 75 [.int .i64 s.pos, .int .i64 s.st, .int .i64 s.fa, .slice s.ca s.cl.length s.cc, .slice s.ha s.hl.length s.hc, .string (mkS s.out), .int .i64 s.rd]] (sub_of [4] (by kernel_rfl)) 25 (by kernel_rfl) ?_
  refine TK 12 [(0, []), (1, [0]), (3, []), (4, [0]), (7, []), (8, [0]), (11, []), (12, [0]), (15, []), (16, [0]), (19, []), (20, [0]), (21, [])] (.i 28 (.int .i64 (↑s.cl.length : Int)) (.i 23 (.string (mkS s.out)) (.i 19 (.int .i64 s.rd) (.i 15 (.int .i64 s.fa) (.i 11 (.int .i64 s.st) (.i 8 (.int .i64 s.pos) .a)))))) (#[true, true, false, true, true, false, false, true, true, false, false, true, true, false, false, true, true, false, false, true, true, true, false, false, false]) ?_
  refine AC (dst := some 9) 11 2 .a (RInt_spec s.pos p1 p2) (GI []) [4] ?_
  rintro r _ ⟨rfl, rfl⟩
  refine AC (dst := some 12) 10 5 .a (RInt_spec s.st s1 s2) (GI []) [4] ?_
  rintro r _ ⟨rfl, rfl⟩
  refine wpa_take true [(6, [])] ([(13, .string (mkS (encI s.pos ++ encI s.st))), (28, .int .i64 (↑s.cl.length : Int)), (23, .string (mkS s.out)), (19, .int .i64 s.rd), (15, .int .i64 s.fa), (2, .string ⟨#[]⟩), (1, .pointer (some ⟨g1, 0, none⟩))]) (#[true, true, true, true, true, true, true, true, true, false, false, true, true, false, false, true, true, false, false, true, true, true, false, false, false]) ([(encI s.pos).length + (encI s.st).length ≤ (9223372036854775807 : Nat)]) (n := 9) (by kernel_rfl) (by kernel_rfl) (by kernel_rfl) ⟨by omega, trivial⟩ ?_
  refine AC (dst := some 16) 8 9 .a (RInt_spec s.fa f1 f2) (GI []) [4] ?_
  rintro r _ ⟨rfl, rfl⟩
  refine wpa_take true [(10, [])] ([(17, .string (mkS (encI s.pos ++ encI s.st ++ encI s.fa))), (28, .int .i64 (↑s.cl.length : Int)), (23, .string (mkS s.out)), (19, .int .i64 s.rd), (2, .string ⟨#[]⟩), (1, .pointer (some ⟨g1, 0, none⟩))]) (#[true, true, true, true, true, true, true, true, true, true, true, true, true, false, false, true, true, false, false, true, true, true, false, false, false]) ([(encI s.pos ++ encI s.st).length + (encI s.fa).length ≤ (9223372036854775807 : Nat)]) (n := 7) (by kernel_rfl) (by kernel_rfl) (by kernel_rfl) ⟨by simp only [List.length_append, List.length_cons, List.length_nil, show ∀ l : List UInt8, (ByteArray.mk l.toArray).size = l.length from fun _ => rfl]; omega, trivial⟩ ?_
  refine AC (dst := some 20) 6 13 .a (RInt_spec s.rd r1 r2) (GI []) [4] ?_
  rintro r _ ⟨rfl, rfl⟩
  refine wpa_take true [(14, [])] ([(21, .string (mkS (encI s.pos ++ encI s.st ++ encI s.fa ++ encI s.rd))), (28, .int .i64 (↑s.cl.length : Int)), (23, .string (mkS s.out)), (2, .string ⟨#[]⟩), (1, .pointer (some ⟨g1, 0, none⟩))]) (#[true, true, true, true, true, true, true, true, true, true, true, true, true, true, true, true, true, false, false, true, true, true, false, false, false]) ([(encI s.pos ++ encI s.st ++ encI s.fa).length + (encI s.rd).length ≤ (9223372036854775807 : Nat)]) (n := 5) (by kernel_rfl) (by kernel_rfl) (by kernel_rfl) ⟨by simp only [List.length_append, List.length_cons, List.length_nil, show ∀ l : List UInt8, (ByteArray.mk l.toArray).size = l.length from fun _ => rfl]; omega, trivial⟩ ?_
  refine AC (dst := some 24) 4 17 .a (RText_spec s.out (by omega)) (GI []) [4] ?_
  rintro r _ ⟨rfl, rfl⟩
  refine wpa_take true [(18, [])] ([(25, .string (mkS (encI s.pos ++ encI s.st ++ encI s.fa ++ encI s.rd ++ encT s.out))), (28, .int .i64 (↑s.cl.length : Int)), (2, .string ⟨#[]⟩), (1, .pointer (some ⟨g1, 0, none⟩))]) (#[true, true, true, true, true, true, true, true, true, true, true, true, true, true, true, true, true, true, true, true, true, true, false, false, false]) ([(encI s.pos ++ encI s.st ++ encI s.fa ++ encI s.rd).length + (encT s.out).length ≤ (9223372036854775807 : Nat)]) (n := 3) (by kernel_rfl) (by kernel_rfl) (by kernel_rfl) ⟨by simp only [List.length_append, List.length_cons, List.length_nil, show ∀ l : List UInt8, (ByteArray.mk l.toArray).size = l.length from fun _ => rfl]; omega, trivial⟩ ?_
  refine AC (dst := some 29) 2 22 .a (RInt_spec s.cl.length (by omega) (by omega)) (GI []) [4] ?_
  rintro r _ ⟨rfl, rfl⟩
  refine wpa_take true [(23, []), (24, [])] ([(3, .string (mkS (encI s.pos ++ encI s.st ++ encI s.fa ++ encI s.rd ++ encT s.out ++ encI (↑s.cl.length : Int)))), (2, .string ⟨#[]⟩), (1, .pointer (some ⟨g1, 0, none⟩))]) (#[true, true, true, true, true, true, true, true, true, true, true, true, true, true, true, true, true, true, true, true, true, true, true, true, true]) ([(encI s.pos ++ encI s.st ++ encI s.fa ++ encI s.rd ++ encT s.out).length + (encI (↑s.cl.length : Int)).length ≤ (9223372036854775807 : Nat)]) (n := 0) (by kernel_rfl) (by kernel_rfl) (by kernel_rfl) ⟨by simp only [List.length_append, List.length_cons, List.length_nil, show ∀ l : List UInt8, (ByteArray.mk l.toArray).size = l.length from fun _ => rfl]; omega, trivial⟩ ?_
  refine wpa_done 0 (by kernel_rfl) ?_
  refine NT (SQ (SQ (RG ?_)))
  refine RR [] .z (.i 4 (.int .i64 0) .a) .a ?_
  refine RZ (NT (BK ?_))
  obtain ⟨b0, hb0⟩ : ∃ b0, b0 = encI s.pos ++ encI s.st ++ encI s.fa ++ encI s.rd ++ encT s.out ++ encI s.cl.length := ⟨_, rfl⟩
  have hbl0 : b0.length = (encI s.pos).length + (encI s.st).length + (encI s.fa).length + (encI s.rd).length + (encT s.out).length + (encI s.cl.length).length := by rw [hb0]; simp only [List.length_append]
  rw [← hb0]
  refine wpc_loop (X := {i : Nat // i ≤ s.cl.length}) (fun x => St.mk [(4, .int .i64 (x.1 : Int)), (3, .string (mkS (b0 ++ ((s.cl.map Cl.p).take x.1).flatMap encC))), (2, .string ⟨#[]⟩), (1, .pointer (some ⟨g1, 0, none⟩))] [ro s.ca (s.cl.flatMap clC), gCl s.cl, ro s.ha (s.hl.flatMap objC), gBag s.hl, .blk g1 75 [.int .i64 s.pos, .int .i64 s.st, .int .i64 s.fa, .slice s.ca s.cl.length s.cc, .slice s.ha s.hl.length s.hc, .string (mkS s.out), .int .i64 s.rd]]) (fun x => s.cl.length - x.1) ⟨0, Nat.zero_le _⟩ ?_ ?_
  · show Ent _ _ (St.mk [_, (3, .string (mkS (b0 ++ []))), _, _] _)
    rw [List.append_nil]
    exact ent_fr (by kernel_rfl)
  rintro ⟨i, hi⟩
  dsimp only at hi ⊢
  by_cases hlt : i < s.cl.length
  · have hme := mem_flat_len encC (l := s.cl.map Cl.p) (i := i) (by rw [List.length_map]; exact hlt)
    rw [List.getElem_map] at hme
    obtain ⟨b2, hb2⟩ : ∃ b2, b2 = b0 ++ ((s.cl.map Cl.p).take i).flatMap encC := ⟨_, rfl⟩
    have hbl : b2.length = b0.length + (((s.cl.map Cl.p).take i).flatMap encC).length := by rw [hb2, List.length_append]
    rw [← hb2]
    obtain ⟨⟨u1, u2⟩, ⟨t1, t2⟩, ⟨m1, m2⟩, x1, x2, x3, x4⟩ := hc2 _ (List.getElem_mem hlt)
    have hxl : (encC s.cl[i].p).length = (encI s.cl[i].u).length + (encI s.cl[i].t).length + (encI s.cl[i].m).length + (encVs s.cl[i].slots).length + (encVs s.cl[i].stack).length := by
      unfold encC Cl.p; simp only [List.length_append]
    refine wpc_fact (fun w h => ro_addr h 0 rfl (by rw [cls_len]; omega)) ?_
    rintro ⟨g0, o0, hca⟩
    rw [hca]
    refine SQ (SQ (RG ?_))
    refine RR [4] .z (.i 35 (.bool (decide ((↑i : Int) < (↑s.cl.length : Int)))) .a) .a ?_
    refine RZ (NT ?_)
    refine SC 35 (decide ((↑i : Int) < (↑s.cl.length : Int))) true (decide_eq_true (by omega)) ?_
    refine CT (SK (NT (SQ (BK (SQ (RG ?_))))))
    refine RV true [4] (.d (.d (.d (.d .a)))) (.i 41 (.pointer (some ⟨g0, o0 + i * 5, none⟩)) (.d (.d (.k .a)))) .a [(0 : Int) ≤ (↑i : Int) ∧ (↑i : Int) < (↑s.cl.length : Int)] ⟨by omega, trivial⟩ ?_
    refine wpr_eq (ld (t := 124) (a := ⟨g0, o0 + i * 5, none⟩) (dst := some 42) (by kernel_rfl) true 5 (by kernel_rfl) (by simp) (clC s.cl[i]) rfl (fun w h => ld_ro h 0 rfl (i * 5) (cls_at hlt))) ?_
    refine RP [] (.d .a) 5 (.i 42 (.agg #[.int .i64 s.cl[i].u, .int .i64 s.cl[i].t, .int .i64 s.cl[i].m, .slice s.cl[i].sa s.cl[i].slots.length s.cl[i].sc, .slice s.cl[i].ta s.cl[i].stack.length s.cl[i].tc]) (.d (.d (.k .a)))) .a 124 [.int .i64 0, .int .i64 0, .int .i64 0, .slice none 0 0, .slice none 0 0] fun g2 => ?_
    refine RR [5, 5, 5, 5, 5] .z (.k (.d (.k .a))) (.k (.k (.k (.k (.k (.u (.i (.int .i64 s.cl[i].u) (.i (.int .i64 s.cl[i].t) (.i (.int .i64 s.cl[i].m) (.i (.slice s.cl[i].sa s.cl[i].slots.length s.cl[i].sc) (.i (.slice s.cl[i].ta s.cl[i].stack.length s.cl[i].tc) .z))))) .a)))))) ?_
    refine RZ (NT ?_)
    refine wpc_draw (by kernel_rfl) [gCl s.cl, .blk g2 124 [.int .i64 s.cl[i].u, .int .i64 s.cl[i].t, .int .i64 s.cl[i].m, .slice s.cl[i].sa s.cl[i].slots.length s.cl[i].sc, .slice s.cl[i].ta s.cl[i].stack.length s.cl[i].tc]] (sub_of [1, 5] (by kernel_rfl)) 22 (by kernel_rfl) ?_
    refine TK 11 [(0, []), (1, []), (2, [1]), (5, []), (6, [1]), (9, []), (10, [1]), (13, []), (14, [1]), (17, []), (18, [1])] (.i 61 (.slice s.cl[i].ta s.cl[i].stack.length s.cl[i].tc) (.i 57 (.slice s.cl[i].sa s.cl[i].slots.length s.cl[i].sc) (.i 53 (.int .i64 s.cl[i].m) (.i 49 (.int .i64 s.cl[i].t) (.i 45 (.int .i64 s.cl[i].u) (.i 43 (.string (mkS b2)) (.d (.k .a)))))))) (#[true, true, true, false, false, true, true, false, false, true, true, false, false, true, true, false, false, true, true, false, false, false]) ?_
    refine AC (dst := some 46) 10 3 .a (RInt_spec s.cl[i].u u1 u2) (GI []) [1, 5] ?_
    rintro r _ ⟨rfl, rfl⟩
    refine wpa_take true [(4, [])] ([(47, .string (mkS (b2 ++ encI s.cl[i].u))), (61, .slice s.cl[i].ta s.cl[i].stack.length s.cl[i].tc), (57, .slice s.cl[i].sa s.cl[i].slots.length s.cl[i].sc), (53, .int .i64 s.cl[i].m), (49, .int .i64 s.cl[i].t), (4, .int .i64 (↑i : Int)), (3, .string (mkS b2)), (2, .string ⟨#[]⟩), (1, .pointer (some ⟨g1, 0, none⟩))]) (#[true, true, true, true, true, true, true, false, false, true, true, false, false, true, true, false, false, true, true, false, false, false]) ([b2.length + (encI s.cl[i].u).length ≤ (9223372036854775807 : Nat)]) (n := 9) (by kernel_rfl) (by kernel_rfl) (by kernel_rfl) ⟨by omega, trivial⟩ ?_
    refine AC (dst := some 50) 8 7 .a (RInt_spec s.cl[i].t t1 t2) (GI []) [1, 5] ?_
    rintro r _ ⟨rfl, rfl⟩
    refine wpa_take true [(8, [])] ([(51, .string (mkS (b2 ++ encI s.cl[i].u ++ encI s.cl[i].t))), (61, .slice s.cl[i].ta s.cl[i].stack.length s.cl[i].tc), (57, .slice s.cl[i].sa s.cl[i].slots.length s.cl[i].sc), (53, .int .i64 s.cl[i].m), (4, .int .i64 (↑i : Int)), (3, .string (mkS b2)), (2, .string ⟨#[]⟩), (1, .pointer (some ⟨g1, 0, none⟩))]) (#[true, true, true, true, true, true, true, true, true, true, true, false, false, true, true, false, false, true, true, false, false, false]) ([(b2 ++ encI s.cl[i].u).length + (encI s.cl[i].t).length ≤ (9223372036854775807 : Nat)]) (n := 7) (by kernel_rfl) (by kernel_rfl) (by kernel_rfl) ⟨by simp only [List.length_append, List.length_cons, List.length_nil, show ∀ l : List UInt8, (ByteArray.mk l.toArray).size = l.length from fun _ => rfl]; omega, trivial⟩ ?_
    refine AC (dst := some 54) 6 11 .a (RInt_spec s.cl[i].m m1 m2) (GI []) [1, 5] ?_
    rintro r _ ⟨rfl, rfl⟩
    refine wpa_take true [(12, [])] ([(55, .string (mkS (b2 ++ encI s.cl[i].u ++ encI s.cl[i].t ++ encI s.cl[i].m))), (61, .slice s.cl[i].ta s.cl[i].stack.length s.cl[i].tc), (57, .slice s.cl[i].sa s.cl[i].slots.length s.cl[i].sc), (4, .int .i64 (↑i : Int)), (3, .string (mkS b2)), (2, .string ⟨#[]⟩), (1, .pointer (some ⟨g1, 0, none⟩))]) (#[true, true, true, true, true, true, true, true, true, true, true, true, true, true, true, false, false, true, true, false, false, false]) ([(b2 ++ encI s.cl[i].u ++ encI s.cl[i].t).length + (encI s.cl[i].m).length ≤ (9223372036854775807 : Nat)]) (n := 5) (by kernel_rfl) (by kernel_rfl) (by kernel_rfl) ⟨by simp only [List.length_append, List.length_cons, List.length_nil, show ∀ l : List UInt8, (ByteArray.mk l.toArray).size = l.length from fun _ => rfl]; omega, trivial⟩ ?_
    refine wpa_ent (ent_copy 1 (ro s.cl[i].sa (s.cl[i].slots.flatMap valC)) rfl (fun h => h) (view_in (clRo_in1 hlt) view_ro)) ?_
    refine wpa_ent (ent_copy 2 (ro s.cl[i].ta (s.cl[i].stack.flatMap valC)) rfl (fun h => h) (view_in (clRo_in2 hlt) view_ro)) ?_
    refine AC (dst := some 58) 4 15 .a (rall_spec s.cl[i].sa s.cl[i].sc s.cl[i].slots x1 x3 (by omega)) (GV (GI []) 1 view_ro) [3, 7] ?_
    rintro r _ ⟨rfl, rfl⟩
    refine wpa_take true [(16, [])] ([(59, .string (mkS (b2 ++ encI s.cl[i].u ++ encI s.cl[i].t ++ encI s.cl[i].m ++ encVs s.cl[i].slots))), (61, .slice s.cl[i].ta s.cl[i].stack.length s.cl[i].tc), (4, .int .i64 (↑i : Int)), (3, .string (mkS b2)), (2, .string ⟨#[]⟩), (1, .pointer (some ⟨g1, 0, none⟩))]) (#[true, true, true, true, true, true, true, true, true, true, true, true, true, true, true, true, true, true, true, false, false, false]) ([(b2 ++ encI s.cl[i].u ++ encI s.cl[i].t ++ encI s.cl[i].m).length + (encVs s.cl[i].slots).length ≤ (9223372036854775807 : Nat)]) (n := 3) (by kernel_rfl) (by kernel_rfl) (by kernel_rfl) ⟨by simp only [List.length_append, List.length_cons, List.length_nil, show ∀ l : List UInt8, (ByteArray.mk l.toArray).size = l.length from fun _ => rfl]; omega, trivial⟩ ?_
    refine AC (dst := some 62) 2 19 .a (rall_spec s.cl[i].ta s.cl[i].tc s.cl[i].stack x2 x4 (by omega)) (GV (GI []) 0 view_ro) [3, 7] ?_
    rintro r _ ⟨rfl, rfl⟩
    refine wpa_take true [(20, []), (21, [])] ([(3, .string (mkS (b2 ++ encI s.cl[i].u ++ encI s.cl[i].t ++ encI s.cl[i].m ++ encVs s.cl[i].slots ++ encVs s.cl[i].stack))), (4, .int .i64 (↑i : Int)), (2, .string ⟨#[]⟩), (1, .pointer (some ⟨g1, 0, none⟩))]) (#[true, true, true, true, true, true, true, true, true, true, true, true, true, true, true, true, true, true, true, true, true, true]) ([(b2 ++ encI s.cl[i].u ++ encI s.cl[i].t ++ encI s.cl[i].m ++ encVs s.cl[i].slots).length + (encVs s.cl[i].stack).length ≤ (9223372036854775807 : Nat)]) (n := 0) (by kernel_rfl) (by kernel_rfl) (by kernel_rfl) ⟨by simp only [List.length_append, List.length_cons, List.length_nil, show ∀ l : List UInt8, (ByteArray.mk l.toArray).size = l.length from fun _ => rfl]; omega, trivial⟩ ?_
    refine wpa_done 0 (by kernel_rfl) ?_
    refine BN (NT (RG ?_))
    refine RV true [] .z (.i 4 (.int .i64 ((↑i : Int) + 1)) (.k (.d (.k .a)))) .a ([inI64 ((↑i : Int) + (1 : Int))]) ⟨by unfold inI64; omega, trivial⟩ ?_
    refine RZ ?_
    rw [show b2 ++ encI s.cl[i].u ++ encI s.cl[i].t ++ encI s.cl[i].m ++ encVs s.cl[i].slots ++ encVs s.cl[i].stack = b0 ++ ((s.cl.map Cl.p).take (i + 1)).flatMap encC from by rw [hb2, take_map_snoc Cl.p encC hlt]; unfold encC Cl.p; simp]
    rw [← hca]
    exact fun a' w' hS' => ⟨⟨i + 1, hlt⟩, by dsimp only; omega, ent_fr (by kernel_rfl) _ _ (ent_hp [2, 2, 2, 2, 2] rfl _ _ hS')⟩
  · obtain rfl : i = s.cl.length := by omega
    rw [show (s.cl.map Cl.p).take s.cl.length = s.cl.map Cl.p from by rw [List.take_of_length_le (by rw [List.length_map]; exact Nat.le_refl _)]]
    obtain ⟨b3, hb3⟩ : ∃ b3, b3 = b0 ++ (s.cl.map Cl.p).flatMap encC := ⟨_, rfl⟩
    have hbl3 : b3.length = b0.length + ((s.cl.map Cl.p).flatMap encC).length := by rw [hb3, List.length_append]
    rw [← hb3]
    refine SQ (SQ (RG ?_))
    refine RR [4] .z (.i 35 (.bool (decide ((↑s.cl.length : Int) < (↑s.cl.length : Int)))) .a) .a ?_
    refine RZ (NT ?_)
    refine SC 35 (decide ((↑s.cl.length : Int) < (↑s.cl.length : Int))) false (by simp) ?_
    refine CF (EX (TE (TE (BH (NT (SQ (RG ?_)))))))
    refine RR [4] (.d (.d (.d (.d .a)))) (.i 67 (.int .i64 (↑s.hl.length : Int)) (.i 64 (.string (mkS b3)) (.d (.d (.d (.k .a)))))) .a ?_
    refine RC (dst := some 68) [] .a (RInt_spec s.hl.length (by omega) (by omega)) ?_
    rintro r _ ⟨rfl, rfl⟩
    refine RV true [] .z (.i 3 (.string (mkS (b3 ++ encI (↑s.hl.length : Int)))) (.d (.d (.d (.d (.k .a)))))) .a ([b3.length + (encI (↑s.hl.length : Int)).length ≤ (9223372036854775807 : Nat)]) ⟨by omega, trivial⟩ ?_
    refine RZ (NT (SQ (SQ (RG ?_))))
    refine RR [] .z (.i 6 (.int .i64 0) .a) .a ?_
    refine RZ (NT (BK ?_))
    obtain ⟨b4, hb4⟩ : ∃ b4, b4 = b3 ++ encI s.hl.length := ⟨_, rfl⟩
    have hbl4 : b4.length = b3.length + (encI s.hl.length).length := by rw [hb4, List.length_append]
    rw [← hb4]
    refine wpc_loop (X := {i : Nat // i ≤ s.hl.length}) (fun x => St.mk [(6, .int .i64 (x.1 : Int)), (3, .string (mkS (b4 ++ ((s.hl.map Ob.o).take x.1).flatMap encO))), (2, .string ⟨#[]⟩), (1, .pointer (some ⟨g1, 0, none⟩))] [ro s.ha (s.hl.flatMap objC), gBag s.hl, .blk g1 75 [.int .i64 s.pos, .int .i64 s.st, .int .i64 s.fa, .slice s.ca s.cl.length s.cc, .slice s.ha s.hl.length s.hc, .string (mkS s.out), .int .i64 s.rd]]) (fun x => s.hl.length - x.1) ⟨0, Nat.zero_le _⟩ ?_ ?_
    · show Ent _ _ (St.mk [_, (3, .string (mkS (b4 ++ []))), _, _] _)
      rw [List.append_nil]
      exact Ent.trans (ent_hp [2, 2, 2] rfl) (ent_fr (by kernel_rfl))
    rintro ⟨i, hi⟩
    dsimp only at hi ⊢
    by_cases hlt : i < s.hl.length
    · have hme := mem_flat_len encO (l := s.hl.map Ob.o) (i := i) (by rw [List.length_map]; exact hlt)
      rw [List.getElem_map] at hme
      obtain ⟨b2, hb2⟩ : ∃ b2, b2 = b4 ++ ((s.hl.map Ob.o).take i).flatMap encO := ⟨_, rfl⟩
      have hbl : b2.length = b4.length + (((s.hl.map Ob.o).take i).flatMap encO).length := by rw [hb2, List.length_append]
      rw [← hb2]
      have v1 := (hh2 _ (List.getElem_mem hlt)).1
      have v2 := (hh2 _ (List.getElem_mem hlt)).2.2.1
      have v3 := hh3 _ (List.getElem_mem hlt)
      have hxl : (encO s.hl[i].o).length = (encT s.hl[i].tag).length + (encVs s.hl[i].cells).length := by
        unfold encO Ob.o; simp only [List.length_append]
      refine wpc_fact (fun w h => ro_addr h 0 rfl (by rw [objs_len]; omega)) ?_
      rintro ⟨g0, o0, hha⟩
      rw [hha]
      refine SQ (SQ (RG ?_))
      refine RR [2] .z (.i 74 (.bool (decide ((↑i : Int) < (↑s.hl.length : Int)))) .a) .a ?_
      refine RZ (NT ?_)
      refine SC 74 (decide ((↑i : Int) < (↑s.hl.length : Int))) true (decide_eq_true (by omega)) ?_
      refine CT (SK (NT (SQ (BK ?_))))
      refine wpc_draw (by kernel_rfl) [ro (some ⟨g0, o0, none⟩) (List.flatMap objC s.hl), .blk g1 75 [.int .i64 s.pos, .int .i64 s.st, .int .i64 s.fa, .slice s.ca s.cl.length s.cc, .slice (some ⟨g0, o0, none⟩) s.hl.length s.hc, .string (mkS s.out), .int .i64 s.rd]] (sub_of [0, 2] (by kernel_rfl)) 18 (by kernel_rfl) ?_
      refine wpa_take true [(0, []), (1, []), (2, [1]), (3, []), (4, []), (5, []), (9, []), (10, [1]), (11, []), (12, []), (13, [])] ([(90, .pointer (some ⟨g0, o0 + i * 2 + 1, none⟩)), (82, .pointer (some ⟨g0, o0 + i * 2, none⟩)), (77, .string (mkS b2)), (6, .int .i64 (↑i : Int)), (3, .string (mkS b2)), (2, .string ⟨#[]⟩), (1, .pointer (some ⟨g1, 0, none⟩))]) (#[true, true, true, true, true, true, false, false, false, true, true, true, true, true, false, false, false, false]) [(0 : Int) ≤ (↑i : Int) ∧ (↑i : Int) < (↑s.hl.length : Int), (0 : Int) ≤ (↑i : Int) ∧ (↑i : Int) < (↑s.hl.length : Int)] (n := 7) (by kernel_rfl) (by kernel_rfl) (by kernel_rfl) ⟨by omega, by omega, trivial⟩ ?_
      refine wpa_qld (i := 6) (n := 6) (by kernel_rfl) (by kernel_rfl) (by kernel_rfl) (t := 9) (a := ⟨g0, o0 + i * 2, none⟩) (dst := some 83) (by kernel_rfl) false 1 (by kernel_rfl) (by simp) [.string (mkS s.hl[i].tag)] rfl (fun w h => ld_roL h 0 rfl (i * 2 + 0) (obj_fld hlt 0 1 (by decide))) ?_
      refine wpa_qld (i := 14) (n := 5) (by kernel_rfl) (by kernel_rfl) (by kernel_rfl) (t := 25) (a := ⟨g0, o0 + i * 2 + 1, none⟩) (dst := some 91) (by kernel_rfl) false 1 (by kernel_rfl) (by simp) [.slice s.hl[i].a s.hl[i].cells.length s.hl[i].c] rfl (fun w h => ld_roL h 0 rfl (i * 2 + 1) (obj_fld hlt 1 1 (by decide))) ?_
      refine AC (dst := some 84) 4 7 .a (RText_spec s.hl[i].tag (by omega)) (GI []) [0, 2] ?_
      rintro r _ ⟨rfl, rfl⟩
      refine wpa_take true [(8, [])] ([(85, .string (mkS (b2 ++ encT s.hl[i].tag))), (91, .slice s.hl[i].a s.hl[i].cells.length s.hl[i].c), (6, .int .i64 (↑i : Int)), (3, .string (mkS b2)), (2, .string ⟨#[]⟩), (1, .pointer (some ⟨g1, 0, none⟩))]) (#[true, true, true, true, true, true, true, true, true, true, true, true, true, true, true, false, false, false]) ([b2.length + (encT s.hl[i].tag).length ≤ (9223372036854775807 : Nat)]) (n := 3) (by kernel_rfl) (by kernel_rfl) (by kernel_rfl) ⟨by omega, trivial⟩ ?_
      refine wpa_ent (ent_copy 1 (ro s.hl[i].a (s.hl[i].cells.flatMap valC)) rfl (fun h => h) (view_in (obRo_in hlt) view_ro)) ?_
      refine AC (dst := some 92) 2 15 .a (rall_spec s.hl[i].a s.hl[i].c s.hl[i].cells v2 v3 (by omega)) (GV (GI []) 0 view_ro) [1, 3] ?_
      rintro r _ ⟨rfl, rfl⟩
      refine wpa_take true [(16, []), (17, [])] ([(3, .string (mkS (b2 ++ encT s.hl[i].tag ++ encVs s.hl[i].cells))), (6, .int .i64 (↑i : Int)), (2, .string ⟨#[]⟩), (1, .pointer (some ⟨g1, 0, none⟩))]) (#[true, true, true, true, true, true, true, true, true, true, true, true, true, true, true, true, true, true]) ([(b2 ++ encT s.hl[i].tag).length + (encVs s.hl[i].cells).length ≤ (9223372036854775807 : Nat)]) (n := 0) (by kernel_rfl) (by kernel_rfl) (by kernel_rfl) ⟨by simp only [List.length_append, List.length_cons, List.length_nil, show ∀ l : List UInt8, (ByteArray.mk l.toArray).size = l.length from fun _ => rfl]; omega, trivial⟩ ?_
      refine wpa_done 0 (by kernel_rfl) ?_
      refine BN (NT (RG ?_))
      refine RV true [] .z (.i 6 (.int .i64 ((↑i : Int) + 1)) (.k (.d (.k .a)))) .a ([inI64 ((↑i : Int) + (1 : Int))]) ⟨by unfold inI64; omega, trivial⟩ ?_
      refine RZ ?_
      rw [show b2 ++ encT s.hl[i].tag ++ encVs s.hl[i].cells = b4 ++ ((s.hl.map Ob.o).take (i + 1)).flatMap encO from by rw [hb2, take_map_snoc Ob.o encO hlt]; unfold encO Ob.o; simp]
      rw [← hha]
      exact fun a' w' hS' => ⟨⟨i + 1, hlt⟩, by dsimp only; omega, ent_fr (by kernel_rfl) _ _ (ent_hp [1, 1, 1] rfl _ _ hS')⟩
    · obtain rfl : i = s.hl.length := by omega
      rw [show (s.hl.map Ob.o).take s.hl.length = s.hl.map Ob.o from by rw [List.take_of_length_le (by rw [List.length_map]; exact Nat.le_refl _)]]
      refine SQ (SQ (RG ?_))
      refine RR [2] .z (.i 74 (.bool (decide ((↑s.hl.length : Int) < (↑s.hl.length : Int)))) .a) .a ?_
      refine RZ (NT ?_)
      refine SC 74 (decide ((↑s.hl.length : Int) < (↑s.hl.length : Int))) false (by simp) ?_
      refine CF (EX (TE (TE (BH (NT (SQ (RG ?_)))))))
      refine RR [] .z (.i 2 (.string (mkS (b4 ++ List.flatMap encO (List.map Ob.o s.hl)))) .z) .a ?_
      refine RZ (NT (RE ?_))
      refine NE [] .z .a [] (.string (mkS (b4 ++ List.flatMap encO (List.map Ob.o s.hl)))) ?_
      refine ⟨?_, rfl⟩
      rw [hb4, hb3, hb0]
      unfold encS encCs encOs Sv.p
      simp
end Go.Proofs.YtpfhleghgkeemaaGreatDoor
namespace Go.Proofs.YtpfhleghgkeemaaGreatDoor
open Go Go.Sx
/-! The document's: may a state be told? Its check, its bytes. -/
set_option maxHeartbeats 8000000 in
theorem rMay_spec (s : Sv) (hs : s.ok) : Does Tryz.prog 73 [.agg (svC s).toArray] [ro s.ca (s.cl.flatMap clC), gCl s.cl, ro s.ha (s.hl.flatMap objC), gBag s.hl] (fun r hp' => r = .bool (mayB s.p) ∧ hp' = []) := by
  obtain ⟨⟨p1, p2⟩, ⟨s1, s2⟩, ⟨f1, f2⟩, ⟨r1, r2⟩, hc1, hc2, hh1, hh2, hh3, ho, hu⟩ := hs
  have hms : (mkS s.out).size = s.out.length := mkS_size _
  have hLd := rLoad_spec 4096 s.ha s.hc s.hl hh1 hh2 hu
  unfold svC
  cases hH : headB s.p with
  | false =>
    rw [show mayB s.p = false from by unfold mayB; rw [hH]; rfl]
    by_cases k0 : ¬ 0 ≤ s.pos
    · refine fn_enter Tryz.func73 rfl 110 rfl fun w0 h0 => ?_
      refine SQ (RG ?_)
      refine RP [] (.d .a) 1 .z .a 75 [.int .i64 s.pos, .int .i64 s.st, .int .i64 s.fa, .slice s.ca s.cl.length s.cc, .slice s.ha s.hl.length s.hc, .string (mkS s.out), .int .i64 s.rd] fun g1 => ?_
      refine RR [] .z (.i 2 (.bool false) .a) .a ?_
      refine RZ (NT (SQ (SQ (RG ?_))))
      refine RR [4] (.d (.d (.d (.d .a)))) (.i 11 (.bool (decide (s.pos < (0 : Int)))) .a) .a ?_
      refine SR 11 (decide (s.pos < (0 : Int))) true (decide_eq_true (by omega)) ?_
      refine RR [] .z (.i 47 (.bool true) (.d (.d (.k .a)))) .a ?_
      refine RZ (NT (CT (SQ (RG ?_))))
      refine RR [] .z (.d (.k .a)) .a ?_
      refine RZ (NT (RE (TR ?_)))
      refine NE [] .z .a [] (.bool false) ?_
      exact ⟨rfl, rfl⟩
    rw [Decidable.not_not] at k0
    by_cases k1 : ¬ 0 ≤ s.rd
    · refine fn_enter Tryz.func73 rfl 110 rfl fun w0 h0 => ?_
      refine SQ (RG ?_)
      refine RP [] (.d .a) 1 .z .a 75 [.int .i64 s.pos, .int .i64 s.st, .int .i64 s.fa, .slice s.ca s.cl.length s.cc, .slice s.ha s.hl.length s.hc, .string (mkS s.out), .int .i64 s.rd] fun g1 => ?_
      refine RR [] .z (.i 2 (.bool false) .a) .a ?_
      refine RZ (NT (SQ (SQ (RG ?_))))
      refine RR [4] (.d (.d (.d (.d .a)))) (.i 11 (.bool (decide (s.pos < (0 : Int)))) .a) .a ?_
      refine SR 11 (decide (s.pos < (0 : Int))) false (decide_eq_false (by omega)) ?_
      refine RR [4] (.d (.d (.d (.d (.d .a))))) (.i 16 (.bool (decide (s.rd < (0 : Int)))) (.d (.d (.k .a)))) .a ?_
      refine SR 16 (decide (s.rd < (0 : Int))) true (decide_eq_true (by omega)) ?_
      refine RR [] .z (.i 47 (.bool true) (.d (.d (.k .a)))) .a ?_
      refine RZ (NT (CT (SQ (RG ?_))))
      refine RR [] .z (.d (.k .a)) .a ?_
      refine RZ (NT (RE (TR ?_)))
      refine NE [] .z .a [] (.bool false) ?_
      exact ⟨rfl, rfl⟩
    rw [Decidable.not_not] at k1
    by_cases k2 : ¬ 0 ≤ s.st
    · refine fn_enter Tryz.func73 rfl 110 rfl fun w0 h0 => ?_
      refine SQ (RG ?_)
      refine RP [] (.d .a) 1 .z .a 75 [.int .i64 s.pos, .int .i64 s.st, .int .i64 s.fa, .slice s.ca s.cl.length s.cc, .slice s.ha s.hl.length s.hc, .string (mkS s.out), .int .i64 s.rd] fun g1 => ?_
      refine RR [] .z (.i 2 (.bool false) .a) .a ?_
      refine RZ (NT (SQ (SQ (RG ?_))))
      refine RR [4] (.d (.d (.d (.d .a)))) (.i 11 (.bool (decide (s.pos < (0 : Int)))) .a) .a ?_
      refine SR 11 (decide (s.pos < (0 : Int))) false (decide_eq_false (by omega)) ?_
      refine RR [4] (.d (.d (.d (.d (.d .a))))) (.i 16 (.bool (decide (s.rd < (0 : Int)))) (.d (.d (.k .a)))) .a ?_
      refine SR 16 (decide (s.rd < (0 : Int))) false (decide_eq_false (by omega)) ?_
      refine RR [4] (.d (.d (.d (.d (.d .a))))) (.i 21 (.bool (decide (s.st < (0 : Int)))) (.d (.d (.k .a)))) .a ?_
      refine SR 21 (decide (s.st < (0 : Int))) true (decide_eq_true (by omega)) ?_
      refine RR [] .z (.i 47 (.bool true) (.d (.d (.k .a)))) .a ?_
      refine RZ (NT (CT (SQ (RG ?_))))
      refine RR [] .z (.d (.k .a)) .a ?_
      refine RZ (NT (RE (TR ?_)))
      refine NE [] .z .a [] (.bool false) ?_
      exact ⟨rfl, rfl⟩
    rw [Decidable.not_not] at k2
    by_cases k3 : ¬ s.st ≤ 2
    · refine fn_enter Tryz.func73 rfl 110 rfl fun w0 h0 => ?_
      refine SQ (RG ?_)
      refine RP [] (.d .a) 1 .z .a 75 [.int .i64 s.pos, .int .i64 s.st, .int .i64 s.fa, .slice s.ca s.cl.length s.cc, .slice s.ha s.hl.length s.hc, .string (mkS s.out), .int .i64 s.rd] fun g1 => ?_
      refine RR [] .z (.i 2 (.bool false) .a) .a ?_
      refine RZ (NT (SQ (SQ (RG ?_))))
      refine RR [4] (.d (.d (.d (.d .a)))) (.i 11 (.bool (decide (s.pos < (0 : Int)))) .a) .a ?_
      refine SR 11 (decide (s.pos < (0 : Int))) false (decide_eq_false (by omega)) ?_
      refine RR [4] (.d (.d (.d (.d (.d .a))))) (.i 16 (.bool (decide (s.rd < (0 : Int)))) (.d (.d (.k .a)))) .a ?_
      refine SR 16 (decide (s.rd < (0 : Int))) false (decide_eq_false (by omega)) ?_
      refine RR [4] (.d (.d (.d (.d (.d .a))))) (.i 21 (.bool (decide (s.st < (0 : Int)))) (.d (.d (.k .a)))) .a ?_
      refine SR 21 (decide (s.st < (0 : Int))) false (decide_eq_false (by omega)) ?_
      refine RR [4] (.d (.d (.d (.d (.d .a))))) (.i 26 (.bool (decide (s.st > (2 : Int)))) (.d (.d (.k .a)))) .a ?_
      refine SR 26 (decide (s.st > (2 : Int))) true (decide_eq_true (by omega)) ?_
      refine RR [] .z (.i 47 (.bool true) (.d (.d (.k .a)))) .a ?_
      refine RZ (NT (CT (SQ (RG ?_))))
      refine RR [] .z (.d (.k .a)) .a ?_
      refine RZ (NT (RE (TR ?_)))
      refine NE [] .z .a [] (.bool false) ?_
      exact ⟨rfl, rfl⟩
    rw [Decidable.not_not] at k3
    by_cases k4 : ¬ 0 ≤ s.fa
    · refine fn_enter Tryz.func73 rfl 110 rfl fun w0 h0 => ?_
      refine SQ (RG ?_)
      refine RP [] (.d .a) 1 .z .a 75 [.int .i64 s.pos, .int .i64 s.st, .int .i64 s.fa, .slice s.ca s.cl.length s.cc, .slice s.ha s.hl.length s.hc, .string (mkS s.out), .int .i64 s.rd] fun g1 => ?_
      refine RR [] .z (.i 2 (.bool false) .a) .a ?_
      refine RZ (NT (SQ (SQ (RG ?_))))
      refine RR [4] (.d (.d (.d (.d .a)))) (.i 11 (.bool (decide (s.pos < (0 : Int)))) .a) .a ?_
      refine SR 11 (decide (s.pos < (0 : Int))) false (decide_eq_false (by omega)) ?_
      refine RR [4] (.d (.d (.d (.d (.d .a))))) (.i 16 (.bool (decide (s.rd < (0 : Int)))) (.d (.d (.k .a)))) .a ?_
      refine SR 16 (decide (s.rd < (0 : Int))) false (decide_eq_false (by omega)) ?_
      refine RR [4] (.d (.d (.d (.d (.d .a))))) (.i 21 (.bool (decide (s.st < (0 : Int)))) (.d (.d (.k .a)))) .a ?_
      refine SR 21 (decide (s.st < (0 : Int))) false (decide_eq_false (by omega)) ?_
      refine RR [4] (.d (.d (.d (.d (.d .a))))) (.i 26 (.bool (decide (s.st > (2 : Int)))) (.d (.d (.k .a)))) .a ?_
      refine SR 26 (decide (s.st > (2 : Int))) false (decide_eq_false (by omega)) ?_
      refine RR [4] (.d (.d (.d (.d (.d .a))))) (.i 31 (.bool (decide (s.fa < (0 : Int)))) (.d (.d (.k .a)))) .a ?_
      refine SR 31 (decide (s.fa < (0 : Int))) true (decide_eq_true (by omega)) ?_
      refine RR [] .z (.i 47 (.bool true) (.d (.d (.k .a)))) .a ?_
      refine RZ (NT (CT (SQ (RG ?_))))
      refine RR [] .z (.d (.k .a)) .a ?_
      refine RZ (NT (RE (TR ?_)))
      refine NE [] .z .a [] (.bool false) ?_
      exact ⟨rfl, rfl⟩
    rw [Decidable.not_not] at k4
    by_cases k5 : ¬ s.fa ≤ 10
    · refine fn_enter Tryz.func73 rfl 110 rfl fun w0 h0 => ?_
      refine SQ (RG ?_)
      refine RP [] (.d .a) 1 .z .a 75 [.int .i64 s.pos, .int .i64 s.st, .int .i64 s.fa, .slice s.ca s.cl.length s.cc, .slice s.ha s.hl.length s.hc, .string (mkS s.out), .int .i64 s.rd] fun g1 => ?_
      refine RR [] .z (.i 2 (.bool false) .a) .a ?_
      refine RZ (NT (SQ (SQ (RG ?_))))
      refine RR [4] (.d (.d (.d (.d .a)))) (.i 11 (.bool (decide (s.pos < (0 : Int)))) .a) .a ?_
      refine SR 11 (decide (s.pos < (0 : Int))) false (decide_eq_false (by omega)) ?_
      refine RR [4] (.d (.d (.d (.d (.d .a))))) (.i 16 (.bool (decide (s.rd < (0 : Int)))) (.d (.d (.k .a)))) .a ?_
      refine SR 16 (decide (s.rd < (0 : Int))) false (decide_eq_false (by omega)) ?_
      refine RR [4] (.d (.d (.d (.d (.d .a))))) (.i 21 (.bool (decide (s.st < (0 : Int)))) (.d (.d (.k .a)))) .a ?_
      refine SR 21 (decide (s.st < (0 : Int))) false (decide_eq_false (by omega)) ?_
      refine RR [4] (.d (.d (.d (.d (.d .a))))) (.i 26 (.bool (decide (s.st > (2 : Int)))) (.d (.d (.k .a)))) .a ?_
      refine SR 26 (decide (s.st > (2 : Int))) false (decide_eq_false (by omega)) ?_
      refine RR [4] (.d (.d (.d (.d (.d .a))))) (.i 31 (.bool (decide (s.fa < (0 : Int)))) (.d (.d (.k .a)))) .a ?_
      refine SR 31 (decide (s.fa < (0 : Int))) false (decide_eq_false (by omega)) ?_
      refine RR [4] (.d (.d (.d (.d (.d .a))))) (.i 36 (.bool (decide (s.fa > (10 : Int)))) (.d (.d (.k .a)))) .a ?_
      refine SR 36 (decide (s.fa > (10 : Int))) true (decide_eq_true (by omega)) ?_
      refine RR [] .z (.i 47 (.bool true) (.d (.d (.k .a)))) .a ?_
      refine RZ (NT (CT (SQ (RG ?_))))
      refine RR [] .z (.d (.k .a)) .a ?_
      refine RZ (NT (RE (TR ?_)))
      refine NE [] .z .a [] (.bool false) ?_
      exact ⟨rfl, rfl⟩
    rw [Decidable.not_not] at k5
    by_cases k6 : ¬ s.cl.length ≤ 64
    · refine fn_enter Tryz.func73 rfl 110 rfl fun w0 h0 => ?_
      refine SQ (RG ?_)
      refine RP [] (.d .a) 1 .z .a 75 [.int .i64 s.pos, .int .i64 s.st, .int .i64 s.fa, .slice s.ca s.cl.length s.cc, .slice s.ha s.hl.length s.hc, .string (mkS s.out), .int .i64 s.rd] fun g1 => ?_
      refine RR [] .z (.i 2 (.bool false) .a) .a ?_
      refine RZ (NT (SQ (SQ (RG ?_))))
      refine RR [4] (.d (.d (.d (.d .a)))) (.i 11 (.bool (decide (s.pos < (0 : Int)))) .a) .a ?_
      refine SR 11 (decide (s.pos < (0 : Int))) false (decide_eq_false (by omega)) ?_
      refine RR [4] (.d (.d (.d (.d (.d .a))))) (.i 16 (.bool (decide (s.rd < (0 : Int)))) (.d (.d (.k .a)))) .a ?_
      refine SR 16 (decide (s.rd < (0 : Int))) false (decide_eq_false (by omega)) ?_
      refine RR [4] (.d (.d (.d (.d (.d .a))))) (.i 21 (.bool (decide (s.st < (0 : Int)))) (.d (.d (.k .a)))) .a ?_
      refine SR 21 (decide (s.st < (0 : Int))) false (decide_eq_false (by omega)) ?_
      refine RR [4] (.d (.d (.d (.d (.d .a))))) (.i 26 (.bool (decide (s.st > (2 : Int)))) (.d (.d (.k .a)))) .a ?_
      refine SR 26 (decide (s.st > (2 : Int))) false (decide_eq_false (by omega)) ?_
      refine RR [4] (.d (.d (.d (.d (.d .a))))) (.i 31 (.bool (decide (s.fa < (0 : Int)))) (.d (.d (.k .a)))) .a ?_
      refine SR 31 (decide (s.fa < (0 : Int))) false (decide_eq_false (by omega)) ?_
      refine RR [4] (.d (.d (.d (.d (.d .a))))) (.i 36 (.bool (decide (s.fa > (10 : Int)))) (.d (.d (.k .a)))) .a ?_
      refine SR 36 (decide (s.fa > (10 : Int))) false (decide_eq_false (by omega)) ?_
      refine RR [4] (.d (.d (.d (.d (.d (.d .a)))))) (.i 42 (.bool (decide ((↑s.cl.length : Int) > (64 : Int)))) (.d (.d (.k .a)))) .a ?_
      refine SR 42 (decide ((↑s.cl.length : Int) > (64 : Int))) true (decide_eq_true (by omega)) ?_
      refine RR [] .z (.i 47 (.bool true) (.d (.d (.k .a)))) .a ?_
      refine RZ (NT (CT (SQ (RG ?_))))
      refine RR [] .z (.d (.k .a)) .a ?_
      refine RZ (NT (RE (TR ?_)))
      refine NE [] .z .a [] (.bool false) ?_
      exact ⟨rfl, rfl⟩
    rw [Decidable.not_not] at k6
    by_cases k7 : ¬ s.out.length ≤ 4096
    · refine fn_enter Tryz.func73 rfl 110 rfl fun w0 h0 => ?_
      refine SQ (RG ?_)
      refine RP [] (.d .a) 1 .z .a 75 [.int .i64 s.pos, .int .i64 s.st, .int .i64 s.fa, .slice s.ca s.cl.length s.cc, .slice s.ha s.hl.length s.hc, .string (mkS s.out), .int .i64 s.rd] fun g1 => ?_
      refine RR [] .z (.i 2 (.bool false) .a) .a ?_
      refine RZ (NT (SQ (SQ (RG ?_))))
      refine RR [4] (.d (.d (.d (.d .a)))) (.i 11 (.bool (decide (s.pos < (0 : Int)))) .a) .a ?_
      refine SR 11 (decide (s.pos < (0 : Int))) false (decide_eq_false (by omega)) ?_
      refine RR [4] (.d (.d (.d (.d (.d .a))))) (.i 16 (.bool (decide (s.rd < (0 : Int)))) (.d (.d (.k .a)))) .a ?_
      refine SR 16 (decide (s.rd < (0 : Int))) false (decide_eq_false (by omega)) ?_
      refine RR [4] (.d (.d (.d (.d (.d .a))))) (.i 21 (.bool (decide (s.st < (0 : Int)))) (.d (.d (.k .a)))) .a ?_
      refine SR 21 (decide (s.st < (0 : Int))) false (decide_eq_false (by omega)) ?_
      refine RR [4] (.d (.d (.d (.d (.d .a))))) (.i 26 (.bool (decide (s.st > (2 : Int)))) (.d (.d (.k .a)))) .a ?_
      refine SR 26 (decide (s.st > (2 : Int))) false (decide_eq_false (by omega)) ?_
      refine RR [4] (.d (.d (.d (.d (.d .a))))) (.i 31 (.bool (decide (s.fa < (0 : Int)))) (.d (.d (.k .a)))) .a ?_
      refine SR 31 (decide (s.fa < (0 : Int))) false (decide_eq_false (by omega)) ?_
      refine RR [4] (.d (.d (.d (.d (.d .a))))) (.i 36 (.bool (decide (s.fa > (10 : Int)))) (.d (.d (.k .a)))) .a ?_
      refine SR 36 (decide (s.fa > (10 : Int))) false (decide_eq_false (by omega)) ?_
      refine RR [4] (.d (.d (.d (.d (.d (.d .a)))))) (.i 42 (.bool (decide ((↑s.cl.length : Int) > (64 : Int)))) (.d (.d (.k .a)))) .a ?_
      refine SR 42 (decide ((↑s.cl.length : Int) > (64 : Int))) false (decide_eq_false (by omega)) ?_
      refine RR [4] .z (.i 47 (.bool (decide ((↑s.out.length : Int) > (4096 : Int)))) (.d (.d (.k .a)))) .a ?_
      refine RZ (NT ?_)
      refine SC 47 (decide ((↑s.out.length : Int) > (4096 : Int))) true (decide_eq_true (by omega)) ?_
      refine CT (SQ (RG ?_))
      refine RR [] .z (.d (.d (.k .a))) .a ?_
      refine RZ (NT (RE (TR ?_)))
      refine NE [] .z .a [] (.bool false) ?_
      exact ⟨rfl, rfl⟩
    rw [Decidable.not_not] at k7
    have : headB s.p = true := (headB_iff s.p).2 ⟨k0, k1, k2, k3, k4, k5, by show (s.cl.map Cl.p).length ≤ 64; rw [List.length_map]; exact k6, k7⟩
    rw [hH] at this; cases this
  | true =>
    have hH2 := (headB_iff s.p).1 hH
    obtain ⟨q1, q2, q3, q4, q5, q6, q7, q8⟩ := hH2
    have q1' : 0 ≤ s.pos := q1
    have q2' : 0 ≤ s.rd := q2
    have q3' : 0 ≤ s.st := q3
    have q4' : s.st ≤ 2 := q4
    have q5' : 0 ≤ s.fa := q5
    have q6' : s.fa ≤ 10 := q6
    have q7' : s.cl.length ≤ 64 := by have : (s.cl.map Cl.p).length ≤ 64 := q7; rwa [List.length_map] at this
    have q8' : s.out.length ≤ 4096 := q8
    refine fn_enter Tryz.func73 rfl 110 rfl fun w0 h0 => ?_
    refine SQ (RG ?_)
    refine RP [] (.d .a) 1 .z .a 75 [.int .i64 s.pos, .int .i64 s.st, .int .i64 s.fa, .slice s.ca s.cl.length s.cc, .slice s.ha s.hl.length s.hc, .string (mkS s.out), .int .i64 s.rd] fun g1 => ?_
    refine RR [] .z (.i 2 (.bool false) .a) .a ?_
    refine RZ (NT (SQ (SQ (RG ?_))))
    refine RR [4] (.d (.d (.d (.d .a)))) (.i 11 (.bool (decide (s.pos < (0 : Int)))) .a) .a ?_
    refine SR 11 (decide (s.pos < (0 : Int))) false (decide_eq_false (by omega)) ?_
    refine RR [4] (.d (.d (.d (.d (.d .a))))) (.i 16 (.bool (decide (s.rd < (0 : Int)))) (.d (.d (.k .a)))) .a ?_
    refine SR 16 (decide (s.rd < (0 : Int))) false (decide_eq_false (by omega)) ?_
    refine RR [4] (.d (.d (.d (.d (.d .a))))) (.i 21 (.bool (decide (s.st < (0 : Int)))) (.d (.d (.k .a)))) .a ?_
    refine SR 21 (decide (s.st < (0 : Int))) false (decide_eq_false (by omega)) ?_
    refine RR [4] (.d (.d (.d (.d (.d .a))))) (.i 26 (.bool (decide (s.st > (2 : Int)))) (.d (.d (.k .a)))) .a ?_
    refine SR 26 (decide (s.st > (2 : Int))) false (decide_eq_false (by omega)) ?_
    refine RR [4] (.d (.d (.d (.d (.d .a))))) (.i 31 (.bool (decide (s.fa < (0 : Int)))) (.d (.d (.k .a)))) .a ?_
    refine SR 31 (decide (s.fa < (0 : Int))) false (decide_eq_false (by omega)) ?_
    refine RR [4] (.d (.d (.d (.d (.d .a))))) (.i 36 (.bool (decide (s.fa > (10 : Int)))) (.d (.d (.k .a)))) .a ?_
    refine SR 36 (decide (s.fa > (10 : Int))) false (decide_eq_false (by omega)) ?_
    refine RR [4] (.d (.d (.d (.d (.d (.d .a)))))) (.i 42 (.bool (decide ((↑s.cl.length : Int) > (64 : Int)))) (.d (.d (.k .a)))) .a ?_
    refine SR 42 (decide ((↑s.cl.length : Int) > (64 : Int))) false (decide_eq_false (by omega)) ?_
    refine RR [4] .z (.i 47 (.bool (decide ((↑s.out.length : Int) > (4096 : Int)))) (.d (.d (.k .a)))) .a ?_
    refine RZ (NT ?_)
    refine SC 47 (decide ((↑s.out.length : Int) > (4096 : Int))) false (decide_eq_false (by omega)) ?_
    refine CF (SK (NT (SQ (SQ (RG ?_)))))
    refine RR [4] (.d (.d .a)) (.i 50 (.slice s.ha s.hl.length s.hc) (.d (.d (.k .a)))) .a ?_
    refine RCG (dst := some 51) .a (hLd) (GV (GV (GI []) 3 view_self) 2 view_ro) ?_
    intro r hp' hr
    have hok : okObs s.hl.length s.hl = (s.hl.map Ob.o).all (fun o => objB (s.hl.map Ob.o).length o.1 o.2) := by
      unfold okObs; rw [List.length_map, List.all_map]; rfl
    by_cases h1 : okObs s.hl.length s.hl = false
    · rw [if_pos h1] at hr
      obtain ⟨rfl, rfl⟩ := hr
      rw [show mayB s.p = false from by unfold mayB heapOk; rw [show s.p.L = s.hl.map Ob.o from rfl, ← hok, h1]; simp]
      refine RP [] (.d (.d (.d (.d .a)))) 3 (.i 53 (.int .i64 2) (.i 52 (.agg #[.int .i64 0, .slice none 0 0]) (.d (.d (.k .a))))) .a 51 [.int .i64 0, .slice none 0 0] fun g2 => ?_
      refine RR [5, 5] .z (.i 4 (.int .i64 2) (.d (.d (.d (.k .a))))) .a ?_
      refine RZ (NT (SQ (RG ?_)))
      refine RR [] .z (.i 55 (.bool true) (.d (.k .a))) .a ?_
      refine RZ (NT (CT (SQ (RG ?_))))
      refine RR [] .z (.d (.k .a)) .a ?_
      refine RZ (NT (RE (TR ?_)))
      refine NE [] .z .a [] (.bool false) ?_
      exact ⟨rfl, rfl⟩
    by_cases h2 : ¬ (usedO (s.hl.map Ob.o) : Int) ≤ mostI 4096
    · rw [if_neg h1, if_neg h2] at hr
      obtain ⟨rfl, rfl⟩ := hr
      rw [show mayB s.p = false from by
        unfold mayB heapOk
        rw [show s.p.L = s.hl.map Ob.o from rfl, decide_eq_false (p := usedO (s.hl.map Ob.o) ≤ 4096) (by intro h; exact h2 (by show _ ≤ (4096 : Int); omega))]
        simp]
      refine RP [] (.d (.d (.d (.d .a)))) 3 (.i 53 (.int .i64 12) (.i 52 (.agg #[.int .i64 0, .slice none 0 0]) (.d (.d (.k .a))))) .a 51 [.int .i64 0, .slice none 0 0] fun g2 => ?_
      refine RR [5, 5] .z (.i 4 (.int .i64 12) (.d (.d (.d (.k .a))))) .a ?_
      refine RZ (NT (SQ (RG ?_)))
      refine RR [] .z (.i 55 (.bool true) (.d (.k .a))) .a ?_
      refine RZ (NT (CT (SQ (RG ?_))))
      refine RR [] .z (.d (.k .a)) .a ?_
      refine RZ (NT (RE (TR ?_)))
      refine NE [] .z .a [] (.bool false) ?_
      exact ⟨rfl, rfl⟩
    rw [Decidable.not_not] at h2
    rw [if_neg h1, if_pos h2] at hr
    obtain ⟨a1, c1, l1, hm1, rfl, rfl⟩ := hr
    have hhp : heapOk s.p.L = true := by
      unfold heapOk
      rw [show s.p.L = s.hl.map Ob.o from rfl, ← hok, decide_eq_true (p := usedO (s.hl.map Ob.o) ≤ 4096) (by have h3 : (usedO (s.hl.map Ob.o) : Int) ≤ 4096 := h2; omega)]
      cases h4 : okObs s.hl.length s.hl with
      | false => exact absurd h4 h1
      | true => rfl
    have hmay : mayB s.p = s.p.C.all (callB s.p.L.length) := by unfold mayB; rw [hH, hhp]; rfl
    rw [hmay]
    have hn : s.p.L.length = s.hl.length := List.length_map ..
    rw [hn]
    refine RP [] (.d (.d (.d (.d .a)))) 3 (.i 53 (.int .i64 0) (.i 52 (.agg #[.int .i64 4096, .slice a1 l1.length c1]) (.d (.d (.k .a))))) .a 51 [.int .i64 0, .slice none 0 0] fun g2 => ?_
    refine RR [7, 7] .z (.i 4 (.int .i64 0) (.d (.d (.d (.k .a))))) (.k (.k (.k (.k (.k (.k (.k (.u (.i (.int .i64 4096) (.i (.slice a1 l1.length c1) .z)) .a)))))))) ?_
    refine RZ (NT (SQ (RG ?_)))
    refine RR [] .z (.i 55 (.bool false) (.d (.k .a))) .a ?_
    refine RZ (NT (CF (SK (NT (SQ (RG ?_))))))
    refine RR [6] .z (.i 5 (.int .i64 (↑s.hl.length : Int)) (.d (.k .a))) .a ?_
    refine RZ (NT (SQ (SQ (RG ?_))))
    refine RR [] .z (.i 6 (.int .i64 0) .a) .a ?_
    refine RZ (NT (BK ?_))
    refine wpc_loop (X := {i : Nat // ∃ h : i ≤ s.cl.length, ∀ j, (hj : j < i) → callB s.hl.length (s.cl[j]'(by omega)).p = true}) (fun x => St.mk [(6, .int .i64 (x.1 : Int)), (5, .int .i64 s.hl.length), (2, .bool false), (1, .pointer (some ⟨g1, 0, none⟩))]
      [ro s.ca (s.cl.flatMap clC), gCl s.cl, .blk g1 75 [.int .i64 s.pos, .int .i64 s.st, .int .i64 s.fa, .slice s.ca s.cl.length s.cc, .slice s.ha s.hl.length s.hc, .string (mkS s.out), .int .i64 s.rd]]) (fun x => s.cl.length - x.1) ⟨0, Nat.zero_le _, fun j h => absurd h (Nat.not_lt_zero _)⟩ ?_ ?_
    · exact Ent.trans (ent_hp [2, 2, 4] rfl) (ent_fr (by kernel_rfl))
    rintro ⟨i, hi, hall⟩
    dsimp only at hi hall ⊢
    by_cases hlt : i < s.cl.length
    · have hno : callB s.hl.length s.cl[i].p = false → s.p.C.all (callB s.hl.length) = false := fun hob => by
        cases h : s.p.C.all (callB s.hl.length) with
        | false => rfl
        | true =>
          have h2 := List.all_eq_true.1 h s.cl[i].p (List.mem_map.2 ⟨_, List.getElem_mem hlt, rfl⟩)
          rw [hob] at h2; cases h2
      obtain ⟨⟨u1, u2⟩, ⟨t1, t2⟩, ⟨m1, m2⟩, x1, x2, x3, x4⟩ := hc2 _ (List.getElem_mem hlt)
      refine wpc_fact (fun w h => ro_addr h 0 rfl (by rw [cls_len]; omega)) ?_
      rintro ⟨g0, o0, hca⟩
      rw [hca]
      refine SQ (SQ (RG ?_))
      refine RR [2] .z (.i 63 (.bool (decide ((↑i : Int) < (↑s.cl.length : Int)))) .a) .a ?_
      refine RZ (NT ?_)
      refine SC 63 (decide ((↑i : Int) < (↑s.cl.length : Int))) true (decide_eq_true (by omega)) ?_
      refine CT (SK (NT (SQ (BK (SQ (RG ?_))))))
      refine RV true [2] (.d (.d (.d (.d .a)))) (.i 69 (.pointer (some ⟨g0, o0 + i * 5, none⟩)) (.d (.d (.k .a)))) .a [(0 : Int) ≤ (↑i : Int) ∧ (↑i : Int) < (↑s.cl.length : Int)] ⟨by omega, trivial⟩ ?_
      refine wpr_eq (ld (t := 124) (a := ⟨g0, o0 + i * 5, none⟩) (dst := some 70) (by kernel_rfl) true 5 (by kernel_rfl) (by simp) (clC s.cl[i]) rfl (fun w h => ld_ro h 0 rfl (i * 5) (cls_at hlt))) ?_
      by_cases k0 : ¬ 0 ≤ s.cl[i].u
      · rw [hno (by unfold callB Cl.p; dsimp only; rw [decide_eq_false k0]; simp)]
        refine RP [] (.d .a) 7 (.i 70 (.agg #[.int .i64 s.cl[i].u, .int .i64 s.cl[i].t, .int .i64 s.cl[i].m, .slice s.cl[i].sa s.cl[i].slots.length s.cl[i].sc, .slice s.cl[i].ta s.cl[i].stack.length s.cl[i].tc]) (.d (.d (.k .a)))) .a 124 [.int .i64 0, .int .i64 0, .int .i64 0, .slice none 0 0, .slice none 0 0] fun g3 => ?_
        refine RR [3, 3, 3, 3, 3] .z (.k (.d (.k .a))) (.k (.k (.k (.u (.i (.int .i64 s.cl[i].u) (.i (.int .i64 s.cl[i].t) (.i (.int .i64 s.cl[i].m) (.i (.slice s.cl[i].sa s.cl[i].slots.length s.cl[i].sc) (.i (.slice s.cl[i].ta s.cl[i].stack.length s.cl[i].tc) .z))))) .a)))) ?_
        refine RZ (NT (SQ (RG ?_)))
        refine RR [3] (.d (.d (.d (.d .a)))) (.i 74 (.bool (decide (s.cl[i].u < (0 : Int)))) .a) .a ?_
        refine SR 74 (decide (s.cl[i].u < (0 : Int))) true (decide_eq_true (by omega)) ?_
        refine RR [] .z (.i 109 (.bool true) (.d (.d (.d (.k .a))))) .a ?_
        refine RZ (NT (CT (SQ (RG ?_))))
        refine RR [] .z (.i 2 (.bool false) (.d (.k (.k (.d (.k .a)))))) .a ?_
        refine RZ (NT (RE (BR (TR (TR (BR (TR ?_)))))))
        refine NE [] .z .a [] (.bool false) ?_
        exact ⟨rfl, rfl⟩
      rw [Decidable.not_not] at k0
      by_cases k1 : ¬ 0 ≤ s.cl[i].t
      · rw [hno (by unfold callB Cl.p; dsimp only; rw [decide_eq_false k1]; simp)]
        refine RP [] (.d .a) 7 (.i 70 (.agg #[.int .i64 s.cl[i].u, .int .i64 s.cl[i].t, .int .i64 s.cl[i].m, .slice s.cl[i].sa s.cl[i].slots.length s.cl[i].sc, .slice s.cl[i].ta s.cl[i].stack.length s.cl[i].tc]) (.d (.d (.k .a)))) .a 124 [.int .i64 0, .int .i64 0, .int .i64 0, .slice none 0 0, .slice none 0 0] fun g3 => ?_
        refine RR [3, 3, 3, 3, 3] .z (.k (.d (.k .a))) (.k (.k (.k (.u (.i (.int .i64 s.cl[i].u) (.i (.int .i64 s.cl[i].t) (.i (.int .i64 s.cl[i].m) (.i (.slice s.cl[i].sa s.cl[i].slots.length s.cl[i].sc) (.i (.slice s.cl[i].ta s.cl[i].stack.length s.cl[i].tc) .z))))) .a)))) ?_
        refine RZ (NT (SQ (RG ?_)))
        refine RR [3] (.d (.d (.d (.d .a)))) (.i 74 (.bool (decide (s.cl[i].u < (0 : Int)))) .a) .a ?_
        refine SR 74 (decide (s.cl[i].u < (0 : Int))) false (decide_eq_false (by omega)) ?_
        refine RR [3] (.d (.d (.d (.d (.d .a))))) (.i 79 (.bool (decide (s.cl[i].t < (0 : Int)))) (.d (.d (.k .a)))) .a ?_
        refine SR 79 (decide (s.cl[i].t < (0 : Int))) true (decide_eq_true (by omega)) ?_
        refine RR [] .z (.i 109 (.bool true) (.d (.d (.d (.k .a))))) .a ?_
        refine RZ (NT (CT (SQ (RG ?_))))
        refine RR [] .z (.i 2 (.bool false) (.d (.k (.k (.d (.k .a)))))) .a ?_
        refine RZ (NT (RE (BR (TR (TR (BR (TR ?_)))))))
        refine NE [] .z .a [] (.bool false) ?_
        exact ⟨rfl, rfl⟩
      rw [Decidable.not_not] at k1
      by_cases k2 : ¬ -1 ≤ s.cl[i].m
      · rw [hno (by unfold callB Cl.p; dsimp only; rw [decide_eq_false k2]; simp)]
        refine RP [] (.d .a) 7 (.i 70 (.agg #[.int .i64 s.cl[i].u, .int .i64 s.cl[i].t, .int .i64 s.cl[i].m, .slice s.cl[i].sa s.cl[i].slots.length s.cl[i].sc, .slice s.cl[i].ta s.cl[i].stack.length s.cl[i].tc]) (.d (.d (.k .a)))) .a 124 [.int .i64 0, .int .i64 0, .int .i64 0, .slice none 0 0, .slice none 0 0] fun g3 => ?_
        refine RR [3, 3, 3, 3, 3] .z (.k (.d (.k .a))) (.k (.k (.k (.u (.i (.int .i64 s.cl[i].u) (.i (.int .i64 s.cl[i].t) (.i (.int .i64 s.cl[i].m) (.i (.slice s.cl[i].sa s.cl[i].slots.length s.cl[i].sc) (.i (.slice s.cl[i].ta s.cl[i].stack.length s.cl[i].tc) .z))))) .a)))) ?_
        refine RZ (NT (SQ (RG ?_)))
        refine RR [3] (.d (.d (.d (.d .a)))) (.i 74 (.bool (decide (s.cl[i].u < (0 : Int)))) .a) .a ?_
        refine SR 74 (decide (s.cl[i].u < (0 : Int))) false (decide_eq_false (by omega)) ?_
        refine RR [3] (.d (.d (.d (.d (.d .a))))) (.i 79 (.bool (decide (s.cl[i].t < (0 : Int)))) (.d (.d (.k .a)))) .a ?_
        refine SR 79 (decide (s.cl[i].t < (0 : Int))) false (decide_eq_false (by omega)) ?_
        refine RR [3] (.d (.d (.d (.d (.d .a))))) (.i 84 (.bool (decide (s.cl[i].m < (-1 : Int)))) (.d (.d (.k .a)))) .a ?_
        refine SR 84 (decide (s.cl[i].m < (-1 : Int))) true (decide_eq_true (by omega)) ?_
        refine RR [] .z (.i 109 (.bool true) (.d (.d (.d (.k .a))))) .a ?_
        refine RZ (NT (CT (SQ (RG ?_))))
        refine RR [] .z (.i 2 (.bool false) (.d (.k (.k (.d (.k .a)))))) .a ?_
        refine RZ (NT (RE (BR (TR (TR (BR (TR ?_)))))))
        refine NE [] .z .a [] (.bool false) ?_
        exact ⟨rfl, rfl⟩
      rw [Decidable.not_not] at k2
      by_cases k3 : ¬ s.cl[i].slots.length ≤ 32
      · rw [hno (by unfold callB Cl.p; dsimp only; rw [decide_eq_false k3]; simp)]
        refine RP [] (.d .a) 7 (.i 70 (.agg #[.int .i64 s.cl[i].u, .int .i64 s.cl[i].t, .int .i64 s.cl[i].m, .slice s.cl[i].sa s.cl[i].slots.length s.cl[i].sc, .slice s.cl[i].ta s.cl[i].stack.length s.cl[i].tc]) (.d (.d (.k .a)))) .a 124 [.int .i64 0, .int .i64 0, .int .i64 0, .slice none 0 0, .slice none 0 0] fun g3 => ?_
        refine RR [3, 3, 3, 3, 3] .z (.k (.d (.k .a))) (.k (.k (.k (.u (.i (.int .i64 s.cl[i].u) (.i (.int .i64 s.cl[i].t) (.i (.int .i64 s.cl[i].m) (.i (.slice s.cl[i].sa s.cl[i].slots.length s.cl[i].sc) (.i (.slice s.cl[i].ta s.cl[i].stack.length s.cl[i].tc) .z))))) .a)))) ?_
        refine RZ (NT (SQ (RG ?_)))
        refine RR [3] (.d (.d (.d (.d .a)))) (.i 74 (.bool (decide (s.cl[i].u < (0 : Int)))) .a) .a ?_
        refine SR 74 (decide (s.cl[i].u < (0 : Int))) false (decide_eq_false (by omega)) ?_
        refine RR [3] (.d (.d (.d (.d (.d .a))))) (.i 79 (.bool (decide (s.cl[i].t < (0 : Int)))) (.d (.d (.k .a)))) .a ?_
        refine SR 79 (decide (s.cl[i].t < (0 : Int))) false (decide_eq_false (by omega)) ?_
        refine RR [3] (.d (.d (.d (.d (.d .a))))) (.i 84 (.bool (decide (s.cl[i].m < (-1 : Int)))) (.d (.d (.k .a)))) .a ?_
        refine SR 84 (decide (s.cl[i].m < (-1 : Int))) false (decide_eq_false (by omega)) ?_
        refine RR [3] (.d (.d (.d (.d (.d (.d .a)))))) (.i 90 (.bool (decide ((↑s.cl[i].slots.length : Int) > (32 : Int)))) (.d (.d (.k .a)))) .a ?_
        refine SR 90 (decide ((↑s.cl[i].slots.length : Int) > (32 : Int))) true (decide_eq_true (by omega)) ?_
        refine RR [] .z (.i 109 (.bool true) (.d (.d (.d (.k .a))))) .a ?_
        refine RZ (NT (CT (SQ (RG ?_))))
        refine RR [] .z (.i 2 (.bool false) (.d (.k (.k (.d (.k .a)))))) .a ?_
        refine RZ (NT (RE (BR (TR (TR (BR (TR ?_)))))))
        refine NE [] .z .a [] (.bool false) ?_
        exact ⟨rfl, rfl⟩
      rw [Decidable.not_not] at k3
      by_cases k4 : ¬ s.cl[i].stack.length ≤ 256
      · rw [hno (by unfold callB Cl.p; dsimp only; rw [decide_eq_false k4]; simp)]
        refine RP [] (.d .a) 7 (.i 70 (.agg #[.int .i64 s.cl[i].u, .int .i64 s.cl[i].t, .int .i64 s.cl[i].m, .slice s.cl[i].sa s.cl[i].slots.length s.cl[i].sc, .slice s.cl[i].ta s.cl[i].stack.length s.cl[i].tc]) (.d (.d (.k .a)))) .a 124 [.int .i64 0, .int .i64 0, .int .i64 0, .slice none 0 0, .slice none 0 0] fun g3 => ?_
        refine RR [3, 3, 3, 3, 3] .z (.k (.d (.k .a))) (.k (.k (.k (.u (.i (.int .i64 s.cl[i].u) (.i (.int .i64 s.cl[i].t) (.i (.int .i64 s.cl[i].m) (.i (.slice s.cl[i].sa s.cl[i].slots.length s.cl[i].sc) (.i (.slice s.cl[i].ta s.cl[i].stack.length s.cl[i].tc) .z))))) .a)))) ?_
        refine RZ (NT (SQ (RG ?_)))
        refine RR [3] (.d (.d (.d (.d .a)))) (.i 74 (.bool (decide (s.cl[i].u < (0 : Int)))) .a) .a ?_
        refine SR 74 (decide (s.cl[i].u < (0 : Int))) false (decide_eq_false (by omega)) ?_
        refine RR [3] (.d (.d (.d (.d (.d .a))))) (.i 79 (.bool (decide (s.cl[i].t < (0 : Int)))) (.d (.d (.k .a)))) .a ?_
        refine SR 79 (decide (s.cl[i].t < (0 : Int))) false (decide_eq_false (by omega)) ?_
        refine RR [3] (.d (.d (.d (.d (.d .a))))) (.i 84 (.bool (decide (s.cl[i].m < (-1 : Int)))) (.d (.d (.k .a)))) .a ?_
        refine SR 84 (decide (s.cl[i].m < (-1 : Int))) false (decide_eq_false (by omega)) ?_
        refine RR [3] (.d (.d (.d (.d (.d (.d .a)))))) (.i 90 (.bool (decide ((↑s.cl[i].slots.length : Int) > (32 : Int)))) (.d (.d (.k .a)))) .a ?_
        refine SR 90 (decide ((↑s.cl[i].slots.length : Int) > (32 : Int))) false (decide_eq_false (by omega)) ?_
        refine RR [3] (.d (.d (.d (.d (.d (.d .a)))))) (.i 96 (.bool (decide ((↑s.cl[i].stack.length : Int) > (256 : Int)))) (.d (.d (.k .a)))) .a ?_
        refine SR 96 (decide ((↑s.cl[i].stack.length : Int) > (256 : Int))) true (decide_eq_true (by omega)) ?_
        refine RR [] .z (.i 109 (.bool true) (.d (.d (.d (.k .a))))) .a ?_
        refine RZ (NT (CT (SQ (RG ?_))))
        refine RR [] .z (.i 2 (.bool false) (.d (.k (.k (.d (.k .a)))))) .a ?_
        refine RZ (NT (RE (BR (TR (TR (BR (TR ?_)))))))
        refine NE [] .z .a [] (.bool false) ?_
        exact ⟨rfl, rfl⟩
      rw [Decidable.not_not] at k4
      refine RP [] (.d .a) 7 (.i 70 (.agg #[.int .i64 s.cl[i].u, .int .i64 s.cl[i].t, .int .i64 s.cl[i].m, .slice s.cl[i].sa s.cl[i].slots.length s.cl[i].sc, .slice s.cl[i].ta s.cl[i].stack.length s.cl[i].tc]) (.d (.d (.k .a)))) .a 124 [.int .i64 0, .int .i64 0, .int .i64 0, .slice none 0 0, .slice none 0 0] fun g3 => ?_
      refine RR [3, 3, 3, 3, 3] .z (.k (.d (.k .a))) (.k (.k (.k (.u (.i (.int .i64 s.cl[i].u) (.i (.int .i64 s.cl[i].t) (.i (.int .i64 s.cl[i].m) (.i (.slice s.cl[i].sa s.cl[i].slots.length s.cl[i].sc) (.i (.slice s.cl[i].ta s.cl[i].stack.length s.cl[i].tc) .z))))) .a)))) ?_
      refine RZ (NT (SQ (RG ?_)))
      refine RR [3] (.d (.d (.d (.d .a)))) (.i 74 (.bool (decide (s.cl[i].u < (0 : Int)))) .a) .a ?_
      refine SR 74 (decide (s.cl[i].u < (0 : Int))) false (decide_eq_false (by omega)) ?_
      refine RR [3] (.d (.d (.d (.d (.d .a))))) (.i 79 (.bool (decide (s.cl[i].t < (0 : Int)))) (.d (.d (.k .a)))) .a ?_
      refine SR 79 (decide (s.cl[i].t < (0 : Int))) false (decide_eq_false (by omega)) ?_
      refine RR [3] (.d (.d (.d (.d (.d .a))))) (.i 84 (.bool (decide (s.cl[i].m < (-1 : Int)))) (.d (.d (.k .a)))) .a ?_
      refine SR 84 (decide (s.cl[i].m < (-1 : Int))) false (decide_eq_false (by omega)) ?_
      refine RR [3] (.d (.d (.d (.d (.d (.d .a)))))) (.i 90 (.bool (decide ((↑s.cl[i].slots.length : Int) > (32 : Int)))) (.d (.d (.k .a)))) .a ?_
      refine SR 90 (decide ((↑s.cl[i].slots.length : Int) > (32 : Int))) false (decide_eq_false (by omega)) ?_
      refine RR [3] (.d (.d (.d (.d (.d (.d .a)))))) (.i 96 (.bool (decide ((↑s.cl[i].stack.length : Int) > (256 : Int)))) (.d (.d (.k .a)))) .a ?_
      refine SR 96 (decide ((↑s.cl[i].stack.length : Int) > (256 : Int))) false (decide_eq_false (by omega)) ?_
      refine RR [3] (.d (.d (.d .a))) (.i 99 (.int .i64 (↑s.hl.length : Int)) (.i 98 (.slice s.cl[i].sa s.cl[i].slots.length s.cl[i].sc) (.k (.d (.k .a))))) .a ?_
      refine wpr_ent (ent_copy 1 (ro s.cl[i].sa (s.cl[i].slots.flatMap valC)) rfl (fun h => h) (view_in (clRo_in1 hlt) view_ro)) ?_
      refine wpr_ent (ent_copy 2 (ro s.cl[i].ta (s.cl[i].stack.flatMap valC)) rfl (fun h => h) (view_in (clRo_in2 hlt) view_ro)) ?_
      refine RCG (dst := some 100) .a (rvals_spec s.cl[i].sa s.cl[i].sc s.cl[i].slots s.hl.length x1 (fun v hv => vsm (x3 v hv))) (GV (GI []) 1 view_ro) ?_
      rintro r _ ⟨rfl, rfl⟩
      cases hr1 : s.cl[i].slots.all (rB s.hl.length) with
      | false =>
        rw [hno (by unfold callB Cl.p; dsimp only; rw [hr1]; simp)]
        refine RR [] .z (.i 109 (.bool true) (.d (.d (.d (.d (.d (.k .a))))))) .a ?_
        refine RZ (NT (CT (SQ (RG ?_))))
        refine RR [] .z (.i 2 (.bool false) (.d (.k (.k (.d (.k .a)))))) .a ?_
        refine RZ (NT (RE (BR (TR (TR (BR (TR ?_)))))))
        refine NE [] .z .a [] (.bool false) ?_
        exact ⟨rfl, rfl⟩
      | true =>
      refine RR [5] (.d (.d (.d (.d (.d (.d .a)))))) (.i 106 (.int .i64 (↑s.hl.length : Int)) (.i 105 (.slice s.cl[i].ta s.cl[i].stack.length s.cl[i].tc) (.i 103 (.bool false) (.d (.d (.d (.d (.d (.k .a))))))))) .a ?_
      refine RCG (dst := some 107) .a (rvals_spec s.cl[i].ta s.cl[i].tc s.cl[i].stack s.hl.length x2 (fun v hv => vsm (x4 v hv))) (GV (GI []) 0 view_ro) ?_
      rintro r _ ⟨rfl, rfl⟩
      cases hr2 : s.cl[i].stack.all (rB s.hl.length) with
      | false =>
        rw [hno (by unfold callB Cl.p; dsimp only; rw [hr2]; simp)]
        refine RR [] .z (.i 109 (.bool true) (.d (.d (.d (.d (.k .a)))))) .a ?_
        refine RZ (NT (CT (SQ (RG ?_))))
        refine RR [] .z (.i 2 (.bool false) (.d (.k (.k (.d (.k .a)))))) .a ?_
        refine RZ (NT (RE (BR (TR (TR (BR (TR ?_)))))))
        refine NE [] .z .a [] (.bool false) ?_
        exact ⟨rfl, rfl⟩
      | true =>
      refine RR [] .z (.i 109 (.bool false) (.d (.d (.d (.d (.k .a)))))) .a ?_
      refine RZ (NT (CF (SK (BN (NT (RG ?_))))))
      refine RV true [] .z (.i 6 (.int .i64 ((↑i : Int) + 1)) (.d (.d (.k .a)))) .a ([inI64 ((↑i : Int) + (1 : Int))]) ⟨by unfold inI64; omega, trivial⟩ ?_
      refine RZ ?_
      rw [← hca]
      exact fun a' w' hS' => ⟨⟨i + 1, hlt, fun j hj => by
              rcases Nat.lt_or_ge j i with h | h
              · exact hall j h
              · obtain rfl : j = i := by omega
                unfold callB Cl.p; dsimp only
                rw [decide_eq_true k0, decide_eq_true k1, decide_eq_true k2, decide_eq_true k3, decide_eq_true k4, hr1, hr2]; rfl⟩, by dsimp only; omega, ent_fr (by kernel_rfl) _ _ (ent_hp [2, 2, 2] rfl _ _ hS')⟩
    · have hok2 : s.p.C.all (callB s.hl.length) = true := List.all_eq_true.2 fun x hx => by
        obtain ⟨y, hy, rfl⟩ := List.mem_map.1 hx
        obtain ⟨j, hj⟩ := List.getElem?_of_mem hy
        obtain ⟨hj1, rfl⟩ := List.getElem?_eq_some_iff.1 hj
        exact hall j (by omega)
      rw [hok2]
      refine SQ (SQ (RG ?_))
      refine RR [2] .z (.i 63 (.bool (decide ((↑i : Int) < (↑s.cl.length : Int)))) .a) .a ?_
      refine RZ (NT ?_)
      refine SC 63 (decide ((↑i : Int) < (↑s.cl.length : Int))) false (decide_eq_false (by omega)) ?_
      refine CF (EX (TE (TE (BH (NT (SQ (RG ?_)))))))
      refine RR [] .z (.i 2 (.bool true) .z) .a ?_
      refine RZ (NT (RE ?_))
      refine NE [] .z .a [] (.bool true) ?_
      exact ⟨rfl, rfl⟩
end Go.Proofs.YtpfhleghgkeemaaGreatDoor
