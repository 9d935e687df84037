import Derived.Test.YtgkcodkeikaeeaaD12
import Derived.Test.YtgkcodkeikaeeaaX12
namespace Go.Proofs.Ytgkcodkeikaeeaa
open Go Go.Sx
set_option linter.unusedVariables false
set_option linter.unusedSimpArgs false

theorem b2s_part {hp : Hp} {w : World} (h : HS hp w) (i : Nat) {a : Option Addr} {l l' : List UInt8} (hi : hp[i]? = some (ro a (u8s l))) (hl : ∃ n, l' = l.take n) : (a = none → l' = []) ∧ ∀ ad, a = some ad → cellsAt w ad (u8s l') := by
  obtain ⟨n, rfl⟩ := hl
  obtain ⟨h1, h2⟩ := b2s_ro h i hi
  refine ⟨fun e => by rw [h1 e]; simp, fun ad e j u hu => h2 ad e j u ?_⟩
  have e2 : u8s (l.take n) = (u8s l).take n := by simp [u8s, List.map_take]
  rw [e2, List.getElem?_take] at hu
  split at hu
  · exact hu
  · cases hu

set_option maxHeartbeats 4000000 in
theorem WireForm_spec (a : Option Addr) (ca : Nat) (xs : List UInt8) (ha : a = none → xs = []) (hl : xs.length ≤ 140737488351232) (hcp : xs.length ≤ ca) :
    Does Try.prog 4 [.slice a xs.length ca] [ro a (u8s xs)] (fun v hp' => v = .bool true ∧ hp' = []) := by
  refine fn_enter Try.func4 rfl 80 rfl fun w0 h0 => ?_
  obtain ⟨x, u, e, hx⟩ : ∃ x u e, rd (0 : Int) 0 0 (num (xs.drop 0)) = (x, u, e) := ⟨_, _, _, rfl⟩
  obtain ⟨y, v, f, hy⟩ : ∃ y v f, rd ([] : List UInt8) 0 0 (txt (xs.drop 0) xs.length) = (y, v, f) := ⟨_, _, _, rfl⟩
  have hE : e = 0 → x = (num xs).1 ∧ u = (encI x).length ∧ xs.take u = encI x ∧ u ≤ xs.length := fun he => by
    obtain ⟨n0, u0, e0, hn⟩ : ∃ n0 u0 e0, num xs = (n0, u0, e0) := ⟨_, _, _, rfl⟩
    rw [List.drop_zero, hn] at hx
    unfold rd at hx
    dsimp only at hx
    rw [if_neg (by simp)] at hx
    split at hx
    · rename_i h1; simp only [Prod.mk.injEq] at hx; exact absurd (hx.2.2.trans he) h1
    · rename_i h1
      simp only [Prod.mk.injEq] at hx
      obtain ⟨h2, h3, _⟩ := hx
      have e0z : e0 = 0 := Classical.not_not.1 h1
      rw [e0z] at hn
      obtain ⟨f1, f2, f3⟩ := num_form xs n0 u0 hn
      rw [hn, ← h2]
      have hu : u = (encI n0).length := by omega
      exact ⟨rfl, hu, by rw [hu]; exact f2, by omega⟩
  have hNE : e ≠ 0 → x = 0 ∧ u = 0 := fun he => by
    unfold rd at hx
    rw [if_neg (by simp)] at hx
    split at hx
    · simp only [Prod.mk.injEq] at hx; exact ⟨hx.1.symm, hx.2.1.symm⟩
    · simp only [Prod.mk.injEq] at hx; exact absurd hx.2.2.symm he
  have hF : f = 0 → v = (encT y).length ∧ xs.take v = encT y ∧ v ≤ xs.length ∧ y.length ≤ xs.length := fun he => by
    obtain ⟨n0, u0, e0, hn⟩ : ∃ n0 u0 e0, txt xs xs.length = (n0, u0, e0) := ⟨_, _, _, rfl⟩
    rw [List.drop_zero, hn] at hy
    unfold rd at hy
    dsimp only at hy
    rw [if_neg (by simp)] at hy
    split at hy
    · rename_i h1; simp only [Prod.mk.injEq] at hy; exact absurd (hy.2.2.trans he) h1
    · rename_i h1
      simp only [Prod.mk.injEq] at hy
      obtain ⟨h2, h3, _⟩ := hy
      have e0z : e0 = 0 := Classical.not_not.1 h1
      rw [e0z] at hn
      obtain ⟨f1, f2, f3⟩ := txt_form xs n0 xs.length u0 hn
      rw [← h2]
      have hu : v = (encT n0).length := by omega
      have hle : n0.length ≤ (encT n0).length := by simp [encT]
      exact ⟨hu, by rw [hu]; exact f2, by omega, by omega⟩
  have hNF : f ≠ 0 → y = [] ∧ v = 0 := fun he => by
    unfold rd at hy
    rw [if_neg (by simp)] at hy
    split at hy
    · simp only [Prod.mk.injEq] at hy; exact ⟨hy.1.symm, hy.2.1.symm⟩
    · simp only [Prod.mk.injEq] at hy; exact absurd hy.2.2.symm he
  refine wpc_seq ?_
  refine wpc_region [0] (by kernel_rfl) ?_
  refine wpr_run (l₂ := []) true [0] [] [(2, Value.bool false), (0, Value.slice a xs.length ca)] [ro a (u8s xs)] [] (by kernel_rfl) (by kernel_rfl) trivial ?_
  refine wpr_nil ?_
  refine nx_then ?_
  refine wpc_seq ?_
  refine wpc_region [0, 1, 2, 3, 4, 5] (by kernel_rfl) ?_
  refine wpr_run (l₂ := [1, 2, 3, 4, 5]) true [0] [] [(7, Value.slice a xs.length ca), (2, Value.bool false), (0, Value.slice a xs.length ca)] [ro a (u8s xs)] [] (by kernel_rfl) (by kernel_rfl) trivial ?_
  refine wpr_call (dst := some 8) (rest := [ro a (u8s xs)]) (by kernel_rfl) (NewReader_spec a ca xs ha) (Give.view (c := (ro a (u8s xs))) (give (pre := []) (rest := [ro a (u8s xs)]) [] (by kernel_rfl)) 0 (by kernel_rfl) view_ro) ?_
  rintro v' hp' ⟨r, rfl, rfl⟩
  refine wpr_run (l₂ := [3, 4, 5]) true [2] [] [(9, Value.slice a xs.length ca), (8, Value.pointer (some { block := r, off := 0 })), (2, Value.bool false), (0, Value.slice a xs.length ca)] [Ch.blk r 52 [Value.bool true, Value.string (mkS xs), Value.int IntKind.i64 0, Value.int IntKind.i64 0], ro a (u8s xs)] [] (by kernel_rfl) (by kernel_rfl) trivial ?_
  refine wpr_call (dst := some 10) (rest := [Ch.blk r 52 [Value.bool true, Value.string (mkS xs), Value.int IntKind.i64 0, Value.int IntKind.i64 0], ro a (u8s xs)]) (by kernel_rfl) (NewReader_spec a ca xs ha) (Give.view (c := (ro a (u8s xs))) (give (pre := []) (rest := [Ch.blk r 52 [Value.bool true, Value.string (mkS xs), Value.int IntKind.i64 0, Value.int IntKind.i64 0], ro a (u8s xs)]) [] (by kernel_rfl)) 1 (by kernel_rfl) view_ro) ?_
  rintro v' hp' ⟨q, rfl, rfl⟩
  refine wpr_run (l₂ := []) true [4, 5] [] [(4, Value.pointer (some { block := q, off := 0 })), (3, Value.pointer (some { block := r, off := 0 })), (2, Value.bool false), (0, Value.slice a xs.length ca)] [Ch.blk q 52 [Value.bool true, Value.string (mkS xs), Value.int IntKind.i64 0, Value.int IntKind.i64 0], Ch.blk r 52 [Value.bool true, Value.string (mkS xs), Value.int IntKind.i64 0, Value.int IntKind.i64 0], ro a (u8s xs)] [] (by kernel_rfl) (by kernel_rfl) trivial ?_
  refine wpr_nil ?_
  refine nx_then ?_
  refine wpc_seq ?_
  refine wpc_seq ?_
  refine wpc_region [0, 1, 2, 3, 4, 5] (by kernel_rfl) ?_
  refine wpr_run (l₂ := []) true [0, 1, 2, 3, 4, 5] [] [(16, Value.bool false), (4, Value.pointer (some { block := q, off := 0 })), (3, Value.pointer (some { block := r, off := 0 })), (2, Value.bool false), (0, Value.slice a xs.length ca)] [Ch.blk q 52 [Value.bool true, Value.string (mkS xs), Value.int IntKind.i64 0, Value.int IntKind.i64 0], Ch.blk r 52 [Value.bool true, Value.string (mkS xs), Value.int IntKind.i64 0, Value.int IntKind.i64 0], ro a (u8s xs)] [] (by kernel_rfl) (by kernel_rfl) trivial ?_
  refine wpr_nil ?_
  refine nx_then ?_
  refine wpc_false (by kernel_rfl) ?_
  refine wpc_skip ?_
  refine nx_then ?_
  refine wpc_seq ?_
  refine wpc_region [0, 1, 2] (by kernel_rfl) ?_
  refine wpr_run (l₂ := [1, 2]) true [0] [] [(17, Value.pointer (some { block := r, off := 0 })), (4, Value.pointer (some { block := q, off := 0 })), (3, Value.pointer (some { block := r, off := 0 })), (2, Value.bool false), (0, Value.slice a xs.length ca)] [Ch.blk q 52 [Value.bool true, Value.string (mkS xs), Value.int IntKind.i64 0, Value.int IntKind.i64 0], Ch.blk r 52 [Value.bool true, Value.string (mkS xs), Value.int IntKind.i64 0, Value.int IntKind.i64 0], ro a (u8s xs)] [] (by kernel_rfl) (by kernel_rfl) trivial ?_
  refine wpr_call (dst := some 18) (rest := [Ch.blk q 52 [Value.bool true, Value.string (mkS xs), Value.int IntKind.i64 0, Value.int IntKind.i64 0], ro a (u8s xs)]) (by kernel_rfl) (Int_spec r 0 xs 0 (by omega) (by omega)) (give [1] (by kernel_rfl)) ?_
  rintro v' hp' ⟨rfl, rfl⟩
  rw [hx]
  refine wpr_run (l₂ := []) true [2] [] [(5, Value.int IntKind.i64 x), (4, Value.pointer (some { block := q, off := 0 })), (3, Value.pointer (some { block := r, off := 0 })), (2, Value.bool false), (0, Value.slice a xs.length ca)] [Ch.blk r 52 [Value.bool true, Value.string (mkS xs), Value.int IntKind.i64 (↑u : Int), Value.int IntKind.i64 e], Ch.blk q 52 [Value.bool true, Value.string (mkS xs), Value.int IntKind.i64 0, Value.int IntKind.i64 0], ro a (u8s xs)] [] (by kernel_rfl) (by kernel_rfl) trivial ?_
  refine wpr_nil ?_
  refine nx_then ?_
  refine wpc_seq ?_
  refine wpc_seq ?_
  refine wpc_draw (by kernel_rfl) [Ch.blk q 52 [Value.bool true, Value.string (mkS xs), Value.int IntKind.i64 0, Value.int IntKind.i64 0], ro a (u8s xs)] (sub_of [1, 2] (by kernel_rfl)) 28 (by kernel_rfl) ?_
  refine wpa_join ⟨[(46, Value.bool false), (0, (Value.slice a xs.length ca)), (2, (Value.bool false)), (3, (Value.pointer (some { block := r, off := 0 }))), (4, (Value.pointer (some { block := q, off := 0 })))], [Ch.blk r 52 [Value.bool true, Value.string (mkS xs), Value.int IntKind.i64 (↑u : Int), Value.int IntKind.i64 e], Ch.blk q 52 [Value.bool true, Value.string (mkS xs), Value.int IntKind.i64 0, Value.int IntKind.i64 0], ro a (u8s xs)]⟩ (fun Q1 hQ1 hk => ?_) ?_
  · refine wpa_take true [(0, [])] [(19, Value.pointer (some { block := r, off := 0 })), (5, Value.int IntKind.i64 x), (4, Value.pointer (some { block := q, off := 0 })), (3, Value.pointer (some { block := r, off := 0 })), (2, Value.bool false), (0, Value.slice a xs.length ca)] (#[true, false, false, false, false, false, false, false, false, false, false, false, false, false, false, false, false, false, false, false, false, false, false, false, false, false, false, false]) [] (n := 27) (by kernel_rfl) (by kernel_rfl) (by kernel_rfl) trivial ?_
    refine wpa_call (i := 1) (n := 26) (dst := some 20) (rest := [Ch.blk q 52 [Value.bool true, Value.string (mkS xs), Value.int IntKind.i64 0, Value.int IntKind.i64 0], ro a (u8s xs)]) (by kernel_rfl) (by kernel_rfl) (Err_spec r xs u e) (give [0] (by kernel_rfl)) (sub_of [0, 1] (by kernel_rfl)) ?_
    rintro v' hp' ⟨rfl, rfl⟩
    refine wpa_take true [(2, []), (3, [])] [(22, Value.bool (e == 0)), (5, Value.int IntKind.i64 x), (4, Value.pointer (some { block := q, off := 0 })), (3, Value.pointer (some { block := r, off := 0 })), (2, Value.bool false), (0, Value.slice a xs.length ca)] (#[true, true, true, true, false, false, false, false, false, false, false, false, false, false, false, false, false, false, false, false, false, false, false, false, false, false, false, false]) [] (n := 24) (by kernel_rfl) (by kernel_rfl) (by kernel_rfl) trivial ?_
    by_cases he : e = 0
    · subst he
      obtain ⟨hx1, hu, ht, hul⟩ := hE rfl
      have hr := num_i64 xs
      rw [← hx1] at hr
      refine wpa_ent (ent_set 22 (Value.bool true) (Value.bool true) (by kernel_rfl) (congrArg _ rfl)) ?_
      refine wpa_take true [(4, []), (7, []), (8, [])] [(27, Value.pointer (some { block := r, off := 0 })), (26, Value.slice a xs.length ca), (23, Value.int IntKind.i64 x), (22, Value.bool true), (5, Value.int IntKind.i64 x), (4, Value.pointer (some { block := q, off := 0 })), (3, Value.pointer (some { block := r, off := 0 })), (2, Value.bool false), (0, Value.slice a xs.length ca)] (#[true, true, true, true, true, false, false, true, true, false, false, false, false, false, false, false, false, false, false, false, false, false, false, false, false, false, false, false]) [] (n := 21) (by kernel_rfl) (by kernel_rfl) (by kernel_rfl) trivial ?_
      refine wpa_ent (ent_nil 5 1) ?_
      refine wpa_call (i := 5) (n := 20) (dst := some 24) (rest := [Ch.blk r 52 [Value.bool true, Value.string (mkS xs), Value.int IntKind.i64 (↑u : Int), Value.int IntKind.i64 0], Ch.blk q 52 [Value.bool true, Value.string (mkS xs), Value.int IntKind.i64 0, Value.int IntKind.i64 0], ro a (u8s xs)]) (by kernel_rfl) (by kernel_rfl) (PutInt_spec none 0 [] x hr.1 hr.2 (by decide)) (give [0] (by kernel_rfl)) (sub_of [1, 2] (by kernel_rfl)) ?_
      rintro v' hp' ⟨a1, c1, rfl, rfl⟩
      rw [List.nil_append]
      refine wpa_two (i := 6) (j := 9) (n := 19) (by kernel_rfl) ?_ ?_
      · refine wpi_eq (i := 6) (b2s (a := 22) (b := 9) (ad := a1) (n := ((encI x).length)) (c := c1) (dst := some 25) (by kernel_rfl) (by kernel_rfl) (encI x) (by first | rfl | simp) (fun w h => b2s_row h 0 rfl)) (sub_of [2, 3] (by kernel_rfl)) ?_
        refine wpa_call (i := 9) (n := 18) (dst := some 28) (rest := [row 5 1 a1 (encI x).length c1 (u8s (encI x)), Ch.blk q 52 [Value.bool true, Value.string (mkS xs), Value.int IntKind.i64 0, Value.int IntKind.i64 0], ro a (u8s xs)]) (by kernel_rfl) (by kernel_rfl) (At_spec r xs u 0) (give [1] (by kernel_rfl)) (sub_of [1, 2] (by kernel_rfl)) ?_
        rintro v' hp' ⟨rfl, rfl⟩
        refine wpa_take true [(10, [])] [(29, Value.slice a u ca), (25, Value.string (mkS (encI x))), (22, Value.bool true), (5, Value.int IntKind.i64 x), (4, Value.pointer (some { block := q, off := 0 })), (3, Value.pointer (some { block := r, off := 0 })), (2, Value.bool false), (0, Value.slice a xs.length ca)] (#[true, true, true, true, true, true, true, true, true, true, true, false, false, false, false, false, false, false, false, false, false, false, false, false, false, false, false, false]) [(0 : Int) ≤ (↑u : Int) ∧ (↑u : Int) ≤ (↑ca : Int)] (n := 17) (by kernel_rfl) (by kernel_rfl) (by kernel_rfl) ⟨by omega, trivial⟩ ?_
        refine wpa_eq (i := 11) (n := 16) (by kernel_rfl) (b2s (a := 22) (b := 9) (ad := a) (n := u) (c := ca) (dst := some 30) (by kernel_rfl) (by kernel_rfl) (xs.take u) (by first | rfl | (rw [List.length_take]; omega)) (fun w h => b2s_part h 3 rfl ⟨_, rfl⟩)) (sub_of [2, 3] (by kernel_rfl)) ?_
        refine wpa_take true [(12, []), (13, []), (14, [])] [(33, Value.bool !decide (encI x = List.take u xs)), (5, Value.int IntKind.i64 x), (4, Value.pointer (some { block := q, off := 0 })), (3, Value.pointer (some { block := r, off := 0 })), (2, Value.bool false), (0, Value.slice a xs.length ca)] (#[true, true, true, true, true, true, true, true, true, true, true, true, true, true, true, false, false, false, false, false, false, false, false, false, false, false, false, false]) [] (n := 13) (by kernel_rfl) (by kernel_rfl) (by kernel_rfl) trivial ?_
        refine wpa_ent (ent_set 33 (Value.bool !decide (encI x = List.take u xs)) (Value.bool false) (by kernel_rfl) (congrArg _ (by rw [ht]; simp))) ?_
        refine wpa_take true [(15, [])] [(34, Value.pointer (some { block := r, off := 0 })), (33, Value.bool false), (5, Value.int IntKind.i64 x), (4, Value.pointer (some { block := q, off := 0 })), (3, Value.pointer (some { block := r, off := 0 })), (2, Value.bool false), (0, Value.slice a xs.length ca)] (#[true, true, true, true, true, true, true, true, true, true, true, true, true, true, true, true, false, false, false, false, false, false, false, false, false, false, false, false]) [] (n := 12) (by kernel_rfl) (by kernel_rfl) (by kernel_rfl) trivial ?_
        refine wpa_call (i := 16) (n := 11) (dst := some 35) (rest := [row 5 1 a1 (encI x).length c1 (u8s (encI x)), Ch.blk q 52 [Value.bool true, Value.string (mkS xs), Value.int IntKind.i64 0, Value.int IntKind.i64 0], ro a (u8s xs)]) (by kernel_rfl) (by kernel_rfl) (Err_spec r xs u 0) (give [0] (by kernel_rfl)) (sub_of [1, 2] (by kernel_rfl)) ?_
        rintro v' hp' ⟨rfl, rfl⟩
        refine wpa_take true [(17, []), (18, []), (19, []), (20, []), (21, []), (22, []), (23, []), (24, []), (25, []), (26, []), (27, [])] [(46, Value.bool false), (4, Value.pointer (some { block := q, off := 0 })), (3, Value.pointer (some { block := r, off := 0 })), (2, Value.bool false), (0, Value.slice a xs.length ca)] (#[true, true, true, true, true, true, true, true, true, true, true, true, true, true, true, true, true, true, true, true, true, true, true, true, true, true, true, true]) [] (n := 0) (by kernel_rfl) (by kernel_rfl) (by kernel_rfl) trivial ?_
        refine wpa_done 0 (by kernel_rfl) ?_
        exact nx_ent (ent_hp [0, 1, 1] rfl) (nx_ent (ent_fr (by kernel_rfl)) hk)
      · refine wpi_call (i := 9) (dst := some 28) (rest := [row 5 1 a1 (encI x).length c1 (u8s (encI x)), Ch.blk q 52 [Value.bool true, Value.string (mkS xs), Value.int IntKind.i64 0, Value.int IntKind.i64 0], ro a (u8s xs)]) (by kernel_rfl) (At_spec r xs u 0) (give [1] (by kernel_rfl)) (sub_of [1, 2] (by kernel_rfl)) ?_
        rintro v' hp' ⟨rfl, rfl⟩
        refine wpa_take true [(10, [])] [(29, Value.slice a u ca), (24, Value.slice a1 (encI x).length c1), (22, Value.bool true), (5, Value.int IntKind.i64 x), (4, Value.pointer (some { block := q, off := 0 })), (3, Value.pointer (some { block := r, off := 0 })), (2, Value.bool false), (0, Value.slice a xs.length ca)] (#[true, true, true, true, true, true, false, true, true, true, true, false, false, false, false, false, false, false, false, false, false, false, false, false, false, false, false, false]) [(0 : Int) ≤ (↑u : Int) ∧ (↑u : Int) ≤ (↑ca : Int)] (n := 18) (by kernel_rfl) (by kernel_rfl) (by kernel_rfl) ⟨by omega, trivial⟩ ?_
        refine wpa_two (i := 6) (j := 11) (n := 17) (by kernel_rfl) ?_ ?_
        · refine wpi_eq (i := 6) (b2s (a := 22) (b := 9) (ad := a1) (n := ((encI x).length)) (c := c1) (dst := some 25) (by kernel_rfl) (by kernel_rfl) (encI x) (by first | rfl | simp) (fun w h => b2s_row h 1 rfl)) (sub_of [2, 3] (by kernel_rfl)) ?_
          refine wpa_eq (i := 11) (n := 16) (by kernel_rfl) (b2s (a := 22) (b := 9) (ad := a) (n := u) (c := ca) (dst := some 30) (by kernel_rfl) (by kernel_rfl) (xs.take u) (by first | rfl | (rw [List.length_take]; omega)) (fun w h => b2s_part h 3 rfl ⟨_, rfl⟩)) (sub_of [2, 3] (by kernel_rfl)) ?_
          refine wpa_take true [(12, []), (13, []), (14, [])] [(33, Value.bool !decide (encI x = List.take u xs)), (5, Value.int IntKind.i64 x), (4, Value.pointer (some { block := q, off := 0 })), (3, Value.pointer (some { block := r, off := 0 })), (2, Value.bool false), (0, Value.slice a xs.length ca)] (#[true, true, true, true, true, true, true, true, true, true, true, true, true, true, true, false, false, false, false, false, false, false, false, false, false, false, false, false]) [] (n := 13) (by kernel_rfl) (by kernel_rfl) (by kernel_rfl) trivial ?_
          refine wpa_ent (ent_set 33 (Value.bool !decide (encI x = List.take u xs)) (Value.bool false) (by kernel_rfl) (congrArg _ (by rw [ht]; simp))) ?_
          refine wpa_take true [(15, [])] [(34, Value.pointer (some { block := r, off := 0 })), (33, Value.bool false), (5, Value.int IntKind.i64 x), (4, Value.pointer (some { block := q, off := 0 })), (3, Value.pointer (some { block := r, off := 0 })), (2, Value.bool false), (0, Value.slice a xs.length ca)] (#[true, true, true, true, true, true, true, true, true, true, true, true, true, true, true, true, false, false, false, false, false, false, false, false, false, false, false, false]) [] (n := 12) (by kernel_rfl) (by kernel_rfl) (by kernel_rfl) trivial ?_
          refine wpa_call (i := 16) (n := 11) (dst := some 35) (rest := [row 5 1 a1 (encI x).length c1 (u8s (encI x)), Ch.blk q 52 [Value.bool true, Value.string (mkS xs), Value.int IntKind.i64 0, Value.int IntKind.i64 0], ro a (u8s xs)]) (by kernel_rfl) (by kernel_rfl) (Err_spec r xs u 0) (give [0] (by kernel_rfl)) (sub_of [1, 2] (by kernel_rfl)) ?_
          rintro v' hp' ⟨rfl, rfl⟩
          refine wpa_take true [(17, []), (18, []), (19, []), (20, []), (21, []), (22, []), (23, []), (24, []), (25, []), (26, []), (27, [])] [(46, Value.bool false), (4, Value.pointer (some { block := q, off := 0 })), (3, Value.pointer (some { block := r, off := 0 })), (2, Value.bool false), (0, Value.slice a xs.length ca)] (#[true, true, true, true, true, true, true, true, true, true, true, true, true, true, true, true, true, true, true, true, true, true, true, true, true, true, true, true]) [] (n := 0) (by kernel_rfl) (by kernel_rfl) (by kernel_rfl) trivial ?_
          refine wpa_done 0 (by kernel_rfl) ?_
          exact nx_ent (ent_hp [0, 1, 1] rfl) (nx_ent (ent_fr (by kernel_rfl)) hk)
        · refine wpi_eq (i := 11) (b2s (a := 22) (b := 9) (ad := a) (n := u) (c := ca) (dst := some 30) (by kernel_rfl) (by kernel_rfl) (xs.take u) (by first | rfl | (rw [List.length_take]; omega)) (fun w h => b2s_part h 3 rfl ⟨_, rfl⟩)) (sub_of [2, 3] (by kernel_rfl)) ?_
          refine wpa_eq (i := 6) (n := 16) (by kernel_rfl) (b2s (a := 22) (b := 9) (ad := a1) (n := ((encI x).length)) (c := c1) (dst := some 25) (by kernel_rfl) (by kernel_rfl) (encI x) (by first | rfl | simp) (fun w h => b2s_row h 1 rfl)) (sub_of [2, 3] (by kernel_rfl)) ?_
          refine wpa_take true [(12, []), (13, []), (14, [])] [(33, Value.bool !decide (encI x = List.take u xs)), (5, Value.int IntKind.i64 x), (4, Value.pointer (some { block := q, off := 0 })), (3, Value.pointer (some { block := r, off := 0 })), (2, Value.bool false), (0, Value.slice a xs.length ca)] (#[true, true, true, true, true, true, true, true, true, true, true, true, true, true, true, false, false, false, false, false, false, false, false, false, false, false, false, false]) [] (n := 13) (by kernel_rfl) (by kernel_rfl) (by kernel_rfl) trivial ?_
          refine wpa_ent (ent_set 33 (Value.bool !decide (encI x = List.take u xs)) (Value.bool false) (by kernel_rfl) (congrArg _ (by rw [ht]; simp))) ?_
          refine wpa_take true [(15, [])] [(34, Value.pointer (some { block := r, off := 0 })), (33, Value.bool false), (5, Value.int IntKind.i64 x), (4, Value.pointer (some { block := q, off := 0 })), (3, Value.pointer (some { block := r, off := 0 })), (2, Value.bool false), (0, Value.slice a xs.length ca)] (#[true, true, true, true, true, true, true, true, true, true, true, true, true, true, true, true, false, false, false, false, false, false, false, false, false, false, false, false]) [] (n := 12) (by kernel_rfl) (by kernel_rfl) (by kernel_rfl) trivial ?_
          refine wpa_call (i := 16) (n := 11) (dst := some 35) (rest := [row 5 1 a1 (encI x).length c1 (u8s (encI x)), Ch.blk q 52 [Value.bool true, Value.string (mkS xs), Value.int IntKind.i64 0, Value.int IntKind.i64 0], ro a (u8s xs)]) (by kernel_rfl) (by kernel_rfl) (Err_spec r xs u 0) (give [0] (by kernel_rfl)) (sub_of [1, 2] (by kernel_rfl)) ?_
          rintro v' hp' ⟨rfl, rfl⟩
          refine wpa_take true [(17, []), (18, []), (19, []), (20, []), (21, []), (22, []), (23, []), (24, []), (25, []), (26, []), (27, [])] [(46, Value.bool false), (4, Value.pointer (some { block := q, off := 0 })), (3, Value.pointer (some { block := r, off := 0 })), (2, Value.bool false), (0, Value.slice a xs.length ca)] (#[true, true, true, true, true, true, true, true, true, true, true, true, true, true, true, true, true, true, true, true, true, true, true, true, true, true, true, true]) [] (n := 0) (by kernel_rfl) (by kernel_rfl) (by kernel_rfl) trivial ?_
          refine wpa_done 0 (by kernel_rfl) ?_
          exact nx_ent (ent_hp [0, 1, 1] rfl) (nx_ent (ent_fr (by kernel_rfl)) hk)
    · obtain ⟨rfl, rfl⟩ := hNE he
      refine wpa_ent (ent_set 22 (Value.bool (e == 0)) (Value.bool false) (by kernel_rfl) (congrArg _ (by simp [he]))) ?_
      refine wpa_take true [(4, []), (5, []), (6, []), (7, []), (8, []), (9, []), (10, []), (11, []), (12, []), (13, []), (14, []), (15, [])] [(34, Value.pointer (some { block := r, off := 0 })), (33, Value.bool false), (5, Value.int IntKind.i64 0), (4, Value.pointer (some { block := q, off := 0 })), (3, Value.pointer (some { block := r, off := 0 })), (2, Value.bool false), (0, Value.slice a xs.length ca)] (#[true, true, true, true, true, true, true, true, true, true, true, true, true, true, true, true, false, false, false, false, false, false, false, false, false, false, false, false]) [] (n := 12) (by kernel_rfl) (by kernel_rfl) (by kernel_rfl) trivial ?_
      refine wpa_call (i := 16) (n := 11) (dst := some 35) (rest := [Ch.blk q 52 [Value.bool true, Value.string (mkS xs), Value.int IntKind.i64 0, Value.int IntKind.i64 0], ro a (u8s xs)]) (by kernel_rfl) (by kernel_rfl) (Err_spec r xs 0 e) (give [0] (by kernel_rfl)) (sub_of [0, 1] (by kernel_rfl)) ?_
      rintro v' hp' ⟨rfl, rfl⟩
      refine wpa_take true [(17, []), (18, [])] [(37, Value.bool (e != 0)), (33, Value.bool false), (5, Value.int IntKind.i64 0), (4, Value.pointer (some { block := q, off := 0 })), (3, Value.pointer (some { block := r, off := 0 })), (2, Value.bool false), (0, Value.slice a xs.length ca)] (#[true, true, true, true, true, true, true, true, true, true, true, true, true, true, true, true, true, true, true, false, false, false, false, false, false, false, false, false]) [] (n := 9) (by kernel_rfl) (by kernel_rfl) (by kernel_rfl) trivial ?_
      refine wpa_ent (ent_set 37 (Value.bool (e != 0)) (Value.bool true) (by kernel_rfl) (congrArg _ (by simp [he]))) ?_
      refine wpa_take true [(19, []), (20, []), (21, []), (22, [])] [(41, Value.pointer (some { block := r, off := 0 })), (40, Value.bool false), (37, Value.bool true), (33, Value.bool false), (4, Value.pointer (some { block := q, off := 0 })), (3, Value.pointer (some { block := r, off := 0 })), (2, Value.bool false), (0, Value.slice a xs.length ca)] (#[true, true, true, true, true, true, true, true, true, true, true, true, true, true, true, true, true, true, true, true, true, true, true, false, false, false, false, false]) [] (n := 5) (by kernel_rfl) (by kernel_rfl) (by kernel_rfl) trivial ?_
      refine wpa_call (i := 23) (n := 4) (dst := some 42) (rest := [Ch.blk q 52 [Value.bool true, Value.string (mkS xs), Value.int IntKind.i64 0, Value.int IntKind.i64 0], ro a (u8s xs)]) (by kernel_rfl) (by kernel_rfl) (At_spec r xs 0 e) (give [0] (by kernel_rfl)) (sub_of [0, 1] (by kernel_rfl)) ?_
      rintro v' hp' ⟨rfl, rfl⟩
      refine wpa_take true [(24, []), (25, []), (26, []), (27, [])] [(46, Value.bool false), (4, Value.pointer (some { block := q, off := 0 })), (3, Value.pointer (some { block := r, off := 0 })), (2, Value.bool false), (0, Value.slice a xs.length ca)] (#[true, true, true, true, true, true, true, true, true, true, true, true, true, true, true, true, true, true, true, true, true, true, true, true, true, true, true, true]) [] (n := 0) (by kernel_rfl) (by kernel_rfl) (by kernel_rfl) trivial ?_
      refine wpa_done 0 (by kernel_rfl) ?_
      exact nx_ent (ent_fr (by kernel_rfl)) hk
  refine nx_then ?_
  refine wpc_false (by kernel_rfl) ?_
  refine wpc_skip ?_
  refine nx_then ?_
  refine wpc_seq ?_
  refine wpc_region [0, 1, 2, 3, 4] (by kernel_rfl) ?_
  refine wpr_run (l₂ := [3, 4]) true [0, 1, 2] [] [(49, Value.int IntKind.i64 (↑xs.length : Int)), (47, Value.pointer (some { block := q, off := 0 })), (0, Value.slice a xs.length ca), (2, Value.bool false), (4, Value.pointer (some { block := q, off := 0 }))] [Ch.blk r 52 [Value.bool true, Value.string (mkS xs), Value.int IntKind.i64 (↑u : Int), Value.int IntKind.i64 e], Ch.blk q 52 [Value.bool true, Value.string (mkS xs), Value.int IntKind.i64 0, Value.int IntKind.i64 0], ro a (u8s xs)] [] (by kernel_rfl) (by kernel_rfl) trivial ?_
  refine wpr_call (dst := some 50) (rest := [Ch.blk r 52 [Value.bool true, Value.string (mkS xs), Value.int IntKind.i64 (↑u : Int), Value.int IntKind.i64 e], ro a (u8s xs)]) (by kernel_rfl) (Text_spec q 0 xs 0 xs.length (by omega) (by omega)) (give [1] (by kernel_rfl)) ?_
  rintro v' hp' ⟨rfl, rfl⟩
  rw [hy]
  refine wpr_run (l₂ := []) true [4] [] [(6, Value.string (mkS y)), (0, Value.slice a xs.length ca), (2, Value.bool false), (4, Value.pointer (some { block := q, off := 0 }))] [Ch.blk q 52 [Value.bool true, Value.string (mkS xs), Value.int IntKind.i64 (↑v : Int), Value.int IntKind.i64 f], Ch.blk r 52 [Value.bool true, Value.string (mkS xs), Value.int IntKind.i64 (↑u : Int), Value.int IntKind.i64 e], ro a (u8s xs)] [] (by kernel_rfl) (by kernel_rfl) trivial ?_
  refine wpr_nil ?_
  refine nx_then ?_
  refine wpc_seq ?_
  refine wpc_seq ?_
  refine wpc_draw (by kernel_rfl) [Ch.blk r 52 [Value.bool true, Value.string (mkS xs), Value.int IntKind.i64 (↑u : Int), Value.int IntKind.i64 e], ro a (u8s xs)] (sub_of [1, 2] (by kernel_rfl)) 28 (by kernel_rfl) ?_
  refine wpa_join ⟨[(78, Value.bool false), (2, (Value.bool false))], [Ch.blk q 52 [Value.bool true, Value.string (mkS xs), Value.int IntKind.i64 (↑v : Int), Value.int IntKind.i64 f], Ch.blk r 52 [Value.bool true, Value.string (mkS xs), Value.int IntKind.i64 (↑u : Int), Value.int IntKind.i64 e], ro a (u8s xs)]⟩ (fun Q1 hQ1 hk => ?_) ?_
  · refine wpa_take true [(0, [])] [(51, Value.pointer (some { block := q, off := 0 })), (6, Value.string (mkS y)), (0, Value.slice a xs.length ca), (2, Value.bool false), (4, Value.pointer (some { block := q, off := 0 }))] (#[true, false, false, false, false, false, false, false, false, false, false, false, false, false, false, false, false, false, false, false, false, false, false, false, false, false, false, false]) [] (n := 27) (by kernel_rfl) (by kernel_rfl) (by kernel_rfl) trivial ?_
    refine wpa_call (i := 1) (n := 26) (dst := some 52) (rest := [Ch.blk r 52 [Value.bool true, Value.string (mkS xs), Value.int IntKind.i64 (↑u : Int), Value.int IntKind.i64 e], ro a (u8s xs)]) (by kernel_rfl) (by kernel_rfl) (Err_spec q xs v f) (give [0] (by kernel_rfl)) (sub_of [0, 1] (by kernel_rfl)) ?_
    rintro v' hp' ⟨rfl, rfl⟩
    refine wpa_take true [(2, []), (3, [])] [(54, Value.bool (f == 0)), (6, Value.string (mkS y)), (0, Value.slice a xs.length ca), (2, Value.bool false), (4, Value.pointer (some { block := q, off := 0 }))] (#[true, true, true, true, false, false, false, false, false, false, false, false, false, false, false, false, false, false, false, false, false, false, false, false, false, false, false, false]) [] (n := 24) (by kernel_rfl) (by kernel_rfl) (by kernel_rfl) trivial ?_
    by_cases he : f = 0
    · subst he
      obtain ⟨hu, ht, hul, hyl⟩ := hF rfl
      refine wpa_ent (ent_set 54 (Value.bool true) (Value.bool true) (by kernel_rfl) (congrArg _ rfl)) ?_
      refine wpa_take true [(4, []), (7, []), (8, [])] [(59, Value.pointer (some { block := q, off := 0 })), (58, Value.slice a xs.length ca), (55, Value.string (mkS y)), (54, Value.bool true), (6, Value.string (mkS y)), (2, Value.bool false), (4, Value.pointer (some { block := q, off := 0 }))] (#[true, true, true, true, true, false, false, true, true, false, false, false, false, false, false, false, false, false, false, false, false, false, false, false, false, false, false, false]) [] (n := 21) (by kernel_rfl) (by kernel_rfl) (by kernel_rfl) trivial ?_
      refine wpa_ent (ent_nil 5 1) ?_
      refine wpa_call (i := 5) (n := 20) (dst := some 56) (rest := [Ch.blk q 52 [Value.bool true, Value.string (mkS xs), Value.int IntKind.i64 (↑v : Int), Value.int IntKind.i64 0], Ch.blk r 52 [Value.bool true, Value.string (mkS xs), Value.int IntKind.i64 (↑u : Int), Value.int IntKind.i64 e], ro a (u8s xs)]) (by kernel_rfl) (by kernel_rfl) (PutText_spec none 0 [] y (by decide) (by omega)) (give [0] (by kernel_rfl)) (sub_of [1, 2] (by kernel_rfl)) ?_
      rintro v' hp' ⟨a1, c1, rfl, rfl⟩
      rw [List.nil_append]
      refine wpa_two (i := 6) (j := 9) (n := 19) (by kernel_rfl) ?_ ?_
      · refine wpi_eq (i := 6) (b2s (a := 22) (b := 9) (ad := a1) (n := ((encT y).length)) (c := c1) (dst := some 57) (by kernel_rfl) (by kernel_rfl) (encT y) (by first | rfl | simp) (fun w h => b2s_row h 0 rfl)) (sub_of [2, 3] (by kernel_rfl)) ?_
        refine wpa_call (i := 9) (n := 18) (dst := some 60) (rest := [row 5 1 a1 (encT y).length c1 (u8s (encT y)), Ch.blk r 52 [Value.bool true, Value.string (mkS xs), Value.int IntKind.i64 (↑u : Int), Value.int IntKind.i64 e], ro a (u8s xs)]) (by kernel_rfl) (by kernel_rfl) (At_spec q xs v 0) (give [1] (by kernel_rfl)) (sub_of [1, 2] (by kernel_rfl)) ?_
        rintro v' hp' ⟨rfl, rfl⟩
        refine wpa_take true [(10, [])] [(61, Value.slice a v ca), (57, Value.string (mkS (encT y))), (54, Value.bool true), (6, Value.string (mkS y)), (2, Value.bool false), (4, Value.pointer (some { block := q, off := 0 }))] (#[true, true, true, true, true, true, true, true, true, true, true, false, false, false, false, false, false, false, false, false, false, false, false, false, false, false, false, false]) [(0 : Int) ≤ (↑v : Int) ∧ (↑v : Int) ≤ (↑ca : Int)] (n := 17) (by kernel_rfl) (by kernel_rfl) (by kernel_rfl) ⟨by omega, trivial⟩ ?_
        refine wpa_eq (i := 11) (n := 16) (by kernel_rfl) (b2s (a := 22) (b := 9) (ad := a) (n := v) (c := ca) (dst := some 62) (by kernel_rfl) (by kernel_rfl) (xs.take v) (by first | rfl | (rw [List.length_take]; omega)) (fun w h => b2s_part h 3 rfl ⟨_, rfl⟩)) (sub_of [2, 3] (by kernel_rfl)) ?_
        refine wpa_take true [(12, []), (13, []), (14, [])] [(65, Value.bool !decide (encT y = List.take v xs)), (6, Value.string (mkS y)), (2, Value.bool false), (4, Value.pointer (some { block := q, off := 0 }))] (#[true, true, true, true, true, true, true, true, true, true, true, true, true, true, true, false, false, false, false, false, false, false, false, false, false, false, false, false]) [] (n := 13) (by kernel_rfl) (by kernel_rfl) (by kernel_rfl) trivial ?_
        refine wpa_ent (ent_set 65 (Value.bool !decide (encT y = List.take v xs)) (Value.bool false) (by kernel_rfl) (congrArg _ (by rw [ht]; simp))) ?_
        refine wpa_take true [(15, [])] [(66, Value.pointer (some { block := q, off := 0 })), (65, Value.bool false), (6, Value.string (mkS y)), (2, Value.bool false), (4, Value.pointer (some { block := q, off := 0 }))] (#[true, true, true, true, true, true, true, true, true, true, true, true, true, true, true, true, false, false, false, false, false, false, false, false, false, false, false, false]) [] (n := 12) (by kernel_rfl) (by kernel_rfl) (by kernel_rfl) trivial ?_
        refine wpa_call (i := 16) (n := 11) (dst := some 67) (rest := [row 5 1 a1 (encT y).length c1 (u8s (encT y)), Ch.blk r 52 [Value.bool true, Value.string (mkS xs), Value.int IntKind.i64 (↑u : Int), Value.int IntKind.i64 e], ro a (u8s xs)]) (by kernel_rfl) (by kernel_rfl) (Err_spec q xs v 0) (give [0] (by kernel_rfl)) (sub_of [1, 2] (by kernel_rfl)) ?_
        rintro v' hp' ⟨rfl, rfl⟩
        refine wpa_take true [(17, []), (18, []), (19, []), (20, []), (21, []), (22, []), (23, []), (24, []), (25, []), (26, []), (27, [])] [(78, Value.bool false), (2, Value.bool false)] (#[true, true, true, true, true, true, true, true, true, true, true, true, true, true, true, true, true, true, true, true, true, true, true, true, true, true, true, true]) [] (n := 0) (by kernel_rfl) (by kernel_rfl) (by kernel_rfl) trivial ?_
        refine wpa_done 0 (by kernel_rfl) ?_
        exact nx_ent (ent_hp [0, 1, 1] rfl) (nx_ent (ent_fr (by kernel_rfl)) hk)
      · refine wpi_call (i := 9) (dst := some 60) (rest := [row 5 1 a1 (encT y).length c1 (u8s (encT y)), Ch.blk r 52 [Value.bool true, Value.string (mkS xs), Value.int IntKind.i64 (↑u : Int), Value.int IntKind.i64 e], ro a (u8s xs)]) (by kernel_rfl) (At_spec q xs v 0) (give [1] (by kernel_rfl)) (sub_of [1, 2] (by kernel_rfl)) ?_
        rintro v' hp' ⟨rfl, rfl⟩
        refine wpa_take true [(10, [])] [(61, Value.slice a v ca), (56, Value.slice a1 (encT y).length c1), (54, Value.bool true), (6, Value.string (mkS y)), (2, Value.bool false), (4, Value.pointer (some { block := q, off := 0 }))] (#[true, true, true, true, true, true, false, true, true, true, true, false, false, false, false, false, false, false, false, false, false, false, false, false, false, false, false, false]) [(0 : Int) ≤ (↑v : Int) ∧ (↑v : Int) ≤ (↑ca : Int)] (n := 18) (by kernel_rfl) (by kernel_rfl) (by kernel_rfl) ⟨by omega, trivial⟩ ?_
        refine wpa_two (i := 6) (j := 11) (n := 17) (by kernel_rfl) ?_ ?_
        · refine wpi_eq (i := 6) (b2s (a := 22) (b := 9) (ad := a1) (n := ((encT y).length)) (c := c1) (dst := some 57) (by kernel_rfl) (by kernel_rfl) (encT y) (by first | rfl | simp) (fun w h => b2s_row h 1 rfl)) (sub_of [2, 3] (by kernel_rfl)) ?_
          refine wpa_eq (i := 11) (n := 16) (by kernel_rfl) (b2s (a := 22) (b := 9) (ad := a) (n := v) (c := ca) (dst := some 62) (by kernel_rfl) (by kernel_rfl) (xs.take v) (by first | rfl | (rw [List.length_take]; omega)) (fun w h => b2s_part h 3 rfl ⟨_, rfl⟩)) (sub_of [2, 3] (by kernel_rfl)) ?_
          refine wpa_take true [(12, []), (13, []), (14, [])] [(65, Value.bool !decide (encT y = List.take v xs)), (6, Value.string (mkS y)), (2, Value.bool false), (4, Value.pointer (some { block := q, off := 0 }))] (#[true, true, true, true, true, true, true, true, true, true, true, true, true, true, true, false, false, false, false, false, false, false, false, false, false, false, false, false]) [] (n := 13) (by kernel_rfl) (by kernel_rfl) (by kernel_rfl) trivial ?_
          refine wpa_ent (ent_set 65 (Value.bool !decide (encT y = List.take v xs)) (Value.bool false) (by kernel_rfl) (congrArg _ (by rw [ht]; simp))) ?_
          refine wpa_take true [(15, [])] [(66, Value.pointer (some { block := q, off := 0 })), (65, Value.bool false), (6, Value.string (mkS y)), (2, Value.bool false), (4, Value.pointer (some { block := q, off := 0 }))] (#[true, true, true, true, true, true, true, true, true, true, true, true, true, true, true, true, false, false, false, false, false, false, false, false, false, false, false, false]) [] (n := 12) (by kernel_rfl) (by kernel_rfl) (by kernel_rfl) trivial ?_
          refine wpa_call (i := 16) (n := 11) (dst := some 67) (rest := [row 5 1 a1 (encT y).length c1 (u8s (encT y)), Ch.blk r 52 [Value.bool true, Value.string (mkS xs), Value.int IntKind.i64 (↑u : Int), Value.int IntKind.i64 e], ro a (u8s xs)]) (by kernel_rfl) (by kernel_rfl) (Err_spec q xs v 0) (give [0] (by kernel_rfl)) (sub_of [1, 2] (by kernel_rfl)) ?_
          rintro v' hp' ⟨rfl, rfl⟩
          refine wpa_take true [(17, []), (18, []), (19, []), (20, []), (21, []), (22, []), (23, []), (24, []), (25, []), (26, []), (27, [])] [(78, Value.bool false), (2, Value.bool false)] (#[true, true, true, true, true, true, true, true, true, true, true, true, true, true, true, true, true, true, true, true, true, true, true, true, true, true, true, true]) [] (n := 0) (by kernel_rfl) (by kernel_rfl) (by kernel_rfl) trivial ?_
          refine wpa_done 0 (by kernel_rfl) ?_
          exact nx_ent (ent_hp [0, 1, 1] rfl) (nx_ent (ent_fr (by kernel_rfl)) hk)
        · refine wpi_eq (i := 11) (b2s (a := 22) (b := 9) (ad := a) (n := v) (c := ca) (dst := some 62) (by kernel_rfl) (by kernel_rfl) (xs.take v) (by first | rfl | (rw [List.length_take]; omega)) (fun w h => b2s_part h 3 rfl ⟨_, rfl⟩)) (sub_of [2, 3] (by kernel_rfl)) ?_
          refine wpa_eq (i := 6) (n := 16) (by kernel_rfl) (b2s (a := 22) (b := 9) (ad := a1) (n := ((encT y).length)) (c := c1) (dst := some 57) (by kernel_rfl) (by kernel_rfl) (encT y) (by first | rfl | simp) (fun w h => b2s_row h 1 rfl)) (sub_of [2, 3] (by kernel_rfl)) ?_
          refine wpa_take true [(12, []), (13, []), (14, [])] [(65, Value.bool !decide (encT y = List.take v xs)), (6, Value.string (mkS y)), (2, Value.bool false), (4, Value.pointer (some { block := q, off := 0 }))] (#[true, true, true, true, true, true, true, true, true, true, true, true, true, true, true, false, false, false, false, false, false, false, false, false, false, false, false, false]) [] (n := 13) (by kernel_rfl) (by kernel_rfl) (by kernel_rfl) trivial ?_
          refine wpa_ent (ent_set 65 (Value.bool !decide (encT y = List.take v xs)) (Value.bool false) (by kernel_rfl) (congrArg _ (by rw [ht]; simp))) ?_
          refine wpa_take true [(15, [])] [(66, Value.pointer (some { block := q, off := 0 })), (65, Value.bool false), (6, Value.string (mkS y)), (2, Value.bool false), (4, Value.pointer (some { block := q, off := 0 }))] (#[true, true, true, true, true, true, true, true, true, true, true, true, true, true, true, true, false, false, false, false, false, false, false, false, false, false, false, false]) [] (n := 12) (by kernel_rfl) (by kernel_rfl) (by kernel_rfl) trivial ?_
          refine wpa_call (i := 16) (n := 11) (dst := some 67) (rest := [row 5 1 a1 (encT y).length c1 (u8s (encT y)), Ch.blk r 52 [Value.bool true, Value.string (mkS xs), Value.int IntKind.i64 (↑u : Int), Value.int IntKind.i64 e], ro a (u8s xs)]) (by kernel_rfl) (by kernel_rfl) (Err_spec q xs v 0) (give [0] (by kernel_rfl)) (sub_of [1, 2] (by kernel_rfl)) ?_
          rintro v' hp' ⟨rfl, rfl⟩
          refine wpa_take true [(17, []), (18, []), (19, []), (20, []), (21, []), (22, []), (23, []), (24, []), (25, []), (26, []), (27, [])] [(78, Value.bool false), (2, Value.bool false)] (#[true, true, true, true, true, true, true, true, true, true, true, true, true, true, true, true, true, true, true, true, true, true, true, true, true, true, true, true]) [] (n := 0) (by kernel_rfl) (by kernel_rfl) (by kernel_rfl) trivial ?_
          refine wpa_done 0 (by kernel_rfl) ?_
          exact nx_ent (ent_hp [0, 1, 1] rfl) (nx_ent (ent_fr (by kernel_rfl)) hk)
    · obtain ⟨rfl, rfl⟩ := hNF he
      refine wpa_ent (ent_set 54 (Value.bool (f == 0)) (Value.bool false) (by kernel_rfl) (congrArg _ (by simp [he]))) ?_
      refine wpa_take true [(4, []), (5, []), (6, []), (7, []), (8, []), (9, []), (10, []), (11, []), (12, []), (13, []), (14, []), (15, [])] [(66, Value.pointer (some { block := q, off := 0 })), (65, Value.bool false), (6, Value.string (mkS [])), (2, Value.bool false), (4, Value.pointer (some { block := q, off := 0 }))] (#[true, true, true, true, true, true, true, true, true, true, true, true, true, true, true, true, false, false, false, false, false, false, false, false, false, false, false, false]) [] (n := 12) (by kernel_rfl) (by kernel_rfl) (by kernel_rfl) trivial ?_
      refine wpa_call (i := 16) (n := 11) (dst := some 67) (rest := [Ch.blk r 52 [Value.bool true, Value.string (mkS xs), Value.int IntKind.i64 (↑u : Int), Value.int IntKind.i64 e], ro a (u8s xs)]) (by kernel_rfl) (by kernel_rfl) (Err_spec q xs 0 f) (give [0] (by kernel_rfl)) (sub_of [0, 1] (by kernel_rfl)) ?_
      rintro v' hp' ⟨rfl, rfl⟩
      refine wpa_take true [(17, []), (18, [])] [(69, Value.bool (f != 0)), (65, Value.bool false), (6, Value.string (mkS [])), (2, Value.bool false), (4, Value.pointer (some { block := q, off := 0 }))] (#[true, true, true, true, true, true, true, true, true, true, true, true, true, true, true, true, true, true, true, false, false, false, false, false, false, false, false, false]) [] (n := 9) (by kernel_rfl) (by kernel_rfl) (by kernel_rfl) trivial ?_
      refine wpa_ent (ent_set 69 (Value.bool (f != 0)) (Value.bool true) (by kernel_rfl) (congrArg _ (by simp [he]))) ?_
      refine wpa_take true [(19, []), (20, []), (21, []), (22, [])] [(73, Value.pointer (some { block := q, off := 0 })), (72, Value.bool false), (69, Value.bool true), (65, Value.bool false), (2, Value.bool false)] (#[true, true, true, true, true, true, true, true, true, true, true, true, true, true, true, true, true, true, true, true, true, true, true, false, false, false, false, false]) [] (n := 5) (by kernel_rfl) (by kernel_rfl) (by kernel_rfl) trivial ?_
      refine wpa_call (i := 23) (n := 4) (dst := some 74) (rest := [Ch.blk r 52 [Value.bool true, Value.string (mkS xs), Value.int IntKind.i64 (↑u : Int), Value.int IntKind.i64 e], ro a (u8s xs)]) (by kernel_rfl) (by kernel_rfl) (At_spec q xs 0 f) (give [0] (by kernel_rfl)) (sub_of [0, 1] (by kernel_rfl)) ?_
      rintro v' hp' ⟨rfl, rfl⟩
      refine wpa_take true [(24, []), (25, []), (26, []), (27, [])] [(78, Value.bool false), (2, Value.bool false)] (#[true, true, true, true, true, true, true, true, true, true, true, true, true, true, true, true, true, true, true, true, true, true, true, true, true, true, true, true]) [] (n := 0) (by kernel_rfl) (by kernel_rfl) (by kernel_rfl) trivial ?_
      refine wpa_done 0 (by kernel_rfl) ?_
      exact nx_ent (ent_fr (by kernel_rfl)) hk
  refine nx_then ?_
  refine wpc_false (by kernel_rfl) ?_
  refine wpc_skip ?_
  refine nx_then ?_
  refine wpc_seq ?_
  refine wpc_region [0, 1] (by kernel_rfl) ?_
  refine wpr_call (dst := some 79) (rest := [Ch.blk q 52 [Value.bool true, Value.string (mkS xs), Value.int IntKind.i64 (↑v : Int), Value.int IntKind.i64 f], Ch.blk r 52 [Value.bool true, Value.string (mkS xs), Value.int IntKind.i64 (↑u : Int), Value.int IntKind.i64 e], ro a (u8s xs)]) (by kernel_rfl) (lives_spec) (give [] (by kernel_rfl)) ?_
  rintro v' hp' ⟨rfl, rfl⟩
  refine wpr_run (l₂ := []) true [1] [] [(2, Value.bool true)] [Ch.blk q 52 [Value.bool true, Value.string (mkS xs), Value.int IntKind.i64 (↑v : Int), Value.int IntKind.i64 f], Ch.blk r 52 [Value.bool true, Value.string (mkS xs), Value.int IntKind.i64 (↑u : Int), Value.int IntKind.i64 e], ro a (u8s xs)] [] (by kernel_rfl) (by kernel_rfl) trivial ?_
  refine wpr_nil ?_
  refine nx_then ?_
  refine wpc_ret ?_
  refine nx_end (hp' := []) (rest := [Ch.blk q 52 [Value.bool true, Value.string (mkS xs), Value.int IntKind.i64 (↑v : Int), Value.int IntKind.i64 f], Ch.blk r 52 [Value.bool true, Value.string (mkS xs), Value.int IntKind.i64 (↑u : Int), Value.int IntKind.i64 e], ro a (u8s xs)]) [] ((Value.bool true)) (by kernel_rfl) (by kernel_rfl) (give [] (by kernel_rfl)) (by first | ((repeat (first | exact trivial | refine ⟨trivial, ?_⟩)); done) | assumption) ?_ (.inr rfl)
  exact ⟨rfl, rfl⟩
end Go.Proofs.Ytgkcodkeikaeeaa
