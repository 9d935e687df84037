import Derived.Test.YtolmjhhldbnkdaaD6
import Derived.Test.YtolmjhhldbnkdaaX9
import Derived.Test.YtolmjhhldbnkdaaX8
namespace Go.Proofs.Ytolmjhhldbnkdaa
open Go Go.Sx
set_option linter.unusedVariables false
set_option linter.unusedSimpArgs false

theorem DiskOwn_spec (a : Option Addr) (ca : Nat) (xs : List UInt8) (ha : a = none → xs = []) (hla : xs.length ≤ 140737488351232) :
    Does Try.prog 4 [.slice a xs.length ca] [ro a (u8s xs)] (fun v hp' => v = .bool true ∧ hp' = []) := by
  refine fn_enter Try.func4 rfl 58 rfl fun w0 h0 => ?_
  refine wpc_seq ?_
  refine wpc_region [0] (by kernel_rfl) ?_
  refine wpr_run (l₂ := []) true [0] [] [(2, Value.bool false), (0, Value.slice a xs.length ca)] [ro a (u8s xs)] [] (by kernel_rfl) (by kernel_rfl) trivial ?_
  refine wpr_nil ?_
  refine nx_then ?_
  refine wpc_seq ?_
  refine wpc_region [0, 1] (by kernel_rfl) ?_
  refine wpr_call (dst := some 9) (rest := [ro a (u8s xs)]) (by kernel_rfl) (New_spec) (give [] (by kernel_rfl)) ?_
  rintro v hp' ⟨d, rfl, rfl⟩
  refine wpr_run (l₂ := []) true [1] [] [(3, Value.pointer (some { block := d, off := 0 })), (2, Value.bool false), (0, Value.slice a xs.length ca)] [Ch.blk d 46 [Value.bool true, Value.slice none 0 0, Value.int IntKind.i64 0], ro a (u8s xs)] [] (by kernel_rfl) (by kernel_rfl) trivial ?_
  refine wpr_nil ?_
  refine nx_then ?_
  refine wpc_seq ?_
  refine wpc_seq ?_
  refine wpc_region [0, 1] (by kernel_rfl) ?_
  refine wpr_run (l₂ := []) true [0, 1] [] [(11, Value.bool false), (3, Value.pointer (some { block := d, off := 0 })), (2, Value.bool false), (0, Value.slice a xs.length ca)] [Ch.blk d 46 [Value.bool true, Value.slice none 0 0, Value.int IntKind.i64 0], ro a (u8s xs)] [] (by kernel_rfl) (by kernel_rfl) trivial ?_
  refine wpr_nil ?_
  refine nx_then ?_
  refine wpc_false (by kernel_rfl) ?_
  refine wpc_skip ?_
  refine nx_then ?_
  refine wpc_seq ?_
  refine wpc_region [0, 1, 2] (by kernel_rfl) ?_
  refine wpr_run (l₂ := [1, 2]) true [0] [] [(12, Value.slice a xs.length ca), (3, Value.pointer (some { block := d, off := 0 })), (2, Value.bool false), (0, Value.slice a xs.length ca)] [Ch.blk d 46 [Value.bool true, Value.slice none 0 0, Value.int IntKind.i64 0], ro a (u8s xs)] [] (by kernel_rfl) (by kernel_rfl) trivial ?_
  refine wpr_eq (b2s (a := 22) (b := 9) (ad := a) (n := xs.length) (c := ca) (dst := some 13) (by kernel_rfl) (by kernel_rfl) xs (by first | rfl | simp) (fun w h => b2s_ro h 1 rfl)) ?_
  refine wpr_run (l₂ := []) true [2] [] [(4, Value.string (mkS xs)), (3, Value.pointer (some { block := d, off := 0 })), (2, Value.bool false), (0, Value.slice a xs.length ca)] [Ch.blk d 46 [Value.bool true, Value.slice none 0 0, Value.int IntKind.i64 0], ro a (u8s xs)] [] (by kernel_rfl) (by kernel_rfl) trivial ?_
  refine wpr_nil ?_
  refine nx_then ?_
  refine wpc_seq ?_
  refine wpc_region [0, 1, 2, 3] (by kernel_rfl) ?_
  refine wpr_new (l₂ := [1, 2, 3]) true [0] [] (fun g1 => [(14, Value.slice (some { block := g1, off := 0 }) 0 0), (4, Value.string (mkS xs)), (3, Value.pointer (some { block := d, off := 0 })), (2, Value.bool false), (0, Value.slice a xs.length ca)]) (fun g1 => [Ch.blk d 46 [Value.bool true, Value.slice none 0 0, Value.int IntKind.i64 0], ro a (u8s xs), Ch.blk g1 5 []]) (fun g1 => []) (fun g1 => by kernel_rfl) (fun g1 => by kernel_rfl) (fun g1 => trivial) fun g1 => ?_
  refine wpr_run (l₂ := [2, 3]) true [1] [] [(15, Value.slice a xs.length ca), (14, Value.slice (some { block := g1, off := 0 }) 0 0), (4, Value.string (mkS xs)), (3, Value.pointer (some { block := d, off := 0 })), (2, Value.bool false)] [Ch.blk d 46 [Value.bool true, Value.slice none 0 0, Value.int IntKind.i64 0], ro a (u8s xs), Ch.blk g1 5 []] [] (by kernel_rfl) (by kernel_rfl) trivial ?_
  refine wpr_ent (ent_turn 2 (row 5 1 (some ⟨g1, 0, none⟩) 0 0 []) rfl (turn_blk rfl (by intro u hu; cases hu) (by simp)) rfl) ?_
  refine wpr_app (a := (some { block := g1, off := 0 })) (n := 0) (cap := 0) (x := (Value.slice a xs.length ca)) (t := 22) (xt := 22) (dst := some 16) (by kernel_rfl) (e := 5) (sz := 1) (bytes := 1) (by kernel_rfl) 2 (xs := []) (by kernel_rfl) (m := (xs.length)) (news := (u8s xs)) (fun w h => src_ro h 1 rfl (by simp [u8s_len]) (fun e => by rw [ha e]; rfl)) (by unfold maxLen; omega) (by omega) ?_
  intro a1 c1 hn
  simp only [List.nil_append, Nat.zero_add]
  refine wpr_run (l₂ := []) true [3] [] [(5, Value.slice a1 xs.length c1), (4, Value.string (mkS xs)), (3, Value.pointer (some { block := d, off := 0 })), (2, Value.bool false)] [Ch.blk d 46 [Value.bool true, Value.slice none 0 0, Value.int IntKind.i64 0], ro a (u8s xs), row 5 1 a1 xs.length c1 (u8s xs)] [] (by kernel_rfl) (by kernel_rfl) trivial ?_
  refine wpr_nil ?_
  refine nx_then ?_
  refine wpc_seq ?_
  refine wpc_region [0, 1, 2] (by kernel_rfl) ?_
  refine wpr_run (l₂ := [2]) true [0, 1] [] [(18, Value.slice a1 xs.length c1), (17, Value.pointer (some { block := d, off := 0 })), (5, Value.slice a1 xs.length c1), (4, Value.string (mkS xs)), (3, Value.pointer (some { block := d, off := 0 })), (2, Value.bool false)] [Ch.blk d 46 [Value.bool true, Value.slice none 0 0, Value.int IntKind.i64 0], ro a (u8s xs), row 5 1 a1 xs.length c1 (u8s xs)] [] (by kernel_rfl) (by kernel_rfl) trivial ?_
  refine wpr_ent (ent_nil 5 1) ?_
  refine wpr_call (dst := some 19) (rest := [ro a (u8s xs), row 5 1 a1 xs.length c1 (u8s xs)]) (by kernel_rfl) (Append_spec d none a1 0 c1 0 [] xs (fun h => by cases (hn.1 h).1) (by simp; omega)) (Give.reorder (Give.view (c := (row 5 1 a1 xs.length c1 (u8s xs))) (give (pre := [Ch.blk d 46 [Value.bool true, Value.slice none 0 0, Value.int IntKind.i64 0], row 5 1 none 0 0 (u8s [])]) (rest := [ro a (u8s xs), row 5 1 a1 xs.length c1 (u8s xs)]) [1, 0] (by kernel_rfl)) 1 (by kernel_rfl) view_row) [1, 1, 0] (by kernel_rfl)) ?_
  rintro v hp' ⟨rfl, a2, c2, rfl⟩
  rw [List.nil_append]
  refine wpr_nil ?_
  refine nx_then ?_
  refine wpc_seq ?_
  refine wpc_seq ?_
  refine wpc_region [0] (by kernel_rfl) ?_
  refine wpr_run (l₂ := []) true [0] [] [(6, Value.int IntKind.i64 0), (5, Value.slice a1 xs.length c1), (4, Value.string (mkS xs)), (3, Value.pointer (some { block := d, off := 0 })), (2, Value.bool false)] [Ch.blk d 46 [Value.bool true, Value.slice a2 xs.length c2, Value.int IntKind.i64 0], row 5 1 a2 xs.length c2 (u8s xs), ro a (u8s xs), row 5 1 a1 xs.length c1 (u8s xs)] [] (by kernel_rfl) (by kernel_rfl) trivial ?_
  refine wpr_nil ?_
  refine nx_then ?_
  refine wpc_block ?_
  refine wpc_loop (X := {p : Nat × List UInt8 // p.1 ≤ xs.length ∧ p.2.length = xs.length}) (fun x => St.mk [(6, .int .i64 (x.1.1 : Int)), (5, .slice a1 xs.length c1), (4, .string (mkS xs)), (3, .pointer (some ⟨d, 0, none⟩)), (2, .bool false)]
    [dblk d a2 xs.length c2 0, row 5 1 a2 xs.length c2 (u8s xs), ro a (u8s xs), row 5 1 a1 xs.length c1 (u8s x.1.2)]) (fun x => xs.length - x.1.1) ⟨(0, xs), Nat.zero_le _, rfl⟩ (ent_fr (by kernel_rfl)) ?_
  rintro ⟨⟨k, ys⟩, hk, hy⟩
  dsimp only at hk hy ⊢
  refine wpc_seq ?_
  refine wpc_seq ?_
  refine wpc_region [0, 1, 2, 3] (by kernel_rfl) ?_
  refine wpr_run (l₂ := []) true [0, 1, 2, 3] [] [(23, Value.bool (decide ((↑k : Int) < (↑xs.length : Int)))), (6, Value.int IntKind.i64 (↑k : Int)), (5, Value.slice a1 xs.length c1), (4, Value.string (mkS xs)), (3, Value.pointer (some { block := d, off := 0 })), (2, Value.bool false)] [Ch.blk d 46 [Value.bool true, Value.slice a2 xs.length c2, Value.int IntKind.i64 0], row 5 1 a2 xs.length c2 (u8s xs), ro a (u8s xs), row 5 1 a1 xs.length c1 (u8s ys)] [] (by kernel_rfl) (by kernel_rfl) trivial ?_
  refine wpr_nil ?_
  refine nx_then ?_
  refine wpc_if (((↑k : Int) < (↑xs.length : Int))) (by kernel_rfl) (fun hlt => ?_) (fun hlt => ?_)
  · have hky : k < ys.length := by omega
    refine wpc_fact (fun w h => row_addr h 3 rfl (by omega)) ?_
    rintro ⟨w1, o1, rfl⟩
    refine wpc_skip ?_
    refine nx_then ?_
    refine wpc_seq ?_
    refine wpc_block ?_
    refine wpc_region [0, 1, 2, 3, 4, 5, 6] (by kernel_rfl) ?_
    refine wpr_run (l₂ := [3, 4, 5, 6]) true [0, 1, 2] [] ([(28, Value.pointer (some { block := w1, off := o1 + k * 1 })), (27, Value.int IntKind.i64 (↑k : Int)), (26, Value.slice (some { block := w1, off := o1 }) xs.length c1), (6, Value.int IntKind.i64 (↑k : Int)), (5, Value.slice (some { block := w1, off := o1 }) xs.length c1), (4, Value.string (mkS xs)), (3, Value.pointer (some { block := d, off := 0 })), (2, Value.bool false)]) [Ch.blk d 46 [Value.bool true, Value.slice a2 xs.length c2, Value.int IntKind.i64 0], row 5 1 a2 xs.length c2 (u8s xs), ro a (u8s xs), row 5 1 (some { block := w1, off := o1 }) xs.length c1 (u8s ys)] [0 ≤ (↑k : Int) ∧ (↑k : Int) < (↑xs.length : Int)] (by kernel_rfl) (by kernel_rfl) ⟨by omega, trivial⟩ ?_
    refine wpr_eq (ld (t := 5) (a := ({ block := w1, off := o1 + k * 1 })) (dst := some 29) (by kernel_rfl) false 1 (by kernel_rfl) (by simp) [.int .u8 ys[k].toNat] rfl (fun w h => ld_row h 3 rfl (k * 1) (u8_at1 hky))) ?_
    refine wpr_run (l₂ := [6]) true [4, 5] [] ([(31, Value.pointer (some { block := w1, off := o1 + k * 1 })), (30, Value.int IntKind.u8 (IntKind.u8.wrap (↑(BitVec.ofInt IntKind.u8.bits (↑ys[k].toNat : Int) ^^^ BitVec.ofInt IntKind.u8.bits 255).toNat : Int))), (6, Value.int IntKind.i64 (↑k : Int)), (5, Value.slice (some { block := w1, off := o1 }) xs.length c1), (4, Value.string (mkS xs)), (3, Value.pointer (some { block := d, off := 0 })), (2, Value.bool false)]) [Ch.blk d 46 [Value.bool true, Value.slice a2 xs.length c2, Value.int IntKind.i64 0], row 5 1 a2 xs.length c2 (u8s xs), ro a (u8s xs), row 5 1 (some { block := w1, off := o1 }) xs.length c1 (u8s ys)] [0 ≤ (↑k : Int) ∧ (↑k : Int) < (↑xs.length : Int)] (by kernel_rfl) (by kernel_rfl) ⟨by omega, trivial⟩ ?_
    refine wpr_ent (ent_set 30 (Value.int IntKind.u8 (IntKind.u8.wrap (↑(BitVec.ofInt IntKind.u8.bits (↑ys[k].toNat : Int) ^^^ BitVec.ofInt IntKind.u8.bits 255).toNat : Int))) (Value.int .u8 (ys[k] ^^^ 255).toNat) (by kernel_rfl) (congrArg _ (xor_u8 ys[k] 255))) ?_
    refine wpr_eq (stq' (t := 5) (g := w1) (off := o1) (q := (k * 1)) (v := (Value.int IntKind.u8 (↑(ys[k] ^^^ 255).toNat : Int))) (dst := none) (by kernel_rfl) 3 (T := 5) (sz := 1) (n := xs.length) (cap := c1) (xs := (u8s ys)) (by kernel_rfl) [.int .u8 (ys[k] ^^^ 255).toNat] (by kernel_rfl) (by kernel_rfl) (by simp [Go.Sx.One, Value.oneCell']) (by rw [u8s_len]; show k * 1 + 1 ≤ _; omega) (xs' := (u8s (ys.set k (ys[k] ^^^ 255)))) (u8_set1 hky _)) ?_
    refine wpr_nil ?_
    refine nx_block ?_
    refine nx_then ?_
    refine wpc_region [0, 1, 2] (by kernel_rfl) ?_
    refine wpr_run (l₂ := []) true [0, 1, 2] [] ([(6, Value.int IntKind.i64 ((↑k : Int) + 1)), (5, Value.slice (some { block := w1, off := o1 }) xs.length c1), (4, Value.string (mkS xs)), (3, Value.pointer (some { block := d, off := 0 })), (2, Value.bool false)]) [Ch.blk d 46 [Value.bool true, Value.slice a2 xs.length c2, Value.int IntKind.i64 0], row 5 1 a2 xs.length c2 (u8s xs), ro a (u8s xs), row 5 1 (some { block := w1, off := o1 }) xs.length c1 (u8s (ys.set k (ys[k] ^^^ 255)))] ([inI64 ((↑k : Int) + 1)]) (by kernel_rfl) (by kernel_rfl) ⟨by unfold inI64; omega, trivial⟩ ?_
    refine wpr_nil ?_
    exact fun a w hS => ⟨⟨(k + 1, ys.set k (ys[k] ^^^ 255)), by dsimp only; omega, by simpa using hy⟩, by dsimp only; omega, ent_fr (by kernel_rfl) a w hS⟩
  refine wpc_exit ?_
  refine nx_then_exit ?_
  refine nx_then_exit ?_
  refine nx_block_here ?_
  refine nx_then ?_
  refine wpc_seq ?_
  refine wpc_region [0, 1, 2] (by kernel_rfl) ?_
  refine wpr_run (l₂ := [1, 2]) true [0] [] [(32, Value.pointer (some { block := d, off := 0 })), (4, Value.string (mkS xs)), (3, Value.pointer (some { block := d, off := 0 })), (2, Value.bool false)] [Ch.blk d 46 [Value.bool true, Value.slice a2 xs.length c2, Value.int IntKind.i64 0], row 5 1 a2 xs.length c2 (u8s xs), ro a (u8s xs), row 5 1 a1 xs.length c1 (u8s ys)] [] (by kernel_rfl) (by kernel_rfl) trivial ?_
  refine wpr_call (dst := some 33) (rest := [ro a (u8s xs), row 5 1 a1 xs.length c1 (u8s ys)]) (by kernel_rfl) (Bytes_spec d a2 c2 0 xs (by omega)) (give [0, 0] (by kernel_rfl)) ?_
  rintro v hp' ⟨a3, c3, rfl, rfl⟩
  refine wpr_run (l₂ := []) true [2] [] [(7, Value.slice a3 xs.length c3), (4, Value.string (mkS xs)), (3, Value.pointer (some { block := d, off := 0 })), (2, Value.bool false)] [Ch.blk d 46 [Value.bool true, Value.slice a2 xs.length c2, Value.int IntKind.i64 0], row 5 1 a2 xs.length c2 (u8s xs), row 5 1 a3 xs.length c3 (u8s xs), ro a (u8s xs), row 5 1 a1 xs.length c1 (u8s ys)] [] (by kernel_rfl) (by kernel_rfl) trivial ?_
  refine wpr_nil ?_
  refine nx_then ?_
  refine wpc_seq ?_
  refine wpc_seq ?_
  refine wpc_region [0, 1, 2, 3] (by kernel_rfl) ?_
  refine wpr_run (l₂ := [1, 2, 3]) true [0] [] [(34, Value.slice a3 xs.length c3), (7, Value.slice a3 xs.length c3), (4, Value.string (mkS xs)), (3, Value.pointer (some { block := d, off := 0 })), (2, Value.bool false)] [Ch.blk d 46 [Value.bool true, Value.slice a2 xs.length c2, Value.int IntKind.i64 0], row 5 1 a2 xs.length c2 (u8s xs), row 5 1 a3 xs.length c3 (u8s xs), ro a (u8s xs), row 5 1 a1 xs.length c1 (u8s ys)] [] (by kernel_rfl) (by kernel_rfl) trivial ?_
  refine wpr_eq (b2s (a := 22) (b := 9) (ad := a3) (n := xs.length) (c := c3) (dst := some 35) (by kernel_rfl) (by kernel_rfl) xs (by first | rfl | simp) (fun w h => b2s_row h 2 rfl)) ?_
  refine wpr_run (l₂ := []) true [2, 3] [] [(37, Value.bool !decide (xs = xs)), (7, Value.slice a3 xs.length c3), (4, Value.string (mkS xs)), (3, Value.pointer (some { block := d, off := 0 })), (2, Value.bool false)] [Ch.blk d 46 [Value.bool true, Value.slice a2 xs.length c2, Value.int IntKind.i64 0], row 5 1 a2 xs.length c2 (u8s xs), row 5 1 a3 xs.length c3 (u8s xs), ro a (u8s xs), row 5 1 a1 xs.length c1 (u8s ys)] [] (by kernel_rfl) (by kernel_rfl) trivial ?_
  refine wpr_nil ?_
  refine nx_then ?_
  refine wpc_ent (ent_set 37 (Value.bool !decide (xs = xs)) (Value.bool false) (by kernel_rfl) (congrArg _ (by simp))) ?_
  refine wpc_false (by kernel_rfl) ?_
  refine wpc_skip ?_
  refine nx_then ?_
  refine wpc_seq ?_
  refine wpc_seq ?_
  refine wpc_region [0] (by kernel_rfl) ?_
  refine wpr_run (l₂ := []) true [0] [] [(8, Value.int IntKind.i64 0), (7, Value.slice a3 xs.length c3), (4, Value.string (mkS xs)), (3, Value.pointer (some { block := d, off := 0 })), (2, Value.bool false)] [Ch.blk d 46 [Value.bool true, Value.slice a2 xs.length c2, Value.int IntKind.i64 0], row 5 1 a2 xs.length c2 (u8s xs), row 5 1 a3 xs.length c3 (u8s xs), ro a (u8s xs), row 5 1 a1 xs.length c1 (u8s ys)] [] (by kernel_rfl) (by kernel_rfl) trivial ?_
  refine wpr_nil ?_
  refine nx_then ?_
  refine wpc_block ?_
  refine wpc_loop (X := {p : Nat × List UInt8 // p.1 ≤ xs.length ∧ p.2.length = xs.length}) (fun x => St.mk [(8, .int .i64 (x.1.1 : Int)), (7, .slice a3 xs.length c3), (4, .string (mkS xs)), (3, .pointer (some ⟨d, 0, none⟩)), (2, .bool false)]
    [dblk d a2 xs.length c2 0, row 5 1 a2 xs.length c2 (u8s xs), row 5 1 a3 xs.length c3 (u8s x.1.2), ro a (u8s xs), row 5 1 a1 xs.length c1 (u8s ys)]) (fun x => xs.length - x.1.1) ⟨(0, xs), Nat.zero_le _, rfl⟩ (ent_fr (by kernel_rfl)) ?_
  rintro ⟨⟨k2, zs⟩, hk2, hy2⟩
  dsimp only at hk2 hy2 ⊢
  refine wpc_seq ?_
  refine wpc_seq ?_
  refine wpc_region [0, 1, 2, 3] (by kernel_rfl) ?_
  refine wpr_run (l₂ := []) true [0, 1, 2, 3] [] [(41, Value.bool (decide ((↑k2 : Int) < (↑xs.length : Int)))), (8, Value.int IntKind.i64 (↑k2 : Int)), (7, Value.slice a3 xs.length c3), (4, Value.string (mkS xs)), (3, Value.pointer (some { block := d, off := 0 })), (2, Value.bool false)] [Ch.blk d 46 [Value.bool true, Value.slice a2 xs.length c2, Value.int IntKind.i64 0], row 5 1 a2 xs.length c2 (u8s xs), row 5 1 a3 xs.length c3 (u8s zs), ro a (u8s xs), row 5 1 a1 xs.length c1 (u8s ys)] [] (by kernel_rfl) (by kernel_rfl) trivial ?_
  refine wpr_nil ?_
  refine nx_then ?_
  refine wpc_if (((↑k2 : Int) < (↑xs.length : Int))) (by kernel_rfl) (fun hlt => ?_) (fun hlt => ?_)
  · have hkz : k2 < zs.length := by omega
    refine wpc_fact (fun w h => row_addr h 2 rfl (by omega)) ?_
    rintro ⟨w1, o1, rfl⟩
    refine wpc_skip ?_
    refine nx_then ?_
    refine wpc_seq ?_
    refine wpc_block ?_
    refine wpc_region [0, 1, 2, 3, 4, 5, 6] (by kernel_rfl) ?_
    refine wpr_run (l₂ := [3, 4, 5, 6]) true [0, 1, 2] [] ([(46, Value.pointer (some { block := w1, off := o1 + k2 * 1 })), (45, Value.int IntKind.i64 (↑k2 : Int)), (44, Value.slice (some { block := w1, off := o1 }) xs.length c3), (8, Value.int IntKind.i64 (↑k2 : Int)), (7, Value.slice (some { block := w1, off := o1 }) xs.length c3), (4, Value.string (mkS xs)), (3, Value.pointer (some { block := d, off := 0 })), (2, Value.bool false)]) [Ch.blk d 46 [Value.bool true, Value.slice a2 xs.length c2, Value.int IntKind.i64 0], row 5 1 a2 xs.length c2 (u8s xs), row 5 1 (some { block := w1, off := o1 }) xs.length c3 (u8s zs), ro a (u8s xs), row 5 1 a1 xs.length c1 (u8s ys)] [0 ≤ (↑k2 : Int) ∧ (↑k2 : Int) < (↑xs.length : Int)] (by kernel_rfl) (by kernel_rfl) ⟨by omega, trivial⟩ ?_
    refine wpr_eq (ld (t := 5) (a := ({ block := w1, off := o1 + k2 * 1 })) (dst := some 47) (by kernel_rfl) false 1 (by kernel_rfl) (by simp) [.int .u8 zs[k2].toNat] rfl (fun w h => ld_row h 2 rfl (k2 * 1) (u8_at1 hkz))) ?_
    refine wpr_run (l₂ := [6]) true [4, 5] [] ([(49, Value.pointer (some { block := w1, off := o1 + k2 * 1 })), (48, Value.int IntKind.u8 (IntKind.u8.wrap (↑(BitVec.ofInt IntKind.u8.bits (↑zs[k2].toNat : Int) ^^^ BitVec.ofInt IntKind.u8.bits 255).toNat : Int))), (8, Value.int IntKind.i64 (↑k2 : Int)), (7, Value.slice (some { block := w1, off := o1 }) xs.length c3), (4, Value.string (mkS xs)), (3, Value.pointer (some { block := d, off := 0 })), (2, Value.bool false)]) [Ch.blk d 46 [Value.bool true, Value.slice a2 xs.length c2, Value.int IntKind.i64 0], row 5 1 a2 xs.length c2 (u8s xs), row 5 1 (some { block := w1, off := o1 }) xs.length c3 (u8s zs), ro a (u8s xs), row 5 1 a1 xs.length c1 (u8s ys)] [0 ≤ (↑k2 : Int) ∧ (↑k2 : Int) < (↑xs.length : Int)] (by kernel_rfl) (by kernel_rfl) ⟨by omega, trivial⟩ ?_
    refine wpr_ent (ent_set 48 (Value.int IntKind.u8 (IntKind.u8.wrap (↑(BitVec.ofInt IntKind.u8.bits (↑zs[k2].toNat : Int) ^^^ BitVec.ofInt IntKind.u8.bits 255).toNat : Int))) (Value.int .u8 (zs[k2] ^^^ 255).toNat) (by kernel_rfl) (congrArg _ (xor_u8 zs[k2] 255))) ?_
    refine wpr_eq (stq' (t := 5) (g := w1) (off := o1) (q := (k2 * 1)) (v := (Value.int IntKind.u8 (↑(zs[k2] ^^^ 255).toNat : Int))) (dst := none) (by kernel_rfl) 2 (T := 5) (sz := 1) (n := xs.length) (cap := c3) (xs := (u8s zs)) (by kernel_rfl) [.int .u8 (zs[k2] ^^^ 255).toNat] (by kernel_rfl) (by kernel_rfl) (by simp [Go.Sx.One, Value.oneCell']) (by rw [u8s_len]; show k2 * 1 + 1 ≤ _; omega) (xs' := (u8s (zs.set k2 (zs[k2] ^^^ 255)))) (u8_set1 hkz _)) ?_
    refine wpr_nil ?_
    refine nx_block ?_
    refine nx_then ?_
    refine wpc_region [0, 1, 2] (by kernel_rfl) ?_
    refine wpr_run (l₂ := []) true [0, 1, 2] [] ([(8, Value.int IntKind.i64 ((↑k2 : Int) + 1)), (7, Value.slice (some { block := w1, off := o1 }) xs.length c3), (4, Value.string (mkS xs)), (3, Value.pointer (some { block := d, off := 0 })), (2, Value.bool false)]) [Ch.blk d 46 [Value.bool true, Value.slice a2 xs.length c2, Value.int IntKind.i64 0], row 5 1 a2 xs.length c2 (u8s xs), row 5 1 (some { block := w1, off := o1 }) xs.length c3 (u8s (zs.set k2 (zs[k2] ^^^ 255))), ro a (u8s xs), row 5 1 a1 xs.length c1 (u8s ys)] ([inI64 ((↑k2 : Int) + 1)]) (by kernel_rfl) (by kernel_rfl) ⟨by unfold inI64; omega, trivial⟩ ?_
    refine wpr_nil ?_
    exact fun a w hS => ⟨⟨(k2 + 1, zs.set k2 (zs[k2] ^^^ 255)), by dsimp only; omega, by simpa using hy2⟩, by dsimp only; omega, ent_fr (by kernel_rfl) a w hS⟩
  refine wpc_exit ?_
  refine nx_then_exit ?_
  refine nx_then_exit ?_
  refine nx_block_here ?_
  refine nx_then ?_
  refine wpc_seq ?_
  refine wpc_region [0, 1, 2, 3, 4, 5, 6, 7, 8] (by kernel_rfl) ?_
  refine wpr_run (l₂ := [1, 2, 3, 4, 5, 6, 7, 8]) true [0] [] [(50, Value.pointer (some { block := d, off := 0 })), (4, Value.string (mkS xs)), (2, Value.bool false)] [Ch.blk d 46 [Value.bool true, Value.slice a2 xs.length c2, Value.int IntKind.i64 0], row 5 1 a2 xs.length c2 (u8s xs), row 5 1 a3 xs.length c3 (u8s zs), ro a (u8s xs), row 5 1 a1 xs.length c1 (u8s ys)] [] (by kernel_rfl) (by kernel_rfl) trivial ?_
  refine wpr_call (dst := some 51) (rest := [row 5 1 a3 xs.length c3 (u8s zs), ro a (u8s xs), row 5 1 a1 xs.length c1 (u8s ys)]) (by kernel_rfl) (Bytes_spec d a2 c2 0 xs (by omega)) (give [0, 0] (by kernel_rfl)) ?_
  rintro v hp' ⟨a4, c4, rfl, rfl⟩
  refine wpr_eq (b2s (a := 22) (b := 9) (ad := a4) (n := xs.length) (c := c4) (dst := some 52) (by kernel_rfl) (by kernel_rfl) xs (by first | rfl | simp) (fun w h => b2s_row h 2 rfl)) ?_
  refine wpr_run (l₂ := [6, 7, 8]) true [3, 4, 5] [] [(55, Value.bool (decide (xs = xs))), (2, Value.bool false)] [Ch.blk d 46 [Value.bool true, Value.slice a2 xs.length c2, Value.int IntKind.i64 0], row 5 1 a2 xs.length c2 (u8s xs), row 5 1 a4 xs.length c4 (u8s xs), row 5 1 a3 xs.length c3 (u8s zs), ro a (u8s xs), row 5 1 a1 xs.length c1 (u8s ys)] [] (by kernel_rfl) (by kernel_rfl) trivial ?_
  refine wpr_ent (ent_set 55 (Value.bool (decide (xs = xs))) (Value.bool true) (by kernel_rfl) (congrArg _ (by simp))) ?_
  refine wpr_call (dst := some 56) (rest := [Ch.blk d 46 [Value.bool true, Value.slice a2 xs.length c2, Value.int IntKind.i64 0], row 5 1 a2 xs.length c2 (u8s xs), row 5 1 a4 xs.length c4 (u8s xs), row 5 1 a3 xs.length c3 (u8s zs), ro a (u8s xs), row 5 1 a1 xs.length c1 (u8s ys)]) (by kernel_rfl) (lives_spec) (give [] (by kernel_rfl)) ?_
  rintro v hp' ⟨rfl, rfl⟩
  refine wpr_run (l₂ := []) true [7, 8] [] [(2, Value.bool true)] [Ch.blk d 46 [Value.bool true, Value.slice a2 xs.length c2, Value.int IntKind.i64 0], row 5 1 a2 xs.length c2 (u8s xs), row 5 1 a4 xs.length c4 (u8s xs), row 5 1 a3 xs.length c3 (u8s zs), ro a (u8s xs), row 5 1 a1 xs.length c1 (u8s ys)] [] (by kernel_rfl) (by kernel_rfl) trivial ?_
  refine wpr_nil ?_
  refine nx_then ?_
  refine wpc_ret ?_
  refine nx_end (hp' := []) (rest := [Ch.blk d 46 [Value.bool true, Value.slice a2 xs.length c2, Value.int IntKind.i64 0], row 5 1 a2 xs.length c2 (u8s xs), row 5 1 a4 xs.length c4 (u8s xs), row 5 1 a3 xs.length c3 (u8s zs), ro a (u8s xs), row 5 1 a1 xs.length c1 (u8s ys)]) [] ((Value.bool true)) (by kernel_rfl) (by kernel_rfl) (give [] (by kernel_rfl)) (by first | ((repeat (first | exact trivial | refine ⟨trivial, ?_⟩)); done) | assumption) ?_ (.inr rfl)
  exact ⟨rfl, rfl⟩
end Go.Proofs.Ytolmjhhldbnkdaa
