import Derived.Test.YtpfhleghgkeemaaGreatDoorH19
import Derived.Test.YtpfhleghgkeemaaGreatDoorY3
import Derived.Test.YtpfhleghgkeemaaGreatDoorY2
namespace Go.Proofs.YtpfhleghgkeemaaGreatDoor
open Go Go.Sx
set_option linter.unusedVariables false
set_option linter.unusedSimpArgs false

theorem copyCheck_spec (g : Nat) (ad : Option Addr) (had : ad = none ∨ ad = some ⟨g, 0, none⟩) (s x : Value) : Does Tryz.prog 151 [.pointer (some ⟨g, 0, none⟩)] [.blk g 105 [.pointer ad, s, x]] (fun u hp' => u = .tuple #[] ∧ hp' = [.blk g 105 [.pointer (some ⟨g, 0, none⟩), s, x]]) := by
  rcases had with rfl | rfl
  · refine fn_enter Tryz.func151 rfl 20 rfl fun w0 h0 => ?_
    refine SQ (RG ?_)
    refine RR [0] .z (.i 6 (.bool true) .a) (.i (.blk g 105 [.pointer none, s, x]) .z) ?_
    refine RZ (NT (CT (RG ?_)))
    refine RR [0, 0, 0, 0, 0] .z .z (.i (.blk g 105 [.pointer (some ⟨g, 0, none⟩), s, x]) .z) ?_
    refine RZ ?_
    refine NE [0] (.i (.blk g 105 [.pointer (some ⟨g, 0, none⟩), s, x]) .z) .z [] (.tuple #[]) ?_
    exact ⟨rfl, rfl⟩
  · refine fn_enter Tryz.func151 rfl 20 rfl fun w0 h0 => ?_
    refine SQ (RG ?_)
    refine RR [0] .z (.i 6 (.bool false) .a) (.i (.blk g 105 [.pointer (some ⟨g, 0, none⟩), s, x]) .z) ?_
    refine RZ (NT (CF (SQ (RG ?_))))
    refine RR [0] (.d (.d (.d (.d (.d .a))))) (.i 18 (.pointer (some ⟨g, 0, none⟩)) (.i 17 (.pointer (some ⟨g, 0, none⟩)) .z)) (.i (.blk g 105 [.pointer (some ⟨g, 0, none⟩), s, x]) .z) ?_
    refine wpr_eq (step_eqp (b := false) (t := 101) (ad := ⟨g, 0, none⟩) (dst := some 19) (by kernel_rfl) (by kernel_rfl)) ?_
    refine RZ (NT (CF (SK ?_)))
    refine NE [0] (.i (.blk g 105 [.pointer (some ⟨g, 0, none⟩), s, x]) .z) .z [] (.tuple #[]) ?_
    exact ⟨rfl, rfl⟩
theorem u8s_cat (a b : List UInt8) : u8s a ++ u8s b = u8s (a ++ b) := by simp [u8s]
theorem WriteString_spec (g : Nat) (ad : Option Addr) (had : ad = none ∨ ad = some ⟨g, 0, none⟩) (a : Option Addr) (c : Nat) (bs : List UInt8) (x : Value) (t : List UInt8) (hb : bs.length ≤ 1099511627000) (ht : t.length ≤ 1099511627000) : Does Tryz.prog 129 [.pointer (some ⟨g, 0, none⟩), .string (mkS t)] [.blk g 105 [.pointer ad, .slice a bs.length c, x], row 5 1 a bs.length c (u8s bs)]
    (fun u hp' => ∃ a' c', u = .tuple #[.int .i64 t.length, .nilIface] ∧ hp' = [.blk g 105 [.pointer (some ⟨g, 0, none⟩), .slice a' (bs ++ t).length c', x], row 5 1 a' (bs ++ t).length c' (u8s (bs ++ t))]) := by
  have hcc := copyCheck_spec g ad had (.slice a bs.length c) x
  refine fn_enter Tryz.func129 rfl 19 rfl fun w0 h0 => ?_
  refine SQ (RG ?_)
  refine RR [] .z (.i 5 Value.nilIface (.i 4 (.int .i64 0) .a)) (.i (.blk g 105 [.pointer ad, .slice a bs.length c, x]) (.d (.k .a))) ?_
  refine RZ (NT (SQ (RG ?_)))
  refine RR [] (.d .a) (.i 6 (.pointer (some ⟨g, 0, none⟩)) .a) (.i (.blk g 105 [.pointer ad, .slice a bs.length c, x]) (.d (.k .a))) ?_
  refine RC (dst := some 7) [0] (.d (.k .a)) (hcc) ?_
  rintro v _ ⟨rfl, rfl⟩
  refine RZ (NT (SQ (RG ?_)))
  refine RR [0] (.d (.d (.d (.d (.d (.d .a)))))) (.i 13 (.string (mkS t)) (.i 12 (.slice a bs.length c) (.i 8 (.pointer (some ⟨g, 0, none⟩)) (.d (.d (.k (.k (.d (.k .a))))))))) (.i (.blk g 105 [.pointer (some ⟨g, 0, none⟩), .slice a bs.length c, x]) (.d (.k .a))) ?_
  refine wpr_app (a := a) (n := bs.length) (cap := c) (x := (.string (mkS t))) (t := 77) (xt := 9) (dst := some 14) (by kernel_rfl) (e := 5) (sz := 1) (bytes := 1) (by kernel_rfl) 1 (xs := (u8s bs)) (by kernel_rfl) (m := (t.length)) (news := (u8s t)) (fun w h => src_str (mkS t)) (by unfold maxLen; omega) (by omega) ?_
  intro a2 c2 hn
  rw [u8s_cat, ← List.length_append]
  refine RR [0] .z (.d (.d (.d (.d (.k .a))))) (.i (.blk g 105 [.pointer (some ⟨g, 0, none⟩), .slice a2 (bs ++ t).length c2, x]) (.d (.k .a))) ?_
  refine RZ (NT (SQ (RG ?_)))
  refine RR [] .z (.k (.i 4 (.int .i64 (↑t.length : Int)) .z)) (.i (.blk g 105 [.pointer (some ⟨g, 0, none⟩), .slice a2 (bs ++ t).length c2, x]) (.d (.k .a))) ?_
  refine RZ (NT (RE ?_))
  refine NE [0, 0] (.i (.blk g 105 [.pointer (some ⟨g, 0, none⟩), .slice a2 (bs ++ t).length c2, x]) (.d (.k .a))) .z [] (.tuple #[.int .i64 (↑t.length : Int), Value.nilIface]) ?_
  exact ⟨a2, c2, rfl, rfl⟩
theorem wr_put_spec (g : Nat) (ad : Option Addr) (had : ad = none ∨ ad = some ⟨g, 0, none⟩) (a : Option Addr) (c : Nat) (bs : List UInt8) (x : Value) (p : Option Addr) (pc : Nat) (ss : List (List UInt8)) (hb : bs.length ≤ 549755813888) (hs0 : ss ≠ []) (hsl : ss.length ≤ 1048576) (ht : ss.flatten.length ≤ 549755813000) : Does Tryz.prog 92 [.pointer (some ⟨g, 0, none⟩), .slice p ss.length pc] [.blk g 105 [.pointer ad, .slice a bs.length c, x], row 5 1 a bs.length c (u8s bs), ro p (ss.map strV)]
    (fun u hp' => ∃ a' c', u = .tuple #[] ∧ hp' = [.blk g 105 [.pointer (some ⟨g, 0, none⟩), .slice a' (bs ++ ss.flatten).length c', x], row 5 1 a' (bs ++ ss.flatten).length c' (u8s (bs ++ ss.flatten))]) := by
  refine fn_enter Tryz.func92 rfl 18 rfl fun w0 h0 => ?_
  refine SQ (RG ?_)
  refine RR [] .z (.i 8 (.int .i64 0) (.i 7 (.int .i64 (↑ss.length : Int)) (.i 6 (.slice p ss.length pc) (.k .z)))) (.i (.blk g 105 [.pointer ad, .slice a bs.length c, x]) (.d (.k .a))) ?_
  refine RZ (NT (BK ?_))
  refine wpc_loop (X := {y : Nat × Option Addr × Option Addr × Nat // y.1 ≤ ss.length ∧ (y.2.1 = none ∨ y.2.1 = some ⟨g, 0, none⟩) ∧ (0 < y.1 → y.2.1 = some ⟨g, 0, none⟩)}) (fun y => St.mk [(8, .int .i64 (y.1.1 : Int)), (7, .int .i64 ss.length), (6, .slice p ss.length pc), (0, .pointer (some ⟨g, 0, none⟩))]
    [.blk g 105 [.pointer y.1.2.1, .slice y.1.2.2.1 (bs ++ (ss.take y.1.1).flatten).length y.1.2.2.2, x], row 5 1 y.1.2.2.1 (bs ++ (ss.take y.1.1).flatten).length y.1.2.2.2 (u8s (bs ++ (ss.take y.1.1).flatten)), ro p (ss.map strV)]) (fun y => ss.length - y.1.1) ⟨(0, ad, a, c), Nat.zero_le _, had, fun h => absurd h (Nat.lt_irrefl _)⟩ ?_ ?_
  · show Ent _ _ (St.mk _ [.blk g 105 [.pointer ad, .slice a (bs ++ []).length c, x], row 5 1 a (bs ++ []).length c (u8s (bs ++ [])), ro p (ss.map strV)])
    rw [List.append_nil]
    exact ent_fr (by kernel_rfl)
  rintro ⟨⟨i, ad1, a1, c1⟩, hi, had1, hself⟩
  dsimp only at hi had1 hself ⊢
  have hle : (ss.take i).flatten.length ≤ ss.flatten.length := by
    conv => rhs; rw [← List.take_append_drop i ss]
    rw [List.flatten_append, List.length_append]; exact Nat.le_add_right _ _
  have hbl : (bs ++ (ss.take i).flatten).length = bs.length + (ss.take i).flatten.length := List.length_append
  by_cases hlt : i < ss.length
  · have hle2 : ss[i].length ≤ ss.flatten.length := by
      conv => rhs; rw [← List.take_append_drop i ss, ← List.getElem_cons_drop hlt]
      simp only [List.flatten_append, List.flatten_cons, List.length_append]; omega
    refine wpc_fact (fun w h => ro_addr h 2 rfl (by rw [List.length_map]; omega)) ?_
    rintro ⟨g0, o0, rfl⟩
    refine SQ (RG ?_)
    refine RR [] .z (.i 9 (.bool (decide ((↑i : Int) < (↑ss.length : Int)))) .a) (.i (.blk g 105 [.pointer ad1, .slice a1 (bs ++ (List.take i ss).flatten).length c1, x]) (.d (.k .a))) ?_
    refine RZ (NT (SQ ?_))
    refine SC 9 (decide ((↑i : Int) < (↑ss.length : Int))) true (decide_eq_true (by omega)) ?_
    refine CT (SK (NT (SQ (BK (SQ (RG ?_))))))
    refine RV true [] (.d .a) (.i 10 (.pointer (some ⟨g0, o0 + i * 1, none⟩)) (.d (.d (.k .a)))) (.i (.blk g 105 [.pointer ad1, .slice a1 (bs ++ (List.take i ss).flatten).length c1, x]) (.d (.k .a))) [(0 : Int) ≤ (↑i : Int) ∧ (↑i : Int) < (↑ss.length : Int)] ⟨by first | omega | decide | (simp; done), trivial⟩ ?_
    refine wpr_eq (ld (t := 9) (a := ⟨g0, o0 + i * 1, none⟩) (dst := some 11) (by kernel_rfl) false 1 (by kernel_rfl) (by simp) [.string (mkS ss[i])] rfl (fun w h => ld_ro h 2 rfl (i * 1) (map_at strV hlt))) ?_
    refine RR [] .z (.i 5 (.string (mkS ss[i])) (.d (.d (.k .a)))) (.i (.blk g 105 [.pointer ad1, .slice a1 (bs ++ (List.take i ss).flatten).length c1, x]) (.d (.k .a))) ?_
    refine RZ (NT (RG ?_))
    refine RR [] (.d (.d (.d (.d .a)))) (.i 15 (.string (mkS ss[i])) (.i 14 (.pointer (some ⟨g, 0, none⟩)) (.d (.k .a)))) (.i (.blk g 105 [.pointer ad1, .slice a1 (bs ++ (List.take i ss).flatten).length c1, x]) (.d (.k .a))) ?_
    refine RC (dst := some 16) [0, 0] (.d (.d (.k .a))) (WriteString_spec g ad1 had1 a1 c1 (bs ++ (ss.take i).flatten) x ss[i] (by omega) (by omega)) ?_
    rintro v _ ⟨a2, c2, rfl, rfl⟩
    rw [show bs ++ (ss.take i).flatten ++ ss[i] = bs ++ (ss.take (i + 1)).flatten by rw [← List.take_append_getElem hlt, List.flatten_append]; simp]
    refine RZ (BN (NT (RG ?_)))
    refine RV true [] .z (.i 8 (.int .i64 ((↑i : Int) + 1)) (.d (.d (.d (.d (.k .a)))))) (.i (.blk g 105 [.pointer (some ⟨g, 0, none⟩), .slice a2 (bs ++ (List.take (i + 1) ss).flatten).length c2, x]) (.d (.k .a))) ([inI64 ((↑i : Int) + (1 : Int))]) ⟨by unfold inI64; omega, trivial⟩ ?_
    refine RZ ?_
    exact fun a' w' hS' => ⟨⟨(i + 1, some ⟨g, 0, none⟩, a2, c2), hlt, .inr rfl, fun _ => rfl⟩, by dsimp only; omega, ent_fr (by kernel_rfl) _ _ (ent_hp [0, 0, 0] rfl _ _ hS')⟩
  · obtain rfl : i = ss.length := by omega
    rw [List.take_length]
    obtain rfl := hself (List.length_pos_iff.2 hs0)
    refine SQ (RG ?_)
    refine RR [] .z (.i 9 (.bool (decide ((↑ss.length : Int) < (↑ss.length : Int)))) .a) (.i (.blk g 105 [.pointer (some ⟨g, 0, none⟩), .slice a1 (bs ++ ss.flatten).length c1, x]) (.d (.k .a))) ?_
    refine RZ (NT (SQ ?_))
    refine SC 9 (decide ((↑ss.length : Int) < (↑ss.length : Int))) false (by simp) ?_
    refine CF (EX (TE (TE (BH ?_))))
    refine NE [0, 0] (.i (.blk g 105 [.pointer (some ⟨g, 0, none⟩), .slice a1 (bs ++ ss.flatten).length c1, x]) (.d (.k .z))) (.d (.d (.k .a))) [] (.tuple #[]) ?_
    exact ⟨a1, c1, rfl, rfl⟩
end Go.Proofs.YtpfhleghgkeemaaGreatDoor
