import Derived.Test.YtpfhleghgkeemaaGreatDoorH20
import Derived.Test.YtpfhleghgkeemaaGreatDoorH18
import Derived.Test.YtpfhleghgkeemaaGreatDoorY2
namespace Go.Proofs.YtpfhleghgkeemaaGreatDoor
open Go Go.Sx
set_option linter.unusedVariables false
set_option linter.unusedSimpArgs false

theorem BString_spec (g : Nat) (y : Value) (a : Option Addr) (c : Nat) (bs : List UInt8) (x : Value) (hb : bs ≠ []) : Does Tryz.prog 55 [.pointer (some ⟨g, 0, none⟩)] [.blk g 105 [y, .slice a bs.length c, x], row 5 1 a bs.length c (u8s bs)]
    (fun u hp' => u = .string (mkS bs) ∧ hp' = [.blk g 105 [y, .slice a bs.length c, x]]) := by
  have hpos : 0 < bs.length := List.length_pos_iff.2 hb
  refine fn_enter Tryz.func55 rfl 14 rfl fun w0 h0 => ?_
  refine SQ (RG ?_)
  refine RR [] .z (.i 2 (.string ⟨#[]⟩) .a) (.i (.blk g 105 [y, .slice a bs.length c, x]) (.d (.k .a))) ?_
  refine RZ (NT (SQ ?_))
  refine wpc_fact (fun w h => row_addr h 1 rfl hpos) ?_
  rintro ⟨ga, oa, rfl⟩
  refine wpc_fact (fun w h => row_cap h 1 rfl) fun hcap => ?_
  have hc1 := hcap.1
  refine wpc_draw (by kernel_rfl) [.blk g 105 [y, .slice (some ⟨ga, oa, none⟩) bs.length c, x]] (sub_of [0] (by kernel_rfl)) 12 (by kernel_rfl) ?_
  refine TK 3 [(0, []), (1, []), (2, []), (3, [0]), (5, []), (6, []), (7, []), (8, [0]), (9, [])] (.i 12 (.int .i64 (↑bs.length : Int)) (.i 6 (.slice (some ⟨ga, oa, none⟩) bs.length c) (.k .z))) (#[true, true, true, true, false, true, true, true, true, true, false, false]) ?_
  refine wpa_eq (i := 4) (n := 2) (by kernel_rfl) (step_usd (ad := ⟨ga, oa, none⟩) (n := bs.length) (c := c) (dst := some 7) (by kernel_rfl) (by omega)) (sub_of [0] (by kernel_rfl)) ?_
  refine wpa_eq (i := 10) (n := 1) (by kernel_rfl) (step_ustr (g := ga) (off := oa) (t := 152) (bs := bs) (dst := some 13) (by kernel_rfl) 1 (T := 5) (cap := c) rfl (by kernel_rfl) hb) (sub_of [0] (by kernel_rfl)) ?_
  refine TK 0 [(11, [])] (.i 2 (.string (mkS bs)) .z) (#[true, true, true, true, true, true, true, true, true, true, true, true]) ?_
  refine wpa_done 0 (by kernel_rfl) ?_
  refine NT (RE ?_)
  refine NE [0] (.i (.blk g 105 [y, .slice (some ⟨ga, oa, none⟩) bs.length c, x]) .z) .z [] (.string (mkS bs)) ?_
  exact ⟨rfl, rfl⟩
/-! What a value is like, plain. -/
def sepP (f : V → List UInt8) (cs : List V) (i : Nat) : List UInt8 := ((List.range i).map fun j => (if j = 0 then [] else [44, 32]) ++ f (cs.getD j noV)).flatten
def cellsT (f : V → List UInt8) (cs : List V) : List UInt8 := if 8 < cs.length then sepP f cs 8 ++ [44, 32, 46, 46, 46] else sepP f cs cs.length
def objT (f : V → List UInt8) (o : O) : List UInt8 := if o.1 = [] then [91] ++ cellsT f o.2 ++ [93] else o.1 ++ [40] ++ cellsT f o.2 ++ [41]
def txt (l : List O) : Nat → V → List UInt8
  | d, v => if v.k = 0 then [110, 111, 110, 101] else if v.k = 1 then Lib.itoa v.n else if v.k = 2 then (if v.n = 1 then [116, 114, 117, 101] else [102, 97, 108, 115, 101]) else if v.k = 3 then quoL v.s else match d with
    | 0 => [46, 46, 46]
    | d + 1 => objT (txt l d) (objAt l v)
theorem sepP_succ (f : V → List UInt8) (cs : List V) (i : Nat) (hi : i < cs.length) : sepP f cs (i + 1) = sepP f cs i ++ (if i = 0 then [] else [44, 32]) ++ f cs[i] := by
  unfold sepP
  rw [List.range_succ, List.map_append, List.flatten_append, List.map_singleton, List.flatten_singleton, val_at hi, List.append_assoc]
def V.i64 (v : V) : Prop := -9223372036854775808 ≤ v.n ∧ v.n ≤ 9223372036854775807
/-- A value as it may be shown. -/
def showV (m : Nat) (v : V) : Prop := v.sm ∧ v.i64 ∧ rightB v m = true
def okHeap (L : List O) : Prop := ∀ o ∈ L, o.1.length ≤ 1048576 ∧ o.2.length ≤ 1048576 ∧ ∀ v ∈ o.2, showV L.length v
def tB : Nat → Nat | 0 => 1100 | d + 1 => 1048600 + 9 * (tB d + 2)
theorem sepP_len {f : V → List UInt8} {cs : List V} {B : Nat} (hf : ∀ v ∈ cs, (f v).length ≤ B) : ∀ i, i ≤ cs.length → (sepP f cs i).length ≤ i * (B + 2)
  | 0, _ => Nat.zero_le _
  | i + 1, hi => by
    rw [sepP_succ f cs i hi, List.length_append, List.length_append]
    have h1 := sepP_len hf i (by omega)
    have h2 := hf cs[i] (List.getElem_mem hi)
    have h3 : (if i = 0 then ([] : List UInt8) else [44, 32]).length ≤ 2 := by split <;> simp
    rw [Nat.succ_mul]; omega
theorem cellsT_len {f : V → List UInt8} {cs : List V} {B : Nat} (hf : ∀ v ∈ cs, (f v).length ≤ B) : (cellsT f cs).length ≤ 8 * (B + 2) + 5 := by
  unfold cellsT
  split
  · rename_i h
    have := sepP_len hf 8 (by omega)
    rw [List.length_append]; simp only [List.length_cons, List.length_nil]; omega
  · have h1 := sepP_len hf cs.length (Nat.le_refl _)
    have h2 : cs.length * (B + 2) ≤ 8 * (B + 2) := Nat.mul_le_mul_right _ (by omega)
    omega
theorem itoa_len {n : Int} (h : -9223372036854775808 ≤ n ∧ n ≤ 9223372036854775807) : (Lib.itoa n).length ≤ 20 := by
  unfold Lib.itoa
  split
  · have := dec_len n.natAbs 19 (by omega)
    simp only [List.length_cons]; omega
  · have := dec_len n.toNat 19 (by omega)
    omega
theorem right_plain {v : V} {m : Nat} (h : rightB v m = true) (hk : v.k = 3) : plainB v.s = true := by
  unfold rightB at h
  rw [if_neg (by omega), if_neg (by omega), if_neg (by omega), if_pos hk] at h
  simp only [Bool.and_eq_true] at h
  exact h.2
theorem quo_len {s : List UInt8} (h : plainB s = true) : (quoL s).length ≤ 512 := by
  unfold plainB at h
  simp only [Bool.and_eq_true, decide_eq_true_eq] at h
  have h1 := escL_len s
  have h2 : spN s ≤ s.length := List.countP_le_length
  unfold quoL
  simp only [List.length_append, List.length_singleton]; omega
theorem right_kind {v : V} {m : Nat} (h : rightB v m = true) : v.k = 0 ∨ v.k = 1 ∨ v.k = 2 ∨ v.k = 3 ∨ v.k = 4 := by
  unfold rightB at h
  by_cases h0 : v.k = 0
  · exact .inl h0
  by_cases h1 : v.k = 1
  · exact .inr (.inl h1)
  by_cases h2 : v.k = 2
  · exact .inr (.inr (.inl h2))
  by_cases h3 : v.k = 3
  · exact .inr (.inr (.inr (.inl h3)))
  by_cases h4 : v.k = 4
  · exact .inr (.inr (.inr (.inr h4)))
  rw [if_neg h0, if_neg h1, if_neg h2, if_neg h3, if_neg h4] at h; cases h
theorem right_ref {v : V} {m : Nat} (h : rightB v m = true) (hk : v.k = 4) : 0 ≤ v.n ∧ v.n < m := by
  have : refB v m = true := by unfold refB; rw [h, decide_eq_true hk]; rfl
  exact (refB_lt this).2.2
theorem objAt_mem {L : List O} {v : V} (h : v.n.toNat < L.length) : objAt L v ∈ L := by
  unfold objAt
  rw [List.getD_eq_getElem?_getD, List.getElem?_eq_getElem h]
  exact List.getElem_mem h
theorem objT_len {L : List O} {f : V → List UInt8} {B : Nat} {o : O} (ho : o.1.length ≤ 1048576) (hf : ∀ v ∈ o.2, (f v).length ≤ B) : (objT f o).length ≤ 1048600 + 9 * (B + 2) := by
  have h1 := cellsT_len hf
  unfold objT
  split
  · simp only [List.length_append, List.length_singleton]; omega
  · simp only [List.length_append, List.length_singleton]; omega
theorem txt_len {L : List O} (hL : okHeap L) : ∀ (d : Nat) (v : V), showV L.length v → (txt L d v).length ≤ tB d := by
  intro d
  induction d with
  | zero =>
    rintro v ⟨h1, h2, h3⟩
    unfold txt
    split
    · simp [tB]
    split
    · have := itoa_len h2; simp only [tB]; omega
    split
    · split <;> simp [tB]
    split
    · rename_i hk
      have := quo_len (right_plain h3 hk); simp only [tB]; omega
    · simp [tB]
  | succ d ih =>
    rintro v ⟨h1, h2, h3⟩
    unfold txt
    split
    · simp only [tB, List.length_cons, List.length_nil]; omega
    split
    · have := itoa_len h2; simp only [tB]; omega
    split
    · split <;> (simp only [tB, List.length_cons, List.length_nil]; omega)
    split
    · rename_i hk
      have := quo_len (right_plain h3 hk); simp only [tB]; omega
    · rename_i k0 k1 k2 k3
      have hk : v.k = 4 := by rcases right_kind h3 with h | h | h | h | h <;> first | exact h | exact absurd h (by assumption)
      have hr := right_ref h3 hk
      have hm := objAt_mem (L := L) (v := v) (by omega)
      obtain ⟨g1, g2, g3⟩ := hL _ hm
      exact objT_len (L := L) g1 fun u hu => ih u (g3 u hu)
end Go.Proofs.YtpfhleghgkeemaaGreatDoor
