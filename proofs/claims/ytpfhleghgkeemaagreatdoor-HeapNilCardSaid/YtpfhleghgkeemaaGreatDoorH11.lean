import Derived.Test.YtpfhleghgkeemaaGreatDoorH10
import Derived.Test.YtpfhleghgkeemaaGreatDoorY2
namespace Go.Proofs.YtpfhleghgkeemaaGreatDoor
open Go Go.Sx
set_option linter.unusedVariables false
set_option linter.unusedSimpArgs false

def V.sm (v : V) : Prop := v.s.length ≤ 1048576
def smL (l : List V) : Prop := ∀ v ∈ l, v.sm
/-- May a value be in a cell? -/
def cellB (m : Int) (v : V) : Bool := !decide (v.k = 0) && rightB v m
def objB (m : Int) (tag : List UInt8) (l : List V) : Bool := (decide (tag = []) || nameB tag) && l.all (cellB m)
theorem fit1_spec (v : V) (m : Int) (g : Nat) (hv : v.sm) : Does Tryz.prog 91 [valV v, .pointer (some ⟨g, 0, none⟩)] [ro (some ⟨g, 0, none⟩) [.int .i64 m]] (fun u hp' => u = .bool (!cellB m v) ∧ hp' = []) := by
  by_cases hk : v.k = 0
  · have hc : cellB m v = false := by simp [cellB, hk]
    rw [hc]
    unfold valV
    rw [hk]
    refine fn_enter Tryz.func91 rfl 13 rfl fun w0 h0 => ?_
    refine SQ (RG ?_)
    refine RP [] (.d .a) 2 (.d (.k .a)) .a 28 [.int .i64 0, .int .i64 v.n, .string (mkS v.s)] fun g1 => ?_
    refine RR [] .z (.i 3 (.bool false) .a) (.k (.i (.blk g1 28 [.int .i64 0, .int .i64 v.n, .string (mkS v.s)]) .z)) ?_
    refine RZ (NT (SQ (RG ?_)))
    refine RR [1] .z (.i 3 (.bool true) .z) (.k (.i (.blk g1 28 [.int .i64 0, .int .i64 v.n, .string (mkS v.s)]) .z)) ?_
    refine RZ (NT (RE ?_))
    refine NE [] .z (.k (.i (.blk g1 28 [.int .i64 0, .int .i64 v.n, .string (mkS v.s)]) .z)) [] (.bool true) ?_
    exact ⟨rfl, rfl⟩
  · have hc : cellB m v = rightB v m := by simp [cellB, hk]
    rw [hc]
    have hv2 := hv
    unfold V.sm at hv2
    have hck := Check_spec v m hv2
    unfold valV at hck ⊢
    refine fn_enter Tryz.func91 rfl 13 rfl fun w0 h0 => ?_
    refine SQ (RG ?_)
    refine RP [] (.d .a) 2 (.d (.k .a)) .a 28 [.int .i64 v.k, .int .i64 v.n, .string (mkS v.s)] fun g1 => ?_
    refine RR [] .z (.i 3 (.bool false) .a) (.k (.i (.blk g1 28 [.int .i64 v.k, .int .i64 v.n, .string (mkS v.s)]) .z)) ?_
    refine RZ (NT (SQ (RG ?_)))
    refine RR [1] (.d (.d (.d (.d .a)))) (.i 7 (.bool (v.k == 0)) .a) (.k (.i (.blk g1 28 [.int .i64 v.k, .int .i64 v.n, .string (mkS v.s)]) .z)) ?_
    refine SR 7 (v.k == 0) false (by simp only [bne_eq_false_iff_eq, beq_eq_false_iff_ne, ne_eq]; omega) ?_
    refine RR [1, 1, 1] (.d .a) (.i 8 (.agg #[.int .i64 v.k, .int .i64 v.n, .string (mkS v.s)]) (.k (.d (.k (.d (.k .a)))))) (.k (.i (.blk g1 28 [.int .i64 v.k, .int .i64 v.n, .string (mkS v.s)]) .z)) ?_
    refine wpr_eq (ld (t := 3) (a := (⟨g, 0, none⟩)) (dst := some 9) (by kernel_rfl) false 1 (by kernel_rfl) (by simp) [.int .i64 m] rfl (fun w h => ld_ro h 0 rfl 0 rfl)) ?_
    refine RC (dst := some 10) [] (.k (.i (.blk g1 28 [.int .i64 v.k, .int .i64 v.n, .string (mkS v.s)]) .z)) (hck) ?_
    rintro v _ ⟨rfl, rfl⟩
    cases hr : rightB v m with
    | true =>
      refine RR [] .z (.d (.d (.d (.d (.k .z))))) (.k (.i (.blk g1 28 [.int .i64 v.k, .int .i64 v.n, .string (mkS v.s)]) .z)) ?_
      refine RZ (NT (RE ?_))
      refine NE [] .z (.k (.i (.blk g1 28 [.int .i64 v.k, .int .i64 v.n, .string (mkS v.s)]) .z)) [] (.bool false) ?_
      exact ⟨rfl, rfl⟩
    | false =>
      refine RR [] .z (.i 3 (.bool true) .z) (.k (.i (.blk g1 28 [.int .i64 v.k, .int .i64 v.n, .string (mkS v.s)]) .z)) ?_
      refine RZ (NT (RE ?_))
      refine NE [] .z (.k (.i (.blk g1 28 [.int .i64 v.k, .int .i64 v.n, .string (mkS v.s)]) .z)) [] (.bool true) ?_
      exact ⟨rfl, rfl⟩
theorem IndexFuncV_spec (l : List V) (a : Option Addr) (c : Nat) (m : Int) (g : Nat) (hl : l.length ≤ 1048576) (hs : smL l) : Does Tryz.prog 128 [.slice a l.length c, .func (.func 91) #[] #[.pointer (some ⟨g, 0, none⟩)]] [ro a (l.flatMap valC), ro (some ⟨g, 0, none⟩) [.int .i64 m]] (fun u hp' => ∃ n : Int, u = .int .i64 n ∧ (0 ≤ n ↔ l.all (cellB m) = false) ∧ hp' = []) := by
  refine fn_enter Tryz.func128 rfl 19 rfl fun w0 h0 => ?_
  refine SQ (RG ?_)
  refine RR [] .z (.i 4 (.int .i64 0) .a) .a ?_
  refine RZ (NT (SQ (SQ (RG ?_))))
  refine RR [] .z (.i 8 (.int .i64 0) (.i 7 (.int .i64 (↑l.length : Int)) .a)) .a ?_
  refine RZ (NT (BK ?_))
  refine wpc_loop (X := {n : Nat // ∃ h : n ≤ l.length, ∀ j, (hj : j < n) → cellB m (l[j]'(by omega)) = true}) (fun x => St.mk [(8, .int .i64 (x.1 : Int)), (7, .int .i64 l.length), (4, .int .i64 0), (0, .slice a l.length c), (1, .func (.func 91) #[] #[.pointer (some ⟨g, 0, none⟩)])] [ro a (l.flatMap valC), ro (some ⟨g, 0, none⟩) [.int .i64 m]]) (fun x => l.length - x.1) ⟨0, Nat.zero_le _, fun j h => absurd h (Nat.not_lt_zero _)⟩ (ent_fr (by kernel_rfl)) ?_
  rintro ⟨n, hn, hall⟩
  dsimp only at hn hall ⊢
  by_cases hlt : n < l.length
  · refine wpc_fact (fun w h => ro_addr h 0 rfl (by rw [vals_len]; omega)) ?_
    rintro ⟨g0, o0, rfl⟩
    have hf := fit1_spec l[n] m g (hs _ (List.getElem_mem hlt))
    unfold valV at hf
    refine SQ (RG ?_)
    refine RR [] .z (.i 9 (.bool (decide ((↑n : Int) < (↑l.length : Int)))) .a) .a ?_
    refine RZ (NT (SQ ?_))
    refine SC 9 (decide ((↑n : Int) < (↑l.length : Int))) true (decide_eq_true (by omega)) ?_
    refine CT (SK (NT (SQ (BK (SQ (RG ?_))))))
    refine RR [] .z (.i 5 (.int .i64 (↑n : Int)) (.d (.d (.k .a)))) .a ?_
    refine RZ (NT (SQ (RG ?_)))
    refine RV true [] (.d (.d (.d (.d .a)))) (.i 14 (.pointer (some ⟨g0, o0 + n * 3, none⟩)) (.i 11 (Value.func (Fn.func 91) #[] #[.pointer (some ⟨g, 0, none⟩)]) .a)) .a [(0 : Int) ≤ (↑n : Int) ∧ (↑n : Int) < (↑l.length : Int)] ⟨by first | omega | decide | (simp; done), trivial⟩ ?_
    refine wpr_eq (ld (t := 28) (a := (⟨g0, o0 + n * 3, none⟩)) (dst := some 15) (by kernel_rfl) true 3 (by kernel_rfl) (by simp) (valC l[n]) rfl (fun w h => ld_ro h 0 rfl (n * 3) (vals_at hlt))) ?_
    refine RCG (dst := some 16) .a (hf) (GV (GI []) 1 view_ro) ?_
    rintro v _ ⟨rfl, rfl⟩
    cases hok : cellB m l[n] with
    | true =>
      refine RZ (NT (CF (SK (BN (NT (RG ?_))))))
      refine RV true [] .z (.i 8 (.int .i64 ((↑n : Int) + 1)) (.d (.d (.d (.d (.d (.d (.k .a)))))))) .a ([inI64 ((↑n : Int) + (1 : Int))]) ⟨by unfold inI64; omega, trivial⟩ ?_
      refine RZ ?_
      exact fun a' w' hS' => ⟨⟨n + 1, hlt, fun j hj => by
              rcases Nat.lt_or_ge j n with h | h
              · exact hall j h
              · obtain rfl : j = n := by omega
                exact hok⟩, by dsimp only; omega, ent_fr (by kernel_rfl) _ _ (ent_hp [0, 0] rfl _ _ hS')⟩
    | false =>
      refine RZ (NT (CT (SQ (RG ?_))))
      refine RR [] .z (.i 4 (.int .i64 (↑n : Int)) (.d (.d (.d (.d (.d (.k (.k (.d (.k .a)))))))))) .a ?_
      refine RZ (NT (RE (BR (TR (TR (BR (TR ?_)))))))
      refine NE [] .z .a [] (.int .i64 (↑n : Int)) ?_
      refine ⟨_, rfl, ⟨fun _ => ?_, fun _ => by omega⟩, rfl⟩
      cases h : l.all (cellB m) with
      | false => rfl
      | true =>
        have h2 := List.all_eq_true.1 h l[n] (List.getElem_mem hlt)
        rw [hok] at h2; cases h2
  · refine SQ (RG ?_)
    refine RR [] .z (.i 9 (.bool (decide ((↑n : Int) < (↑l.length : Int)))) .a) .a ?_
    refine RZ (NT (SQ ?_))
    refine SC 9 (decide ((↑n : Int) < (↑l.length : Int))) false (decide_eq_false (by omega)) ?_
    refine CF (EX (TE (TE (BH (NT (SQ (RG ?_)))))))
    refine RR [] .z (.i 4 (.int .i64 (-1)) .z) .a ?_
    refine RZ (NT (RE ?_))
    refine NE [] .z .a [] (.int .i64 (-1)) ?_
    refine ⟨-1, rfl, ⟨fun h => absurd h (by decide), fun h => ?_⟩, rfl⟩
    have : l.all (cellB m) = true := List.all_eq_true.2 fun x hx => by
      obtain ⟨j, hj⟩ := List.getElem?_of_mem hx
      obtain ⟨hj1, rfl⟩ := List.getElem?_eq_some_iff.1 hj
      exact hall j (by omega)
    rw [this] at h; cases h
theorem ContainsFuncV_spec (l : List V) (a : Option Addr) (c : Nat) (m : Int) (g : Nat) (hl : l.length ≤ 1048576) (hs : smL l) : Does Tryz.prog 90 [.slice a l.length c, .func (.func 91) #[] #[.pointer (some ⟨g, 0, none⟩)]] [ro a (l.flatMap valC), ro (some ⟨g, 0, none⟩) [.int .i64 m]] (fun u hp' => u = .bool (!l.all (cellB m)) ∧ hp' = []) := by
  refine fn_enter Tryz.func90 rfl 9 rfl fun w0 h0 => ?_
  refine SQ (RG ?_)
  refine RR [] .z (.i 4 (.bool false) .a) .a ?_
  refine RZ (NT (SQ (RG ?_)))
  refine RR [] (.d (.d .a)) (.i 6 (Value.func (Fn.func 91) #[] #[.pointer (some ⟨g, 0, none⟩)]) (.i 5 (.slice a l.length c) (.k .z))) .a ?_
  refine RCG (dst := some 7) .a (IndexFuncV_spec l a c m g hl hs) (GV (GV (GI []) 1 view_ro) 0 view_ro) ?_
  rintro v _ ⟨n, rfl, hn, rfl⟩
  refine RR [] .z (.i 4 (.bool (decide (n ≥ 0))) .z) .a ?_
  refine RZ (NT (RE ?_))
  refine NE [] .z .a [] (.bool (decide (n ≥ 0))) ?_
  refine ⟨?_, rfl⟩
  cases h : l.all (cellB m) with
  | true =>
    have h0 : ¬ 0 ≤ n := fun h2 => by have := hn.1 h2; rw [h] at this; cases this
    simp [h0]
  | false =>
    have h0 : 0 ≤ n := hn.2 h
    simp [h0]
theorem fit_spec (tag : List UInt8) (l : List V) (a : Option Addr) (c : Nat) (m : Int) (ht : tag.length ≤ 1048576) (hl : l.length ≤ 1048576) (hs : smL l) : Does Tryz.prog 48 [.agg #[.string (mkS tag), .slice a l.length c], .int .i64 m] [ro a (l.flatMap valC), gWords] (fun u hp' => u = .bool (objB m tag l) ∧ hp' = []) := by
  have hgo : ∀ b : Bool, (!!b) = b := fun b => Bool.not_not b
  have hT := TextName_spec tag ht
  unfold tokV at hT
  cases tag with
  | nil =>
    have hob : objB m [] l = l.all (cellB m) := by simp [objB]
    rw [hob]
    refine fn_enter Tryz.func48 rfl 26 rfl fun w0 h0 => ?_
    refine SQ (RG ?_)
    refine RP [] (.d .a) 2 (.d (.k .a)) .a 43 [.string (mkS []), .slice a l.length c] fun g1 => ?_
    refine RP [] (.d .a) 3 (.k .z) (.k (.k (.i (.blk g1 43 [.string (mkS []), .slice a l.length c]) .z))) 3 [.int .i64 m] fun g2 => ?_
    refine RR [] .z (.i 4 (.bool false) .a) (.k (.k (.i (.blk g1 43 [.string (mkS []), .slice a l.length c]) (.i (.blk g2 3 [.int .i64 m]) .z)))) ?_
    refine RZ (NT (SQ (SQ (RG ?_))))
    refine RR [2] (.d (.d (.d .a))) (.i 10 (.agg #[.int .i64 1, .string (mkS []), .int .i64 0, .int .i64 0, .int .i64 0]) .a) (.k (.k (.i (.blk g1 43 [.string (mkS []), .slice a l.length c]) (.i (.blk g2 3 [.int .i64 m]) .z)))) ?_
    refine RCG (dst := some 11) (.k (.k (.i (.blk g1 43 [.string (mkS []), .slice a l.length c]) (.i (.blk g2 3 [.int .i64 m]) .z)))) (hT) (GV (GI []) 1 view_ro) ?_
    rintro v _ ⟨rfl, rfl⟩
    refine RR [] .z (.i 6 (.int .i64 2) (.d (.d (.k .a)))) (.k (.k (.i (.blk g1 43 [.string (mkS []), .slice a l.length c]) (.i (.blk g2 3 [.int .i64 m]) .z)))) ?_
    refine RZ (NT (SQ (RG ?_)))
    refine RR [2] .z (.i 20 (.bool false) (.d (.k .a))) (.k (.k (.i (.blk g1 43 [.string (mkS []), .slice a l.length c]) (.i (.blk g2 3 [.int .i64 m]) .z)))) ?_
    refine RZ (NT (CF (SK (NT (SQ (RG ?_))))))
    refine RR [2] (.d (.d (.d .a))) (.i 23 (Value.func (Fn.func 91) #[] #[.pointer (some ⟨g2, 0, none⟩)]) (.i 22 (.slice a l.length c) (.d (.k .z)))) (.k (.k (.i (.blk g1 43 [.string (mkS []), .slice a l.length c]) (.i (.blk g2 3 [.int .i64 m]) .z)))) ?_
    refine wpr_ent (ent_turn 3 (ro (some ⟨g2, 0, none⟩) [.int .i64 m]) rfl (turn_rblk (l := [.int .i64 m]) (fun u hu => by cases List.mem_singleton.1 hu; rfl)) rfl) ?_
    refine RCG (dst := some 24) (.k (.k (.i (.blk g1 43 [.string (mkS []), .slice a l.length c]) (.d (.k .a))))) (ContainsFuncV_spec l a c m g2 hl hs) (GV (GV (GI []) 3 view_ro) 0 view_ro) ?_
    rintro v _ ⟨rfl, rfl⟩
    refine RR [] .z (.i 4 (.bool !!l.all (cellB m)) .z) (.k (.k (.i (.blk g1 43 [.string (mkS []), .slice a l.length c]) (.d (.k .a))))) ?_
    refine RZ (NT (RE ?_))
    refine NE [] .z (.k (.k (.i (.blk g1 43 [.string (mkS []), .slice a l.length c]) (.d (.k .a))))) [] (.bool !!l.all (cellB m)) ?_
    exact ⟨by rw [hgo], rfl⟩
  | cons t0 tr =>
    cases hn : nameB (t0 :: tr) with
    | false =>
      have hob : objB m (t0 :: tr) l = false := by simp [objB, hn]
      rw [hob]
      refine fn_enter Tryz.func48 rfl 26 rfl fun w0 h0 => ?_
      refine SQ (RG ?_)
      refine RP [] (.d .a) 2 (.d (.k .a)) .a 43 [.string (mkS (t0 :: tr)), .slice a l.length c] fun g1 => ?_
      refine RP [] (.d .a) 3 (.k .z) (.k (.k (.i (.blk g1 43 [.string (mkS (t0 :: tr)), .slice a l.length c]) .z))) 3 [.int .i64 m] fun g2 => ?_
      refine RR [] .z (.i 4 (.bool false) .a) (.k (.k (.i (.blk g1 43 [.string (mkS (t0 :: tr)), .slice a l.length c]) (.i (.blk g2 3 [.int .i64 m]) .z)))) ?_
      refine RZ (NT (SQ (SQ (RG ?_))))
      refine RR [2] (.d (.d (.d .a))) (.i 10 (.agg #[.int .i64 1, .string (mkS (t0 :: tr)), .int .i64 0, .int .i64 0, .int .i64 0]) .a) (.k (.k (.i (.blk g1 43 [.string (mkS (t0 :: tr)), .slice a l.length c]) (.i (.blk g2 3 [.int .i64 m]) .z)))) ?_
      refine RCG (dst := some 11) (.k (.k (.i (.blk g1 43 [.string (mkS (t0 :: tr)), .slice a l.length c]) (.i (.blk g2 3 [.int .i64 m]) .z)))) (hT) (GV (GI []) 1 view_ro) ?_
      rintro v _ ⟨rfl, rfl⟩
      rw [hn]
      refine RR [] .z (.i 6 (.int .i64 2) (.d (.d (.k .a)))) (.k (.k (.i (.blk g1 43 [.string (mkS (t0 :: tr)), .slice a l.length c]) (.i (.blk g2 3 [.int .i64 m]) .z)))) ?_
      refine RZ (NT (SQ (RG ?_)))
      refine RR [2] .z (.i 20 (.bool true) (.d (.k .a))) (.k (.k (.i (.blk g1 43 [.string (mkS (t0 :: tr)), .slice a l.length c]) (.i (.blk g2 3 [.int .i64 m]) .z)))) ?_
      refine RZ (NT (CT (SQ (RG ?_))))
      refine RR [] .z (.d (.k .a)) (.k (.k (.i (.blk g1 43 [.string (mkS (t0 :: tr)), .slice a l.length c]) (.i (.blk g2 3 [.int .i64 m]) .z)))) ?_
      refine RZ (NT (RE (TR ?_)))
      refine NE [] .z (.k (.k (.i (.blk g1 43 [.string (mkS (t0 :: tr)), .slice a l.length c]) (.i (.blk g2 3 [.int .i64 m]) .z)))) [] (.bool false) ?_
      exact ⟨rfl, rfl⟩
    | true =>
      have hob : objB m (t0 :: tr) l = l.all (cellB m) := by simp [objB, hn]
      rw [hob]
      refine fn_enter Tryz.func48 rfl 26 rfl fun w0 h0 => ?_
      refine SQ (RG ?_)
      refine RP [] (.d .a) 2 (.d (.k .a)) .a 43 [.string (mkS (t0 :: tr)), .slice a l.length c] fun g1 => ?_
      refine RP [] (.d .a) 3 (.k .z) (.k (.k (.i (.blk g1 43 [.string (mkS (t0 :: tr)), .slice a l.length c]) .z))) 3 [.int .i64 m] fun g2 => ?_
      refine RR [] .z (.i 4 (.bool false) .a) (.k (.k (.i (.blk g1 43 [.string (mkS (t0 :: tr)), .slice a l.length c]) (.i (.blk g2 3 [.int .i64 m]) .z)))) ?_
      refine RZ (NT (SQ (SQ (RG ?_))))
      refine RR [2] (.d (.d (.d .a))) (.i 10 (.agg #[.int .i64 1, .string (mkS (t0 :: tr)), .int .i64 0, .int .i64 0, .int .i64 0]) .a) (.k (.k (.i (.blk g1 43 [.string (mkS (t0 :: tr)), .slice a l.length c]) (.i (.blk g2 3 [.int .i64 m]) .z)))) ?_
      refine RCG (dst := some 11) (.k (.k (.i (.blk g1 43 [.string (mkS (t0 :: tr)), .slice a l.length c]) (.i (.blk g2 3 [.int .i64 m]) .z)))) (hT) (GV (GI []) 1 view_ro) ?_
      rintro v _ ⟨rfl, rfl⟩
      rw [hn]
      refine RR [] .z (.i 6 (.int .i64 0) (.d (.d (.k .a)))) (.k (.k (.i (.blk g1 43 [.string (mkS (t0 :: tr)), .slice a l.length c]) (.i (.blk g2 3 [.int .i64 m]) .z)))) ?_
      refine RZ (NT (SQ (RG ?_)))
      refine RR [2] .z (.i 20 (.bool false) (.d (.k .a))) (.k (.k (.i (.blk g1 43 [.string (mkS (t0 :: tr)), .slice a l.length c]) (.i (.blk g2 3 [.int .i64 m]) .z)))) ?_
      refine RZ (NT (CF (SK (NT (SQ (RG ?_))))))
      refine RR [2] (.d (.d (.d .a))) (.i 23 (Value.func (Fn.func 91) #[] #[.pointer (some ⟨g2, 0, none⟩)]) (.i 22 (.slice a l.length c) (.d (.k .z)))) (.k (.k (.i (.blk g1 43 [.string (mkS (t0 :: tr)), .slice a l.length c]) (.i (.blk g2 3 [.int .i64 m]) .z)))) ?_
      refine wpr_ent (ent_turn 3 (ro (some ⟨g2, 0, none⟩) [.int .i64 m]) rfl (turn_rblk (l := [.int .i64 m]) (fun u hu => by cases List.mem_singleton.1 hu; rfl)) rfl) ?_
      refine RCG (dst := some 24) (.k (.k (.i (.blk g1 43 [.string (mkS (t0 :: tr)), .slice a l.length c]) (.d (.k .a))))) (ContainsFuncV_spec l a c m g2 hl hs) (GV (GV (GI []) 3 view_ro) 0 view_ro) ?_
      rintro v _ ⟨rfl, rfl⟩
      refine RR [] .z (.i 4 (.bool !!l.all (cellB m)) .z) (.k (.k (.i (.blk g1 43 [.string (mkS (t0 :: tr)), .slice a l.length c]) (.d (.k .a))))) ?_
      refine RZ (NT (RE ?_))
      refine NE [] .z (.k (.k (.i (.blk g1 43 [.string (mkS (t0 :: tr)), .slice a l.length c]) (.d (.k .a))))) [] (.bool !!l.all (cellB m)) ?_
      exact ⟨by rw [hgo], rfl⟩
theorem cells_spec (l : List V) (a : Option Addr) (c : Nat) (m : Int) (hl : l.length ≤ 1048576) (hs : smL l) : Does Tryz.prog 58 [.slice a l.length c, .int .i64 m] [ro a (l.flatMap valC)] (fun u hp' => u = .bool (l.all (cellB m)) ∧ hp' = []) := by
  refine fn_enter Tryz.func58 rfl 27 rfl fun w0 h0 => ?_
  refine SQ (RG ?_)
  refine RR [] .z (.i 4 (.bool false) .a) .a ?_
  refine RZ (NT (SQ (SQ (RG ?_))))
  refine RR [] .z (.i 5 (.int .i64 0) .a) .a ?_
  refine RZ (NT (BK ?_))
  refine wpc_loop (X := {n : Nat // ∃ h : n ≤ l.length, ∀ j, (hj : j < n) → cellB m (l[j]'(by omega)) = true}) (fun x => St.mk [(5, .int .i64 (x.1 : Int)), (4, .bool false), (0, .slice a l.length c), (1, .int .i64 m)] [ro a (l.flatMap valC)]) (fun x => l.length - x.1) ⟨0, Nat.zero_le _, fun j h => absurd h (Nat.not_lt_zero _)⟩ (ent_fr (by kernel_rfl)) ?_
  rintro ⟨n, hn, hall⟩
  dsimp only at hn hall ⊢
  by_cases hlt : n < l.length
  · refine wpc_fact (fun w h => ro_addr h 0 rfl (by rw [vals_len]; omega)) ?_
    rintro ⟨g0, o0, rfl⟩
    have hf := Right_spec l[n] m (hs _ (List.getElem_mem hlt))
    unfold valV at hf
    have hno : cellB m l[n] = false → l.all (cellB m) = false := fun hok => by
      cases h : l.all (cellB m) with
      | false => rfl
      | true =>
        have h2 := List.all_eq_true.1 h l[n] (List.getElem_mem hlt)
        rw [hok] at h2; cases h2
    refine SQ (SQ (RG ?_))
    refine RR [] .z (.i 9 (.bool (decide ((↑n : Int) < (↑l.length : Int)))) .a) .a ?_
    refine RZ (NT ?_)
    refine SC 9 (decide ((↑n : Int) < (↑l.length : Int))) true (decide_eq_true (by omega)) ?_
    refine CT (SK (NT (SQ (BK (SQ (RG ?_))))))
    refine RV true [] (.d (.d (.d .a))) (.i 14 (.pointer (some ⟨g0, o0 + n * 3, none⟩)) (.d (.d (.k .a)))) .a [(0 : Int) ≤ (↑n : Int) ∧ (↑n : Int) < (↑l.length : Int)] ⟨by first | omega | decide | (simp; done), trivial⟩ ?_
    refine wpr_eq (ld (t := 28) (a := (⟨g0, o0 + n * 3, none⟩)) (dst := some 15) (by kernel_rfl) true 3 (by kernel_rfl) (by simp) (valC l[n]) rfl (fun w h => ld_ro h 0 rfl (n * 3) (vals_at hlt))) ?_
    refine RR [] (.d .a) (.i 16 (.int .i64 m) (.i 15 (.agg #[.int .i64 l[n].k, .int .i64 l[n].n, .string (mkS l[n].s)]) (.d (.d (.k .a))))) .a ?_
    refine RC (dst := some 17) [] .a (hf) ?_
    rintro v _ ⟨rfl, rfl⟩
    cases hr : rightB l[n] m with
    | false =>
      refine RR [] .z (.i 26 (.bool true) (.d (.d (.d (.k .a))))) .a ?_
      refine RZ (NT (CT (SQ (RG ?_))))
      refine RR [] .z (.i 4 (.bool false) (.d (.k (.d (.k .a))))) .a ?_
      refine RZ (NT (RE (BR (TR (TR (BR (TR ?_)))))))
      refine NE [] .z .a [] (.bool false) ?_
      exact ⟨by rw [hno (by simp [cellB, hr])], rfl⟩
    | true =>
      refine RV true [] (.d (.d (.d (.d (.d (.d .a)))))) (.i 23 (.pointer (some ⟨g0, o0 + n * 3, none⟩)) (.i 19 (.bool false) (.d (.d (.d (.k .a)))))) .a [(0 : Int) ≤ (↑n : Int) ∧ (↑n : Int) < (↑l.length : Int)] ⟨by first | omega | decide | (simp; done), trivial⟩ ?_
      refine wpr_eq (ld (t := 26) (a := (⟨g0, o0 + n * 3, none⟩)) (dst := some 24) (by kernel_rfl) false 1 (by kernel_rfl) (by simp) [.int .i64 l[n].k] rfl (fun w h => ld_ro h 0 rfl (n * 3) (by have := congrArg (List.take 1) (vals_at hlt); rw [List.take_take] at this; exact this))) ?_
      refine RR [] .z (.i 26 (.bool (l[n].k == 0)) (.d (.d (.d (.k .a))))) .a ?_
      refine RZ (NT ?_)
      by_cases hk : l[n].k = 0
      · refine SC 26 (l[n].k == 0) true (by simp only [bne_iff_ne, beq_iff_eq, ne_eq]; omega) ?_
        refine CT (SQ (RG ?_))
        refine RR [] .z (.i 4 (.bool false) (.d (.d (.k (.d (.k .a)))))) .a ?_
        refine RZ (NT (RE (BR (TR (TR (BR (TR ?_)))))))
        refine NE [] .z .a [] (.bool false) ?_
        exact ⟨by rw [hno (by simp [cellB, hk])], rfl⟩
      · refine SC 26 (l[n].k == 0) false (by simp only [bne_eq_false_iff_eq, beq_eq_false_iff_ne, ne_eq]; omega) ?_
        refine CF (SK (BN (NT (RG ?_))))
        refine RV true [] .z (.i 5 (.int .i64 ((↑n : Int) + 1)) (.d (.d (.d (.k .a))))) .a ([inI64 ((↑n : Int) + (1 : Int))]) ⟨by unfold inI64; omega, trivial⟩ ?_
        refine RZ ?_
        exact fun a' w' hS' => ⟨⟨n + 1, hlt, fun j hj => by
                  rcases Nat.lt_or_ge j n with h | h
                  · exact hall j h
                  · obtain rfl : j = n := by omega
                    simp [cellB, hr, hk]⟩, by dsimp only; omega, ent_fr (by kernel_rfl) _ _ (ent_hp [0] rfl _ _ hS')⟩
  · refine SQ (SQ (RG ?_))
    refine RR [] .z (.i 9 (.bool (decide ((↑n : Int) < (↑l.length : Int)))) .a) .a ?_
    refine RZ (NT ?_)
    refine SC 9 (decide ((↑n : Int) < (↑l.length : Int))) false (decide_eq_false (by omega)) ?_
    refine CF (EX (TE (TE (BH (NT (SQ (RG ?_)))))))
    refine RR [] .z (.i 4 (.bool true) .z) .a ?_
    refine RZ (NT (RE ?_))
    refine NE [] .z .a [] (.bool true) ?_
    have : l.all (cellB m) = true := List.all_eq_true.2 fun x hx => by
      obtain ⟨j, hj⟩ := List.getElem?_of_mem hx
      obtain ⟨hj1, rfl⟩ := List.getElem?_eq_some_iff.1 hj
      exact hall j (by omega)
    exact ⟨by rw [this], rfl⟩
end Go.Proofs.YtpfhleghgkeemaaGreatDoor
