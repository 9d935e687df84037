import Derived.Test.YtpfhleghgkeemaaGreatDoorX2
import Derived.Laws.Entries
import Derived.Laws.Strings
/-
  The operations with a condition of their own do what 'special' says.
-/
namespace Go.Sx
open Go
set_option linter.unusedVariables false
set_option linter.unusedSimpArgs false

variable {P : Program} {md : Bool} {ρ : Operand → Value} {w : World}

theorem run_sliceBound {k : IntKind} {n : Int} {y : Nat} {code : BoundsCode} (h0 : 0 ≤ n) (h1 : n ≤ (y : Int)) : (Instr.sliceBound (.int k n) y code).run P w = .ok n.toNat w := by
  simp [Instr.sliceBound, asIntOf, h0, h1]

theorem bnds_ok {sl : Bool} {len cap : Nat} {lo hi mx : Option Operand} {l h m : Int} {ps : List Prop} (e : bnds ρ len cap lo hi mx = some (l, h, m, ps)) (hp : AllP ps) :
    (Instr.sliceBounds sl len cap (lo.map ρ) (hi.map ρ) (mx.map ρ)).run P w = .ok (l.toNat, h.toNat, m.toNat) w ∧ 0 ≤ l ∧ 0 ≤ h ∧ 0 ≤ m ∧ (lo = none → l = 0) ∧ (hi = none → h = len) ∧ (mx = none → m = cap) ∧ (hi ≠ none → h ≤ m) ∧ (lo ≠ none → l ≤ h) := by
  unfold bnds at e
  have key : ∀ (m : Int) (pm : List Prop) (h : Int) (ph : List Prop) (l : Int) (ps : List Prop), AllP ps →
      mxB ρ cap mx = some (m, pm) → hiB ρ len m hi mx = some (h, ph) → loB ρ h m pm ph lo = some (l, h, m, ps) →
      (Instr.sliceBounds sl len cap (lo.map ρ) (hi.map ρ) (mx.map ρ)).run P w = .ok (l.toNat, h.toNat, m.toNat) w ∧ 0 ≤ l ∧ 0 ≤ h ∧ 0 ≤ m ∧ (lo = none → l = 0) ∧ (hi = none → h = len) ∧ (mx = none → m = cap) ∧ (hi ≠ none → h ≤ m) ∧ (lo ≠ none → l ≤ h) := by
    intro m pm h ph l ps hp e1 e2 e3
    unfold mxB at e1
    unfold hiB at e2
    unfold loB at e3
    have hall : AllP pm ∧ AllP ph ∧ (lo ≠ none → 0 ≤ l ∧ l ≤ h) ∧ (lo = none → l = 0) := by
      cases lo with
      | none =>
        simp only [Option.some.injEq, Prod.mk.injEq] at e3
        obtain ⟨rfl, _, _, rfl⟩ := e3
        rw [allP_append] at hp
        exact ⟨hp.1, hp.2, fun h => absurd rfl h, fun _ => rfl⟩
      | some x =>
        simp only at e3
        split at e3
        case h_2 => cases e3
        case h_1 k n hx =>
          simp only [Option.some.injEq, Prod.mk.injEq] at e3
          obtain ⟨rfl, _, _, rfl⟩ := e3
          rw [allP_append, allP_append] at hp
          exact ⟨hp.1.1, hp.1.2, fun _ => hp.2.1, fun h => by cases h⟩
    obtain ⟨hpm, hph, hl1, hl0⟩ := hall
    have hm : 0 ≤ m ∧ (mx = none → m = cap) ∧ (mx ≠ none → m ≤ cap) := by
      cases mx with
      | none => simp only [Option.some.injEq, Prod.mk.injEq] at e1; obtain ⟨rfl, rfl⟩ := e1; exact ⟨by omega, fun _ => rfl, fun h => absurd rfl h⟩
      | some x =>
        simp only at e1
        split at e1
        case h_2 => cases e1
        case h_1 k n hx => simp only [Option.some.injEq, Prod.mk.injEq] at e1; obtain ⟨rfl, rfl⟩ := e1; exact ⟨hpm.1.1, fun h => (by cases h), fun _ => hpm.1.2⟩
    have hh : 0 ≤ h ∧ (hi = none → h = len) ∧ (hi ≠ none → h ≤ m) := by
      cases hi with
      | none =>
        cases mx with
        | none => simp only [Option.some.injEq, Prod.mk.injEq] at e2; obtain ⟨rfl, rfl⟩ := e2; exact ⟨by omega, fun _ => rfl, fun h => absurd rfl h⟩
        | some x => simp at e2
      | some x =>
        simp only at e2
        split at e2
        case h_2 => cases e2
        case h_1 k n hx => simp only [Option.some.injEq, Prod.mk.injEq] at e2; obtain ⟨rfl, rfl⟩ := e2; exact ⟨hph.1.1, fun h => (by cases h), fun _ => hph.1.2⟩
    have hl : 0 ≤ l := by
      by_cases hlo : lo = none
      · rw [hl0 hlo]; omega
      · exact (hl1 hlo).1
    refine ⟨?_, hl, hh.1, hm.1, hl0, hh.2.1, hm.2.1, hh.2.2, fun h => (hl1 h).2⟩
    have hcap : (m.toNat : Int) = m := Int.toNat_of_nonneg hm.1
    have hhN : (h.toNat : Int) = h := Int.toNat_of_nonneg hh.1
    unfold Instr.sliceBounds
    cases mx with
    | none =>
      have := hm.2.1 rfl
      subst this
      cases hi with
      | none =>
        have := hh.2.1 rfl
        subst this
        cases lo with
        | none => have := hl0 rfl; subst this; simp
        | some z =>
          simp only at e3
          split at e3
          case h_2 => cases e3
          case h_1 k n hx =>
            simp only [Option.some.injEq, Prod.mk.injEq] at e3
            obtain ⟨rfl, _⟩ := e3
            have h2 := hl1 (by simp)
            simp [hx, run_sliceBound h2.1 h2.2]
      | some y =>
        simp only at e2
        split at e2
        case h_2 => cases e2
        case h_1 k n hx =>
          simp only [Option.some.injEq, Prod.mk.injEq] at e2
          obtain ⟨rfl, _⟩ := e2
          have h3 := hh.2.2 (by simp)
          cases lo with
          | none => have := hl0 rfl; subst this; simp [hx, run_sliceBound hh.1 h3]
          | some z =>
            simp only at e3
            split at e3
            case h_2 => cases e3
            case h_1 k' n' hx' =>
              simp only [Option.some.injEq, Prod.mk.injEq] at e3
              obtain ⟨rfl, _⟩ := e3
              have h2 := hl1 (by simp)
              simp [hx, hx', run_sliceBound hh.1 h3, run_sliceBound h2.1 (by rw [hhN]; exact h2.2)]
    | some q =>
      simp only at e1
      split at e1
      case h_2 => cases e1
      case h_1 kq nq hq =>
        simp only [Option.some.injEq, Prod.mk.injEq] at e1
        obtain ⟨rfl, _⟩ := e1
        have h4 := hm.2.2 (by simp)
        cases hi with
        | none => simp at e2
        | some y =>
          simp only at e2
          split at e2
          case h_2 => cases e2
          case h_1 k n hx =>
            simp only [Option.some.injEq, Prod.mk.injEq] at e2
            obtain ⟨rfl, _⟩ := e2
            have h3 := hh.2.2 (by simp)
            cases lo with
            | none => have := hl0 rfl; subst this; simp [hq, hx, run_sliceBound hm.1 h4, run_sliceBound hh.1 (by rw [hcap]; exact h3)]
            | some z =>
              simp only at e3
              split at e3
              case h_2 => cases e3
              case h_1 k' n' hx' =>
                simp only [Option.some.injEq, Prod.mk.injEq] at e3
                obtain ⟨rfl, _⟩ := e3
                have h2 := hl1 (by simp)
                simp [hq, hx, hx', run_sliceBound hm.1 h4, run_sliceBound hh.1 (by rw [hcap]; exact h3), run_sliceBound h2.1 (by rw [hhN]; exact h2.2)]
  split at e
  case h_1 => cases e
  case h_2 m' pm e1 =>
    split at e
    case h_1 => cases e
    case h_2 h' ph e2 =>
      have : h' = h ∧ m' = m := by
        unfold loB at e
        split at e
        · simp only [Option.some.injEq, Prod.mk.injEq] at e; exact ⟨e.2.1, e.2.2.1⟩
        · split at e
          · simp only [Option.some.injEq, Prod.mk.injEq] at e; exact ⟨e.2.1, e.2.2.1⟩
          · cases e
      obtain ⟨rfl, rfl⟩ := this
      exact key m' pm h' ph l ps hp e1 e2 e

theorem byte_at {s : ByteArray} {i : Int} (h0 : 0 ≤ i) (h1 : i < (s.size : Int)) : ∃ b, s[i.toNat]? = some b ∧ ((b.toNat : Int)) = bt s i := by
  have h : i.toNat < s.size := by omega
  refine ⟨s[i.toNat], by simp [getElem?_pos, h], ?_⟩
  unfold bt
  have h' : i.toNat < s.data.toList.length := by simpa using h
  rw [List.getD_eq_getElem?_getD, List.getElem?_eq_getElem h']
  rfl

theorem extract_mkS (s : ByteArray) (i j : Nat) : s.extract i j = mkS ((s.data.toList.drop i).take (j - i)) := by
  apply ByteArray.ext
  simp only [mkS, ByteArray.data_extract]
  apply Array.ext'
  simp [Array.toList_extract, List.extract_eq_take_drop]
theorem append_mkS (a b : ByteArray) : a ++ b = mkS (a.data.toList ++ b.data.toList) := by
  apply ByteArray.ext
  simp [mkS]

theorem wrap_in {x : Int} (h : inI64 x) : IntKind.wrap .i64 x = x := by
  unfold IntKind.wrap inI64 at *
  simp only [IntKind.bits, IntKind.signed]
  obtain ⟨h1, h2⟩ := h
  by_cases h0 : 0 ≤ x
  · have : x % 2 ^ 64 = x := Int.emod_eq_of_lt h0 (by omega)
    simp only [this]
    rw [if_neg (by simp; omega)]
  · have : x % 2 ^ 64 = x + 2 ^ 64 := by omega
    simp only [this]
    rw [if_pos (by simp; omega)]
    omega

theorem eqGuard_int {op : BinOp} {t : TypeId} {x y : Operand} {k k' : IntKind} {a b : Int} : (eqGuard op t x y (.int k a) (.int k' b)).run P w = .ok () w := by
  cases op <;> simp [eqGuard]
theorem eqGuard_str {op : BinOp} {t : TypeId} {x y : Operand} {a b : ByteArray} : (eqGuard op t x y (.string a) (.string b)).run P w = .ok () w := by
  cases op <;> simp [eqGuard]

theorem toList_data (s : ByteArray) : s.toList = s.data.toList := Go.ByteArray.toList_eq s
theorem beq_decide (a b : List UInt8) : (a == b) = decide (a = b) := by
  rw [Bool.eq_iff_iff]; simp

theorem special_sound {o : Oper} {v : Value} {ps : List Prop} (h : special P md ρ o.op = some (v, ps)) (hp : AllP ps) (w : World) : (execOp ρ o).run P w = .ok (.value v) w := by
  obtain ⟨dst, op, ty, pos, after, guard⟩ := o
  simp only at h
  unfold special at h
  split at h
  · -- index
    split at h
    · rename_i t x ix s k i ht hx hi
      simp only [Option.some.injEq, Prod.mk.injEq] at h
      obtain ⟨rfl, rfl⟩ := h
      obtain ⟨b, hb1, hb2⟩ := byte_at hp.1.1 hp.1.2
      simp [execOp, Instr.index, hx, hi, asIntOf, run_underlying ht, hp.1.1, hb1, hb2]
    · cases h
  · -- indexAddr
    split at h
    · rename_i t x ix e a len cap k i ht hx hi
      split at h
      · rename_i inf hinf hsp
        simp only [Option.some.injEq, Prod.mk.injEq] at h
        obtain ⟨rfl, rfl⟩ := h
        have h2 := hp.1
        have hadd : ∀ n, a.add n = ⟨a.block, a.off + n, none⟩ := fun n => by
          obtain ⟨ab, ao, asp⟩ := a
          simp only at hsp
          subst hsp
          unfold Addr.add
          split <;> simp_all
        simp [execOp, Instr.indexAt, hx, hi, asIntOf, run_underlying ht, h2.1, h2.2, sizeOf, typeInfo, hinf, hadd]
      · cases h
    · rename_i t x ix n e a k i ht hx hi
      split at h
      · rename_i inf hinf hsp
        simp only [Option.some.injEq, Prod.mk.injEq] at h
        obtain ⟨rfl, rfl⟩ := h
        have h2 := hp.1
        have hadd : ∀ n, a.add n = ⟨a.block, a.off + n, none⟩ := fun n => by
          obtain ⟨ab, ao, asp⟩ := a
          simp only at hsp
          subst hsp
          unfold Addr.add
          split <;> simp_all
        simp [execOp, Instr.indexAt, Instr.sureAddr, hx, hi, asIntOf, run_underlying ht, h2.1, h2.2, sizeOf, typeInfo, hinf, hadd]
      · cases h
    · cases h
  · -- slice
    rename_i t x lo hi mx
    have hsz : ∀ (sl : Bool) (n : Nat) (e : TypeDesc), P.underlying t = some e → (∀ n m, e ≠ .array n m) → (execOp ρ { dst := dst, op := Go.Op.slice t x lo hi mx, type := ty, pos := pos, after := after, guard := guard }).run P w = ((fun v => Next.value v) <$> Instr.slice t (ρ x) (lo.map ρ) (hi.map ρ) (mx.map ρ)).run P w := by
      intro sl n e ht hne
      cases e <;> first | exact absurd rfl (hne _ _) | (simp [execOp, Instr.sliceAt, run_underlying ht])
    split at h
    · rename_i s ht hx
      split at h
      · rename_i l hh m ps' hmx hb
        simp only [Option.some.injEq, Prod.mk.injEq] at h
        obtain ⟨rfl, rfl⟩ := h
        have e1 := bnds_ok (P := P) (w := w) (sl := false) hb hp
        rw [hsz false 0 _ ht (by intro n m e; cases e)]
        have h1 := e1.1
        simp only [Option.map_none] at h1
        have hm : (h : Int) → True := fun _ => trivial
        simp [Instr.slice, run_underlying ht, hx, h1, extract_mkS]
        have := e1.2.1; have := e1.2.2.1
        congr 2
        omega
      · cases h
    · rename_i e a len cap ht hx
      split at h
      · rename_i inf l hh m ps' hinf hb
        have hrun : ∀ ps', bnds ρ len cap lo hi mx = some (l, hh, m, ps') → AllP ps' → (execOp ρ { dst := dst, op := Go.Op.slice t x lo hi mx, type := ty, pos := pos, after := after, guard := guard }).run P w =
            .ok (.value (.slice (if m = l then a else a.map (·.add (l.toNat * inf.size))) (hh - l).toNat (m - l).toNat)) w ∧ (lo = none → l = 0) := by
          intro ps' hb hp'
          have e1 := bnds_ok (P := P) (w := w) (sl := true) hb hp'
          have := e1.2.1; have := e1.2.2.1; have := e1.2.2.2.1
          refine ⟨?_, e1.2.2.2.2.1⟩
          rw [hsz false 0 _ ht (by intro n m e; cases e)]
          have e2 : (m.toNat = l.toNat) = (m = l) := by apply propext; constructor <;> intro <;> omega
          simp [Instr.slice, run_underlying ht, hx, e1.1, sizeOf, typeInfo, hinf, e2]
          constructor <;> omega
        split at h
        · simp only [Option.some.injEq, Prod.mk.injEq] at h
          obtain ⟨rfl, rfl⟩ := h
          obtain ⟨h1, h2⟩ := hrun _ hb hp
          have := h2 rfl
          subst this
          rw [h1]
          have hadd0 : a.map (fun x => x.add (Int.toNat 0 * inf.size)) = a := by cases a <;> simp [Addr.add]
          rw [hadd0]
          simp
        · split at h
          · split at h
            · rename_i a' _ hsp
              simp only [Option.some.injEq, Prod.mk.injEq] at h
              obtain ⟨rfl, rfl⟩ := h
              obtain ⟨h1, h2⟩ := hrun _ hb hp
              rw [h1]
              have hadd : ∀ n, a'.add n = ⟨a'.block, a'.off + n, none⟩ := fun n => by
                obtain ⟨ab, ao, asp⟩ := a'
                simp only at hsp
                subst hsp
                unfold Addr.add
                split <;> simp_all
              have ha' : a' = ⟨a'.block, a'.off, none⟩ := by
                obtain ⟨ab, ao, asp⟩ := a'
                simp only at hsp
                subst hsp; rfl
              unfold sOff
              by_cases hml : m = l
              · rw [if_pos hml, if_pos hml, ← ha']
              · rw [if_neg hml, if_neg hml]; simp [hadd]
            · cases h
          · simp only [Option.some.injEq, Prod.mk.injEq] at h
            obtain ⟨rfl, rfl⟩ := h
            obtain ⟨h1, h2⟩ := hrun _ hb hp
            rw [h1]
            simp
      · cases h
    · rename_i n e a ht hx
      split at h
      · rename_i inf l hh m ps' hinf hb hsp
        simp only [Option.some.injEq, Prod.mk.injEq] at h
        obtain ⟨rfl, rfl⟩ := h
        have e1 := bnds_ok (P := P) (w := w) (sl := false) hb hp
        have := e1.2.1; have := e1.2.2.1; have := e1.2.2.2.1
        have hadd : ∀ n, a.add n = ⟨a.block, a.off + n, none⟩ := fun n => by
          obtain ⟨ab, ao, asp⟩ := a
          simp only at hsp
          subst hsp
          unfold Addr.add
          split <;> simp_all
        have ha' : a = ⟨a.block, a.off, none⟩ := by
          obtain ⟨ab, ao, asp⟩ := a
          simp only at hsp
          subst hsp; rfl
        have e2 : (m.toNat = l.toNat) = (m = l) := by apply propext; constructor <;> intro <;> omega
        have e3 : (if m = l then a else a.add (l.toNat * inf.size)) = ⟨a.block, sOff a.off l m inf.size, none⟩ := by
          unfold sOff
          by_cases hml : m = l
          · rw [if_pos hml, if_pos hml]; exact ha'
          · rw [if_neg hml, if_neg hml]; exact hadd _
        simp only [execOp, Instr.sliceAt, Sem.run_bind, Sem.run_map, run_underlying ht, Result.andThen_ok, hx, Instr.sureAddr, Sem.run_pure, e1.1, sizeOf, typeInfo, run_program, hinf, e2, e3]
        simp
        constructor <;> omega
      · cases h
    · cases h
  · -- binOp
    rename_i op t x y yt
    split at h
    · split at h
      · rename_i hx hy _; simp only [Option.some.injEq, Prod.mk.injEq] at h; obtain ⟨rfl, rfl⟩ := h
        simp [execOp, binOp, hx, hy, eqGuard_int, Op.intArith, wrap_in hp.1]
      · cases h
    · split at h
      · rename_i hx hy _; simp only [Option.some.injEq, Prod.mk.injEq] at h; obtain ⟨rfl, rfl⟩ := h
        simp [execOp, binOp, hx, hy, eqGuard_int, Op.intArith, wrap_in hp.1]
      · cases h
    · split at h
      · rename_i hx hy _; simp only [Option.some.injEq, Prod.mk.injEq] at h; obtain ⟨rfl, rfl⟩ := h
        simp [execOp, binOp, hx, hy, eqGuard_int, Op.intArith, wrap_in hp.1]
      · cases h
    · rename_i a b hx hy; simp only [Option.some.injEq, Prod.mk.injEq] at h; obtain ⟨rfl, rfl⟩ := h
      have h1 := hp.1
      have h2 : ¬ (((a.size + b.size : Nat) : Int) > IntKind.i64.max) := by
        have : IntKind.i64.max = 9223372036854775807 := by decide
        rw [this]; omega
      have h3 : ¬ (IntKind.i64.max < (a.size : Int) + (b.size : Int)) := by simpa using h2
      simp [execOp, binOp, hx, hy, eqGuard_str, Op.stringOp, h3, append_mkS a b]
      omega
    · split at h
      · rename_i hx hy _; simp only [Option.some.injEq, Prod.mk.injEq] at h; obtain ⟨rfl, rfl⟩ := h
        simp [execOp, binOp, hx, hy, eqGuard_int, Op.intDiv, hp.1.1, wrap_in hp.1.2]
      · rename_i hx hy _; simp only [Option.some.injEq, Prod.mk.injEq] at h; obtain ⟨rfl, rfl⟩ := h
        simp [execOp, binOp, hx, hy, eqGuard_int, Op.intDiv, hp.1]
    · split at h
      · rename_i a b hx hy _; simp only [Option.some.injEq, Prod.mk.injEq] at h; obtain ⟨rfl, rfl⟩ := h
        have e : IntKind.wrap .u64 (a.tdiv b) = a.tdiv b := by
          unfold IntKind.wrap
          simp only [IntKind.bits, IntKind.signed]
          have := hp.1.2
          simp
          omega
        simp [execOp, binOp, hx, hy, eqGuard_int, Op.intDiv, hp.1.1, e]
      · rename_i hx hy _; simp only [Option.some.injEq, Prod.mk.injEq] at h; obtain ⟨rfl, rfl⟩ := h
        simp [execOp, binOp, hx, hy, eqGuard_int, Op.intDiv, hp.1]
    · rename_i hx hy
      split at h
      all_goals first | (cases h; done) | (simp only [Option.some.injEq, Prod.mk.injEq] at h; obtain ⟨rfl, rfl⟩ := h; simp [execOp, binOp, hx, hy, eqGuard_int, Op.intDiv, hp.1])
    · rename_i a b hx hy; simp only [Option.some.injEq, Prod.mk.injEq] at h; obtain ⟨rfl, rfl⟩ := h
      simp only [execOp, binOp, hx, hy, eqGuard_str, Op.stringOp, toList_data, beq_decide, Sem.run_bind, Sem.run_pure, Result.andThen_ok]
    · rename_i a b hx hy; simp only [Option.some.injEq, Prod.mk.injEq] at h; obtain ⟨rfl, rfl⟩ := h
      simp only [execOp, binOp, hx, hy, eqGuard_str, Op.stringOp, toList_data, beq_decide, Sem.run_bind, Sem.run_pure, Result.andThen_ok]
    · rename_i hx hy; simp only [Option.some.injEq, Prod.mk.injEq] at h; obtain ⟨rfl, rfl⟩ := h
      simp [execOp, binOp, hx, hy, eqGuard_int, Op.shift, Int.not_lt.2 hp.1]
    · rename_i hx hy; simp only [Option.some.injEq, Prod.mk.injEq] at h; obtain ⟨rfl, rfl⟩ := h
      simp [execOp, binOp, hx, hy, eqGuard_int, Op.shift, Int.not_lt.2 hp.1]
    · cases h
  · -- pick
    split at h
    · rename_i hc hx hy
      simp only [Option.some.injEq, Prod.mk.injEq] at h
      obtain ⟨rfl, rfl⟩ := h
      rename_i c _ _
      cases c <;> simp [execOp, asBool, hc, hx, hy]
    · rename_i hc hx hy
      split at h
      · simp only [Option.some.injEq, Prod.mk.injEq] at h
        obtain ⟨rfl, rfl⟩ := h
        simp only [execOp, asBool, hc, hx, hy]
        simp
        split <;> simp_all
      · cases h
    · cases h
  · -- len
    rename_i c
    split at h
    · rename_i x t hcal hargs hts
      split at h
      · rename_i s hx ht
        simp only [Option.some.injEq, Prod.mk.injEq] at h
        obtain ⟨rfl, rfl⟩ := h
        have e1 : c.args = #[x] := by apply Array.ext'; simpa using hargs
        have e2 : c.argTypes = #[t] := by apply Array.ext'; simpa using hts
        simp [execOp, resolve, hcal, e1, e2, invoke, builtin, Builtin.len_, hx, run_underlying ht, goInt]
      · cases h
    · cases h
  · -- convert
    rename_i s d x
    have hs : ∀ (k : IntKind) (n : Int) (k' : IntKind), P.underlying d = some (.int k') → ρ x = .int k n → (∃ ds, P.underlying s = some ds) →
      (execOp ρ { dst := dst, op := Go.Op.convert s d x, type := ty, pos := pos, after := after, guard := guard }).run P w = .ok (.value (.int k' (k'.wrap n))) w := by
      intro k n k' hd hx ⟨ds, hds⟩
      simp [execOp, hx, convert, run_underlying hd, run_underlying hds, Conv.intToInt]
    split at h
    · rename_i hd hx
      split at h
      · split at h
        · simp only [Option.some.injEq, Prod.mk.injEq] at h; obtain ⟨rfl, rfl⟩ := h
          rename_i hds _
          rw [hs _ _ _ hd hx ⟨_, hds⟩, wrap_in hp.1]
        · cases h
      · cases h
    · rename_i hd hx
      split at h
      · split at h
        · simp only [Option.some.injEq, Prod.mk.injEq] at h; obtain ⟨rfl, rfl⟩ := h
          rename_i hds _
          rw [hs _ _ _ hd hx ⟨_, hds⟩, wrap_in hp.1]
        · cases h
      · cases h
    · cases h
  · cases h
end Go.Sx
