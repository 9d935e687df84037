import Derived.Test.YtpfhleghgkeemaaGreatDoorX22
import Derived.LaidEqlPtr
import Derived.Lib.UnsafeStr
/-
  Pointers that are the same, compared; a text that shares a row of bytes (strings.Builder's String): the row is given up.
-/
namespace Go.Sx
open Go
set_option linter.unusedVariables false
variable {Γ : Cx} {s : St} {Q : Exit → Act → World → Prop}

def ptrTy (P : Program) (t : TypeId) : Bool := match P.underlying t with
  | some (.pointer te) => (P.info? te).isSome
  | _ => false
theorem step_eqp {ops : Array Oper} {i : Nat} {b : Bool} {t : TypeId} {ad : Addr} {dst : Option Nat} (hc : eqOf ops Γ.nt i s.fr = some (b, t, .pointer (some ad), .pointer (some ad), dst)) (ht : ptrTy Γ.P t = true) :
    Step Γ ops i s (fun s' => s' = ⟨putFr s.fr dst (.bool b), s.hp⟩) := by
  unfold ptrTy at ht
  split at ht
  case h_2 => cases ht
  case h_1 te hu =>
    obtain ⟨j, hj⟩ := Option.isSome_iff_exists.1 ht
    unfold eqOf at hc
    split at hc
    case h_2 => cases hc
    case h_1 o ho =>
      split at hc
      case h_3 => cases hc
      case h_1 t' x y k hop =>
        simp only [Option.some.injEq, Prod.mk.injEq] at hc
        obtain ⟨rfl, rfl, hxx, hyy, rfl⟩ := hc
        refine fun Q b' w hS K hK => step_sem ho (fun v hp' => v = .bool true ∧ hp' = s.hp) (fun w hw => ?_) Q b' w hS K
          (fun s' ⟨v, hp', ⟨h1, h2⟩, h3⟩ => hK s' (by rw [h3, h1, h2]))
        refine ⟨.value (.bool true), _, _, w, ?_, .inl rfl, ⟨rfl, rfl⟩, hw, Ext.refl _ _, Bd.self _ _⟩
        have h1 := run_eql_ptr_same (P := Γ.P) w ad hu hj
        have hg : (eqGuard .eql t' x y (.pointer (some ad)) (.pointer (some ad))).run Γ.P w = .ok () w := by simp [eqGuard]
        simp only [execOp, hop, hxx, hyy, Sem.run_bind, hg, h1, Sem.run_pure, Result.andThen_ok]
      case h_2 t' x y k hop =>
        simp only [Option.some.injEq, Prod.mk.injEq] at hc
        obtain ⟨rfl, rfl, hxx, hyy, rfl⟩ := hc
        refine fun Q b' w hS K hK => step_sem ho (fun v hp' => v = .bool false ∧ hp' = s.hp) (fun w hw => ?_) Q b' w hS K
          (fun s' ⟨v, hp', ⟨h1, h2⟩, h3⟩ => hK s' (by rw [h3, h1, h2]))
        refine ⟨.value (.bool false), _, _, w, ?_, .inl rfl, ⟨rfl, rfl⟩, hw, Ext.refl _ _, Bd.self _ _⟩
        have h1 := run_eql_ptr_same (P := Γ.P) w ad hu hj
        have hq : (Op.equal t' (.pointer (some ad)) (.pointer (some ad))).run Γ.P w = .ok true w := by
          simp only [binOp, Sem.run_bind] at h1
          cases hr : (Op.equal t' (.pointer (some ad)) (.pointer (some ad))).run Γ.P w with
          | ok r w' => rw [hr] at h1; simp only [Result.andThen_ok, Sem.run_pure] at h1; injection h1 with h2 h3; injection h2 with h2; subst h2 h3; rfl
          | _ => rw [hr] at h1; cases h1
        have hg : (eqGuard .neq t' x y (.pointer (some ad)) (.pointer (some ad))).run Γ.P w = .ok () w := by simp [eqGuard]
        simp only [execOp, hop, hxx, hyy, Sem.run_bind, hg, Sem.run_pure, Result.andThen_ok, binOp, hq]
        rfl
/-- A builtin of two arguments. -/
def usdOf (ops : Array Oper) (nt : Nat) (i : Nat) (fr : Fr) : Option (Value × Option Nat) :=
  match opAt ops nt i fr with
  | some o => match o.op with
    | .call c => match c.callee, c.args.toList, c.argTypes.toList with
      | .builtin .unsafeSliceData, [x], [_] => some (ev fr x, o.dst)
      | _, _, _ => none
    | _ => none
  | none => none
theorem step_usd {ops : Array Oper} {i : Nat} {ad : Addr} {n c : Nat} {dst : Option Nat} (hc : usdOf ops Γ.nt i s.fr = some (.slice (some ad) n c, dst)) (h0 : c ≠ 0) :
    Step Γ ops i s (fun s' => s' = ⟨putFr s.fr dst (.pointer (some ad)), s.hp⟩) := by
  unfold usdOf at hc
  split at hc
  case h_2 => cases hc
  case h_1 o ho =>
    split at hc
    case h_2 => cases hc
    case h_1 cl hop =>
      split at hc
      case h_2 => cases hc
      case h_1 a t hcal hargs hts =>
        simp only [Option.some.injEq, Prod.mk.injEq] at hc
        obtain ⟨ha, rfl⟩ := hc
        have e1 : cl.args = #[a] := by apply Array.ext'; simpa using hargs
        refine fun Q b' w hS K hK => step_sem ho (fun v hp' => v = .pointer (some ad) ∧ hp' = s.hp) (fun w hw => ?_) Q b' w hS K
          (fun s' ⟨v, hp', ⟨h1, h2⟩, h3⟩ => hK s' (by rw [h3, h1, h2]))
        refine ⟨.value (.pointer (some ad)), _, _, w, ?_, .inl rfl, ⟨rfl, rfl⟩, hw, Ext.refl _ _, Bd.self _ _⟩
        have h1 := Lib.run_unsafeSliceData_row (P := Γ.P) w cl.argTypes o.type ad n c h0
        simp only [execOp, hop, resolve, hcal, e1, invoke, builtin, Sem.run_bind, Sem.run_pure, Result.andThen_ok, List.map_toArray, List.map_cons, List.map_nil, ha]
        simp [h1]
def ustrOf (ops : Array Oper) (nt : Nat) (i : Nat) (fr : Fr) : Option (TypeId × Value × Value × Option Nat) :=
  match opAt ops nt i fr with
  | some o => match o.op with
    | .call c => match c.callee, c.args.toList, c.argTypes.toList with
      | .builtin .unsafeString, [x, y], [t, _] => some (t, ev fr x, ev fr y, o.dst)
      | _, _, _ => none
    | _ => none
  | none => none
def ustrTy (P : Program) (t T : TypeId) : Bool := match P.underlying t with
  | some (.pointer e) => e == T && P.cellsOf e == 1
  | _ => false
theorem liesAt_off {P : Program} {e : TypeId} (hc : P.cellsOf e = 1) (count off n : Nat) (hn : off + n ≤ count) : liesAt P P.depth e count off e n = true := by
  have hd : P.depth = (2 * (P.types.size + Made.depth) + 1) + 1 := rfl
  rw [hd]
  simp only [liesAt, Bool.or_eq_true]
  left
  rw [hd]
  simp [rowAt, hc, hn, sameLayout, Nat.mod_one]
theorem run_ustr {P : Program} (w : World) (pt it ty e : TypeId) (hp : P.underlying pt = some (.pointer e)) (hc : P.cellsOf e = 1) (g off cells : Nat) (hsh : w.shape? g = some (e, cells)) (l : List UInt8) (h0 : l ≠ []) (hn : off + l.length ≤ cells) (h63 : l.length ≤ 9223372036854775807)
    (hcell : ∀ j x, l[j]? = some x → w.cell? ((⟨g, off, none⟩ : Addr).add j) = some (.int .u8 x.toNat)) :
    (Builtin.unsafeString_ #[pt, it] ty #[.pointer (some ⟨g, off, none⟩), .int .i64 l.length]).run P w = .ok (.string ⟨l.toArray⟩) (w.freeze ⟨g, off, none⟩ l.length) := by
  have hl : l.length ≠ 0 := by simpa using h0
  have hlb := Lib.run_loadBytes (P := P) w l ⟨g, off, none⟩ .empty hcell
  have hlies := liesAt_off (P := P) hc (cells / P.cellsOf e) off l.length (by rw [hc]; simpa using hn)
  have h63' : ¬ (9223372036854775807 : Int) < (l.length : Int) := by omega
  have hdef : Builtin.unsafeString_ #[pt, it] ty #[.pointer (some ⟨g, off, none⟩), .int .i64 l.length] =
      (do
        let n ← asInt (.int .i64 l.length)
        if n < 0 then runtimePanic (.error "unsafe.String: len out of range")
        if n > IntKind.i64.max then unsupported (.unsafePointer "String: a length above the largest int")
        if n = 0 then pure (.string .empty)
        else if ← variablesAt ⟨g, off, none⟩ (← elemOf pt) n.toNat then do
          let s ← loadBytes ⟨g, off, none⟩ .empty n.toNat
          freeze ⟨g, off, none⟩ n.toNat
          pure (.string s)
        else unsupported (.unsafePointer "String: not so many bytes at ptr")) := rfl
  rw [hdef]
  have hmax : IntKind.i64.max = 9223372036854775807 := rfl
  have hneg : ¬ (l.length : Int) < 0 := by omega
  simp [asInt, asIntOf, hmax, h63', hneg, hl, variablesAt, hsh, elemOf, run_underlying hp, hlies, hlb]
theorem freeze_other {w : World} {g off n k : Nat} (hk : k ≠ g) : (w.freeze ⟨g, off, none⟩ n).heap[k]? = w.heap[k]? := by
  unfold World.freeze
  split
  · rfl
  · simp only [Array.getElem?_modify]
    rw [if_neg (fun e => hk e.symm)]
theorem freeze_rest {w : World} {ad : Addr} {n : Nat} : (w.freeze ad n).os = w.os ∧ (w.freeze ad n).tape = w.tape ∧ (w.freeze ad n).output = w.output ∧ (w.freeze ad n).heap.size = w.heap.size := by
  unfold World.freeze
  split
  · exact ⟨rfl, rfl, rfl, rfl⟩
  · exact ⟨rfl, rfl, rfl, by simp⟩
theorem step_ustr {ops : Array Oper} {i : Nat} {g off : Nat} {t : TypeId} {dst : Option Nat} {bs : List UInt8} (hc : ustrOf ops Γ.nt i s.fr = some (t, .pointer (some ⟨g, off, none⟩), .int .i64 (bs.length : Int), dst))
    (p : Nat) {T cap : Nat} (hp : s.hp[p]? = some (row T 1 (some ⟨g, off, none⟩) bs.length cap (u8s bs))) (ht : ustrTy Γ.P t T = true) (h0 : bs ≠ []) :
    Step Γ ops i s (fun s' => s' = ⟨putFr s.fr dst (.string (mkS bs)), s.hp.eraseIdx p⟩) := by
  unfold ustrTy at ht
  split at ht
  case h_2 => cases ht
  case h_1 e hu =>
    simp only [Bool.and_eq_true, beq_iff_eq] at ht
    obtain ⟨rfl, hco⟩ := ht
    unfold ustrOf at hc
    split at hc
    case h_2 => cases hc
    case h_1 o ho =>
      split at hc
      case h_2 => cases hc
      case h_1 cl hop =>
        split at hc
        case h_2 => cases hc
        case h_1 a b t' t2 hcal hargs hts =>
          simp only [Option.some.injEq, Prod.mk.injEq] at hc
          obtain ⟨rfl, ha, hb, rfl⟩ := hc
          have e1 : cl.args = #[a, b] := by apply Array.ext'; simpa using hargs
          have e2 : cl.argTypes = #[t', t2] := by apply Array.ext'; simpa using hts
          refine fun Q b' w hS K hK => step_sem ho (fun v hp' => v = .string (mkS bs) ∧ hp' = s.hp.eraseIdx p) (fun w hw => ?_) Q b' w hS K
            (fun s' ⟨v, hp', ⟨h1, h2⟩, h3⟩ => hK s' (by rw [h3, h1, h2]))
          obtain ⟨hpl, hpe⟩ := List.getElem?_eq_some_iff.1 hp
          have hper := perm_erase s.hp p hpl
          rw [hpe] at hper
          have hw2 := hw.perm hper
          have hrow := hw2.holds _ (List.mem_cons_self ..)
          have hap := (List.pairwise_cons.1 hw2.apart).1
          obtain ⟨k1, k2, k3, k4, k5⟩ := hrow
          rcases k5 with ⟨hz, _⟩ | ⟨g', off', cur, fz, hg', hcur, hroom, hx, hfz⟩
          · exfalso
            have : bs.length = 0 := by omega
            exact h0 (List.eq_nil_of_length_eq_zero this)
          · cases hg'
            have hcap : 0 < cap := by
              have : 0 < bs.length := List.length_pos_iff.2 h0
              omega
            have hrun := run_ustr (P := Γ.P) w t' t2 o.type e hu hco g off cur.size (by unfold World.shape?; rw [hcur]) bs h0 (by omega) (by
              have : maxLen ≤ 9223372036854775807 := by decide
              omega) (fun j x hj => by
                have hadd : (⟨g, off, none⟩ : Addr).add j = ⟨g, off + j, none⟩ := by unfold Addr.add; split <;> simp_all
                have hjl := (List.getElem?_eq_some_iff.1 hj).1
                rw [hadd]
                unfold World.cell?
                simp only [hcur]
                have h1 : ((cur.toList.drop off).take (bs.length * 1))[j]? = (u8s bs)[j]? := by rw [hx]
                rw [List.getElem?_take, if_pos (by omega), List.getElem?_drop] at h1
                have h2 : (u8s bs)[j]? = some (.int .u8 x.toNat) := by unfold u8s; rw [List.getElem?_map, hj]; rfl
                rw [h2] at h1
                simpa using h1)
            obtain ⟨f1, f2, f3, f4⟩ := freeze_rest (w := w) (ad := ⟨g, off, none⟩) (n := bs.length)
            refine ⟨.value (.string (mkS bs)), _, _, w.freeze ⟨g, off, none⟩ bs.length, ?_, .inl rfl, ⟨rfl, rfl⟩, ⟨fun c hcm => ?_, (List.pairwise_cons.1 hw2.apart).2⟩, ⟨f1, f2, f3, by rw [f4]; exact Nat.le_refl _, fun k hk hf => freeze_other fun e => hf ⟨_, List.mem_of_getElem? hp, trivial, hcap, _, rfl, e.symm⟩⟩, fun c hcm hcr k hk => .inl ⟨c, List.mem_of_mem_eraseIdx hcm, hcr, hk⟩⟩
            · simp only [execOp, hop, resolve, hcal, e1, e2, invoke, builtin, Sem.run_bind, Sem.run_pure, Result.andThen_ok, List.map_toArray, List.map_cons, List.map_nil, ha, hb]
              rw [hrun]
              rfl
            · refine c.loc (fun k hk => freeze_other fun e => ?_) (hw2.holds c (List.mem_cons_of_mem _ hcm))
              rcases hap c hcm with ⟨h5, _⟩ | h5
              · exact h5 trivial
              · exact h5 k ⟨hcap, _, rfl, e.symm⟩ hk
/-! Records compared: one check for all that the laws ask. -/
def eqChk (P : Program) (t : TypeId) (xs ys : List Value) : Bool := match eqTy P t with
  | some fs => fitsFs P fs 0 xs && fitsFs P fs 0 ys
  | none => false
theorem eqChk_spec {P : Program} {t : TypeId} {xs ys : List Value} (h : eqChk P t xs ys = true) : ∃ fs, eqTy P t = some fs ∧ fitsFs P fs 0 xs = true ∧ fitsFs P fs 0 ys = true := by
  unfold eqChk at h
  split at h
  · rename_i fs hfs
    simp only [Bool.and_eq_true] at h
    exact ⟨fs, hfs, h.1, h.2⟩
  · cases h
theorem wpr_eqc {ops : Array Oper} {i : Nat} {l₂ : List Nat} {b : Bool} {t : TypeId} {xs ys : List Value} {dst : Option Nat} (hc : eqOf ops Γ.nt i s.fr = some (b, t, .agg xs.toArray, .agg ys.toArray, dst)) (hk : eqChk Γ.P t xs ys = true)
    (h : ∀ r : Bool, (r = true ↔ xs = ys) → WpR Γ ops l₂ ⟨putFr s.fr dst (.bool (if b then r else !r)), s.hp⟩ Q) : WpR Γ ops (i :: l₂) s Q := by
  obtain ⟨fs, h1, h2, h3⟩ := eqChk_spec hk
  exact wpr_eqs hc h1 h2 h3 h
theorem wpa_eqc {ops : Array Oper} {hs : Hp} {li : Array Bool} {i n : Nat} (hr : Region.ready .any ops li = [i]) {b : Bool} {t : TypeId} {xs ys : List Value} {dst : Option Nat} (hc : eqOf ops Γ.nt i s.fr = some (b, t, .agg xs.toArray, .agg ys.toArray, dst)) (hk : eqChk Γ.P t xs ys = true) (hsub : Sub hs s.hp)
    (h : ∀ r : Bool, (r = true ↔ xs = ys) → WpA Γ ops hs n (li.setIfInBounds i true) ⟨putFr s.fr dst (.bool (if b then r else !r)), s.hp⟩ Q) : WpA Γ ops hs (n + 1) li s Q := by
  obtain ⟨fs, h1, h2, h3⟩ := eqChk_spec hk
  exact wpa_eqs hr hc h1 h2 h3 hsub h
/-- The same record on both sides. -/
theorem wpr_eqc_same {ops : Array Oper} {i : Nat} {l₂ : List Nat} {b : Bool} {t : TypeId} {xs : List Value} {dst : Option Nat} (hc : eqOf ops Γ.nt i s.fr = some (b, t, .agg xs.toArray, .agg xs.toArray, dst)) (hk : eqChk Γ.P t xs xs = true)
    (h : WpR Γ ops l₂ ⟨putFr s.fr dst (.bool b), s.hp⟩ Q) : WpR Γ ops (i :: l₂) s Q :=
  wpr_eqc hc hk fun r hr => by
    obtain rfl : r = true := hr.2 rfl
    cases b <;> exact h
theorem wpa_eqc_same {ops : Array Oper} {hs : Hp} {li : Array Bool} {i n : Nat} (hr : Region.ready .any ops li = [i]) {b : Bool} {t : TypeId} {xs : List Value} {dst : Option Nat} (hc : eqOf ops Γ.nt i s.fr = some (b, t, .agg xs.toArray, .agg xs.toArray, dst)) (hk : eqChk Γ.P t xs xs = true) (hsub : Sub hs s.hp)
    (h : WpA Γ ops hs n (li.setIfInBounds i true) ⟨putFr s.fr dst (.bool b), s.hp⟩ Q) : WpA Γ ops hs (n + 1) li s Q :=
  wpa_eqc hr hc hk hsub fun r hr => by
    obtain rfl : r = true := hr.2 rfl
    cases b <;> exact h
end Go.Sx
