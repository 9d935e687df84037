import Derived.Test.YtpfhleghgkeemaaGreatDoorX15
import Derived.ChangeKeysEq
/-! X16: a slice as an array; arrays compared. -/
namespace Go.Sx
open Go
set_option linter.unusedVariables false
set_option linter.unusedSimpArgs false
variable {P : Program} {Γ : Cx} {Q : Exit → Act → World → Prop} {s : St}

def arrOf (ops : Array Oper) (nt i : Nat) (fr : Fr) : Option (TypeId × Value × Option Nat) :=
  match opAt ops nt i fr with
  | some o => match o.op with | .sliceToArrayPointer t x => some (t, ev fr x, o.dst) | _ => none
  | none => none
def arrLen (P : Program) (t : TypeId) : Option Nat := match P.underlying t with | some (.array n _) => some n | _ => none
theorem s2ap {ops : Array Oper} {i : Nat} {t : TypeId} {a : Option Addr} {m c n : Nat} {dst : Option Nat} (hc : arrOf ops Γ.nt i s.fr = some (t, .slice a m c, dst)) (ht : arrLen Γ.P t = some n) (h : n ≤ m) :
    Step Γ ops i s (fun s' => s' = ⟨putFr s.fr dst (.pointer a), s.hp⟩) := by
  unfold arrOf at hc
  split at hc
  case h_2 => cases hc
  case h_1 o ho =>
    split at hc
    case h_2 => cases hc
    case h_1 t' x hop =>
      simp only [Option.some.injEq, Prod.mk.injEq] at hc
      obtain ⟨rfl, hx, rfl⟩ := hc
      unfold arrLen at ht
      split at ht
      case h_2 => cases ht
      case h_1 n' e hu =>
        simp only [Option.some.injEq] at ht
        subst ht
        exact fun Q b' w hS K hK => step_sem ho (fun v hp' => v = .pointer a ∧ hp' = s.hp) (fun w hw => ⟨_, _, _, w, by
          simp only [execOp, hop, hx, Instr.arrayAt, Sem.run_bind, run_underlying hu, Sem.run_pure, Result.andThen_ok]
          rw [if_neg (by omega)]
          simp, .inl rfl, ⟨rfl, rfl⟩, hw, Ext.refl _ _, Bd.self _ _⟩) Q b' w hS K
          (fun s' ⟨v, hp', ⟨h1, h2⟩, h3⟩ => hK s' (by rw [h3, h1, h2]))

theorem run_eqItems_u8 {w : World} {e : TypeId} (he : P.underlying e = some (.int .u8)) (d : Nat) (a b : List UInt8) : ∀ is : List Nat, (∀ i ∈ is, i < a.length ∧ i < b.length) →
    (Op.eqItems (d + 1) e 1 (u8s a).toArray (u8s b).toArray is).run P w = .ok (is.all fun i => a[i]? == b[i]?) w
  | [], _ => by simp [Op.eqItems]
  | i :: is, h => by
    obtain ⟨h1, h2⟩ := h i (by simp)
    have ih := run_eqItems_u8 (w := w) he d a b is (fun j hj => h j (by simp [hj]))
    have k1 : (part e (u8s a).toArray (i * 1)).run P w = .ok (.int .u8 (a[i].toNat : Int)) w := by
      simp [part, isAgg, run_underlying he, u8s, h1]
    have k2 : (part e (u8s b).toArray (i * 1)).run P w = .ok (.int .u8 (b[i].toNat : Int)) w := by
      simp [part, isAgg, run_underlying he, u8s, h2]
    have k3 : (Op.equalIn (d + 1) e (.int .u8 (a[i].toNat : Int)) (.int .u8 (b[i].toNat : Int))).run P w = .ok ((a[i].toNat : Int) == (b[i].toNat : Int)) w := by
      simp [Op.equalIn, run_underlying he]
    have k4 : ((a[i].toNat : Int) == (b[i].toNat : Int)) = (a[i]? == b[i]?) := by
      rw [List.getElem?_eq_getElem h1, List.getElem?_eq_getElem h2]
      by_cases hab : a[i] = b[i]
      · simp [hab]
      · have : ¬ (a[i].toNat = b[i].toNat) := fun hh => hab (UInt8.toNat_inj.1 hh)
        have e1 : ((a[i].toNat : Int) == (b[i].toNat : Int)) = false := by simp; omega
        rw [e1]; simp [hab]
    simp only [Op.eqItems, Sem.run_bind, k1, k2, k3, Result.andThen_ok, k4, List.all_cons]
    cases hq : (a[i]? == b[i]?)
    · simp
    · simp [ih]
theorem all_range_eq (a b : List UInt8) (h : a.length = b.length) : ((List.range a.length).all fun i => a[i]? == b[i]?) = decide (a = b) := by
  rw [Bool.eq_iff_iff]
  simp only [List.all_eq_true, List.mem_range, beq_iff_eq, decide_eq_true_eq]
  constructor
  · intro hh
    apply List.ext_getElem? 
    intro i
    rcases Nat.lt_or_ge i a.length with hi | hi
    · exact hh i hi
    · rw [List.getElem?_eq_none hi, List.getElem?_eq_none (by omega)]
  · rintro rfl i _; rfl
def neqOf (ops : Array Oper) (nt i : Nat) (fr : Fr) : Option (TypeId × Value × Value × Option Nat) :=
  match opAt ops nt i fr with
  | some o => match o.op with | .binOp .neq t x y _ => some (t, ev fr x, ev fr y, o.dst) | _ => none
  | none => none
def u8Arr (P : Program) (t : TypeId) : Option Nat := match P.underlying t with
  | some (.array n e) => match P.underlying e, P.info? e with
    | some (.int .u8), some i => if i.size = 1 ∧ P.eqGuardType P.depth t = false then some n else none
    | _, _ => none
  | _ => none
theorem sneq {ops : Array Oper} {i : Nat} {t : TypeId} {a b : List UInt8} {n : Nat} {dst : Option Nat} (hc : neqOf ops Γ.nt i s.fr = some (t, .agg (u8s a).toArray, .agg (u8s b).toArray, dst)) (ht : u8Arr Γ.P t = some n) (ha : a.length = n) (hb : b.length = n) :
    Step Γ ops i s (fun s' => s' = ⟨putFr s.fr dst (.bool (!decide (a = b))), s.hp⟩) := by
  unfold neqOf at hc
  split at hc
  case h_2 => cases hc
  case h_1 o ho =>
    split at hc
    case h_2 => cases hc
    case h_1 t' x y r hop =>
      simp only [Option.some.injEq, Prod.mk.injEq] at hc
      obtain ⟨rfl, hx, hy, rfl⟩ := hc
      unfold u8Arr at ht
      split at ht
      case h_2 => cases ht
      case h_1 n' e hu =>
        split at ht
        case h_2 => cases ht
        case h_1 inf hue hi =>
          split at ht
          case isFalse => cases ht
          case isTrue hz =>
            simp only [Option.some.injEq] at ht
            subst ht
            have hcell : Γ.P.cellsOf e = 1 := by simp [Program.cellsOf, hi, hz.1]
            refine fun Q b' w hS K hK => step_sem ho (fun v hp' => v = .bool (!decide (a = b)) ∧ hp' = s.hp) (fun w hw => ⟨_, _, _, w, ?_, .inl rfl, ⟨rfl, rfl⟩, hw, Ext.refl _ _, Bd.self _ _⟩) Q b' w hS K
              (fun s' ⟨v, hp', ⟨h1, h2⟩, h3⟩ => hK s' (by rw [h3, h1, h2]))
            have h1 : (Op.equal t' (.agg (u8s a).toArray) (.agg (u8s b).toArray)).run Γ.P w = .ok (decide (a = b)) w := by
              show (Op.equalIn (9999 + 1) t' _ _).run Γ.P w = _
              rw [run_equalIn_array w 9999 _ _ hu hi, hcell]
              rw [show (9999 : Nat) = 9998 + 1 from rfl, run_eqItems_u8 hue 9998 a b _ (fun i hi => by rw [List.mem_range] at hi; omega)]
              rw [← ha, all_range_eq a b (by omega)]
            have h2 : (eqGuard .neq t' x y (.agg (u8s a).toArray) (.agg (u8s b).toArray)).run Γ.P w = .ok () w := by
              simp [eqGuard, hz.2]
            simp [execOp, hop, hx, hy, h2, binOp, h1]
end Go.Sx
