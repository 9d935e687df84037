import Derived.Test.YtpfhleghgkeemaaGreatDoorX1
import Derived.Laws.AppendOwn
/-
  One operation of a region, by evaluation; a row of operations.
-/
namespace Go.Sx
open Go
set_option linter.unusedVariables false

def ev (fr : Fr) : Operand → Value
  | .tmp t => (look fr t).getD undef
  | .const v => v
  | .global g => .pointer (some ⟨g, 0, none⟩)
  | .func f => .func (.func f) #[] #[]

def knownOp (fr : Fr) (o : Oper) : Bool :=
  (o.op.operands.toList.all fun | .tmp t => (look fr t).isSome | _ => true) && (match o.op with | .select _ _ => false | _ => true)

def FrOk (fr : Fr) (a : Act) : Prop := ∀ i v, look fr i = some v → a.tmps.getD i undef = v

theorem ev_eq {fr : Fr} {a : Act} (h : FrOk fr a) {o : Oper} (hk : knownOp fr o = true) : execOp a.eval o = execOp (ev fr) o := by
  simp only [knownOp, Bool.and_eq_true] at hk
  refine execOp_congr o (fun cs b e => by rw [e] at hk; simp at hk) fun x hx => ?_
  cases x with
  | tmp t =>
    have := List.all_eq_true.1 hk.1 (.tmp t) (by simpa using hx)
    obtain ⟨v, hv⟩ := Option.isSome_iff_exists.1 this
    show a.tmps.getD t undef = (look fr t).getD undef
    rw [h t v hv, hv]; rfl
  | const v => rfl
  | global g => rfl
  | func f => rfl

/-- Is the operation carried out? none: it hangs on a test that is not known. -/
def wants (ops : Array Oper) (fr : Fr) (o : Oper) : Option Bool :=
  match o.guard with
  | none => some true
  | some (j, want) =>
    match (ops[j]?).bind (·.dst) with
    | none => none
    | some d => match look fr d with
      | some (.bool b) => some (b == want)
      | some (.tuple _) => some false
      | _ => none

theorem wants_ok {ops : Array Oper} {fr : Fr} {a : Act} (h : FrOk fr a) {o : Oper} {b : Bool} (hw : wants ops fr o = some b) :
    Region.wanted o (yielded ops a.tmps) = b := by
  unfold wants at hw
  unfold Region.wanted
  cases hg : o.guard with
  | none => rw [hg] at hw; simpa using hw
  | some p =>
    obtain ⟨j, want⟩ := p
    rw [hg] at hw
    simp only at hw ⊢
    cases hj : (ops[j]?).bind (·.dst) with
    | none => rw [hj] at hw; cases hw
    | some d =>
      rw [hj] at hw
      simp only at hw
      cases hl : look fr d with
      | none => rw [hl] at hw; cases hw
      | some v =>
        rw [hl] at hw
        cases v <;> simp only [Option.some.injEq] at hw <;> try cases hw
        case tuple.refl t =>
          have h1 := h d _ hl
          have hy : yielded ops a.tmps j = none := by
            unfold yielded
            cases hoj : ops[j]? with
            | none => rw [hoj] at hj; cases hj
            | some oj =>
              rw [hoj] at hj
              simp only [Option.bind_some] at hj
              simp only [Option.bind_some, hj]
              cases ht : a.tmps[d]? with
              | none => rfl
              | some u => simp [Array.getD_eq_getD_getElem?, ht] at h1; subst h1; rfl
          rw [hy]; cases want <;> rfl
        rename_i x
        have hy : yielded ops a.tmps j = some x := by
          have h1 := h d _ hl
          unfold yielded
          cases hoj : ops[j]? with
          | none => rw [hoj] at hj; cases hj
          | some oj =>
            rw [hoj] at hj
            simp only [Option.bind_some] at hj
            simp only [Option.bind_some, hj]
            cases ht : a.tmps[d]? with
            | none => simp [Array.getD_eq_getD_getElem?, ht, undef] at h1
            | some u => simp [Array.getD_eq_getD_getElem?, ht] at h1; subst h1; rfl
        rw [hy]
        cases x <;> cases want <;> rfl

theorem FrOk.put {fr : Fr} {a : Act} (h : FrOk fr a) {d : Nat} (hd : d < a.tmps.size) (v : Value) : FrOk ((d, v) :: fr) (a.put (some d) v) := by
  intro i u hi
  show ((a.tmps.setIfInBounds d v).getD i undef) = u
  unfold look at hi
  split at hi
  · rename_i e
    subst e
    simp only [Option.some.injEq] at hi
    subst hi
    simp [Array.getD, hd]
  · rename_i e
    have h1 := h i u hi
    rw [← h1]
    simp only [Array.getD_eq_getD_getElem?, Array.getElem?_setIfInBounds]
    rw [if_neg e]

def putFr (fr : Fr) (dst : Option Nat) (v : Value) : Fr := match dst with | some d => (d, v) :: fr | none => fr

/-! ### operations with a condition of their own -/
def AllP : List Prop → Prop
  | [] => True
  | p :: r => p ∧ AllP r
theorem allP_append {l r : List Prop} : AllP (l ++ r) ↔ AllP l ∧ AllP r := by
  induction l with
  | nil => simp [AllP]
  | cons p l ih => simp [AllP, ih, and_assoc]

/-- The byte at a place, as a number. -/
def bt (s : ByteArray) (i : Int) : Int := ((s.data.toList.getD i.toNat 0).toNat : Int)
/-- A text of bytes. -/
def mkS (l : List UInt8) : ByteArray := ⟨l.toArray⟩
theorem mkS_toList (l : List UInt8) : (mkS l).data.toList = l := rfl
theorem mkS_size (l : List UInt8) : (mkS l).size = l.length := rfl
theorem toNat_cast (n : Nat) : ((n : Int)).toNat = n := rfl
theorem data_mk (l : List UInt8) : (ByteArray.mk l.toArray).data.toList = l := rfl
/-- Where a slice of a slice begins (at its very end the address stays). -/
def sOff (off : Nat) (l m : Int) (sz : Nat) : Nat := if m = l then off else off + l.toNat * sz
def inI64 (x : Int) : Prop := -9223372036854775808 ≤ x ∧ x ≤ 9223372036854775807
def intAt (v : Value) : Option (IntKind × Int) := match v with | .int k n => some (k, n) | _ => none

/-- bounds of a slice expression: (low, high, max) and what is owed -/
def mxB (ρ : Operand → Value) (cap : Nat) (mx : Option Operand) : Option (Int × List Prop) :=
  match mx with | none => some ((cap : Int), ([] : List Prop)) | some x => match ρ x with | .int _ n => some (n, [0 ≤ n ∧ n ≤ (cap : Int)]) | _ => none
def hiB (ρ : Operand → Value) (len : Nat) (m : Int) (hi mx : Option Operand) : Option (Int × List Prop) :=
  match hi with | none => (match mx with | none => some ((len : Int), ([] : List Prop)) | some _ => none) | some x => match ρ x with | .int _ n => some (n, [0 ≤ n ∧ n ≤ m]) | _ => none
def loB (ρ : Operand → Value) (h m : Int) (pm ph : List Prop) (lo : Option Operand) : Option (Int × Int × Int × List Prop) :=
  match lo with | none => some ((0 : Int), h, m, pm ++ ph) | some x => match ρ x with | .int _ n => some (n, h, m, pm ++ ph ++ [0 ≤ n ∧ n ≤ h]) | _ => none
def bnds (ρ : Operand → Value) (len cap : Nat) (lo hi mx : Option Operand) : Option (Int × Int × Int × List Prop) :=
  match mxB ρ cap mx with
  | none => none
  | some (m, pm) =>
    match hiB ρ len m hi mx with
    | none => none
    | some (h, ph) => loB ρ h m pm ph lo

/-- 'md': sums, differences, products, and turned kinds of ints are owed to lie in int. -/
def special (P : Program) (md : Bool) (ρ : Operand → Value) (o : Go.Op) : Option (Value × List Prop) :=
  match o with
  | .index t x ix => match P.underlying t, ρ x, ρ ix with
    | some .string, .string s, .int _ i => some (.int .u8 (bt s i), [0 ≤ i ∧ i < (s.size : Int)])
    | _, _, _ => none
  | .indexAddr t x ix => match P.underlying t, ρ x, ρ ix with
    | some (.slice e), .slice (some a) len _, .int _ i =>
      match P.info? e, a.spot with
      | some inf, none => some (.pointer (some ⟨a.block, a.off + i.toNat * inf.size, none⟩), [0 ≤ i ∧ i < (len : Int)])
      | _, _ => none
    | some (.array n e), .pointer (some a), .int _ i =>
      match P.info? e, a.spot with
      | some inf, none => some (.pointer (some ⟨a.block, a.off + i.toNat * inf.size, none⟩), [0 ≤ i ∧ i < (n : Int)])
      | _, _ => none
    | _, _, _ => none
  | .slice t x lo hi mx => match P.underlying t, ρ x with
    | some .string, .string s => match mx, bnds ρ s.size s.size lo hi none with
      | none, some (l, h, _, ps) => some (.string (mkS ((s.data.toList.drop l.toNat).take (h - l).toNat)), ps)
      | _, _ => none
    | some (.slice e), .slice a len cap => match P.info? e, bnds ρ len cap lo hi mx with
      | some inf, some (l, h, m, ps) =>
        match lo with
        | none => some (.slice a h.toNat m.toNat, ps)
        | some _ => match a with
          | some a => match a.spot with
            | none => some (.slice (some ⟨a.block, sOff a.off l m inf.size, none⟩) (h - l).toNat (m - l).toNat, ps)
            | _ => none
          | none => some (.slice none (h - l).toNat (m - l).toNat, ps)
      | _, _ => none
    | some (.array n e), .pointer (some a) => match P.info? e, bnds ρ n n lo hi mx, a.spot with
      | some inf, some (l, h, m, ps), none => some (.slice (some ⟨a.block, sOff a.off l m inf.size, none⟩) (h - l).toNat (m - l).toNat, ps)
      | _, _, _ => none
    | _, _ => none
  | .binOp op t x y _ => match op, ρ x, ρ y with
    | .add, .int .i64 a, .int .i64 b => if md then some (.int .i64 (a + b), [inI64 (a + b)]) else none
    | .sub, .int .i64 a, .int .i64 b => if md then some (.int .i64 (a - b), [inI64 (a - b)]) else none
    | .mul, .int .i64 a, .int .i64 b => if md then some (.int .i64 (a * b), [inI64 (a * b)]) else none
    | .add, .string a, .string b => some (.string (mkS (a.data.toList ++ b.data.toList)), [a.size + b.size ≤ 9223372036854775807])
    | .quo, .int .i64 a, .int .i64 b => if md then some (.int .i64 (a.tdiv b), [b ≠ 0 ∧ inI64 (a.tdiv b)]) else some (.int .i64 (IntKind.wrap .i64 (a.tdiv b)), [b ≠ 0])
    | .quo, .int .u64 a, .int .u64 b => if md then some (.int .u64 (a.tdiv b), [b ≠ 0 ∧ 0 ≤ a.tdiv b ∧ a.tdiv b < 18446744073709551616]) else some (.int .u64 (IntKind.wrap .u64 (a.tdiv b)), [b ≠ 0])
    | .rem, .int k a, .int k' b => match k, k' with
      | .i64, .i64 => some (.int .i64 (a.tmod b), [b ≠ 0])
      | .u64, .u64 => some (.int .u64 (a.tmod b), [b ≠ 0])
      | .u32, .u32 => some (.int .u32 (a.tmod b), [b ≠ 0])
      | _, _ => none
    | .eql, .string a, .string b => some (.bool (decide (a.data.toList = b.data.toList)), [])
    | .neq, .string a, .string b => some (.bool (!decide (a.data.toList = b.data.toList)), [])
    | .shl, .int k a, .int _ b => some (.int k (k.wrap (a * 2 ^ (min b.toNat k.bits))), [0 ≤ b])
    | .shr, .int k a, .int _ b => some (.int k (a.fdiv (2 ^ (min b.toNat k.bits))), [0 ≤ b])
    | _, _, _ => none
  | .pick c x y => match ρ c, ρ x, ρ y with
    | .bool c, .bool x, .bool y => some (.bool (cond c x y), [])
    | .bool c, .int k x, .int k' y => match k, k' with
      | .i64, .i64 => some (.int .i64 (cond c x y), [])
      | _, _ => none
    | _, _, _ => none
  | .call c => match c.callee, c.args.toList, c.argTypes.toList with
    | .builtin .len, [x], [t] => match ρ x, P.underlying t with
      | .string s, some .string => some (.int .i64 (s.data.toList.length : Int), [])
      | _, _ => none
    | _, _, _ => none
  | .convert s d x => match P.underlying d, ρ x with
    | some (.int .i64), .int .i64 n => match P.underlying s with | some _ => (if md then some (.int .i64 n, [inI64 n]) else none) | none => none
    | some (.int .i64), .int .u8 n => match P.underlying s with | some _ => (if md then some (.int .i64 n, [inI64 n]) else none) | none => none
    | _, _ => none
  | _ => none

end Go.Sx
