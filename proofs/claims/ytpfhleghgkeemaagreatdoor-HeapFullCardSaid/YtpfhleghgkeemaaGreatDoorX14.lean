import Derived.Test.YtpfhleghgkeemaaGreatDoorX13
import Derived.Test.YtpfhleghgkeemaaGreatDoorRows
import Derived.WideShapes
/-! X14: what comes in, of any kind: numbers, truths, texts, structs, slices of them. -/
namespace Go.Sx
open Go
open Go.Proofs.YtpfhleghgkeemaaGreatDoor
set_option linter.unusedVariables false
set_option linter.unusedSimpArgs false

/-- A kind of thing that comes in: its cells, what is behind it in memory (D: it reads the blocks O alone), its bulk, what holds of it. -/
structure Shape (α : Type) where
  C : α → List Value
  D : α → World → Prop
  O : α → Nat → Prop
  B : α → Nat
  V : α → Prop
  one : ∀ x, One (C x)
  loc : ∀ x (w w' : World), (∀ k, O x k → w'.heap[k]? = w.heap[k]?) → D x w → D x w'
  lt : ∀ x (w : World) k, D x w → O x k → k < w.heap.size

def deepQ {α : Type} (S : Shape α) (x : α) : Oq where
  own := S.O x
  rw := False
  holds := S.D x
  loc := S.loc x
  lt := S.lt x
/-- What comes in, with all that is behind it, read alone. -/
def deep {α : Type} (S : Shape α) (x : α) : Ch := .op (deepQ S x)

def Opens {α : Type} (P : Program) (t : TypeId) (k : Nat) (S : Shape α) : Prop :=
  (∀ x, (S.C x).length = k) ∧ P.cellsOf t = k ∧ ∀ {H : Type} {enc : TypeId × Value → H} {W : World} {base : Nat} {held : Bool} (n : Nat) (cs : List Value) (y : DataW H × List MemPlace),
    DataW.trod enc P W base (fun _ => true) held n t cs = some y → ∃ x : α, cs = S.C x ∧ S.D x W ∧ S.B x ≤ Rows.uptoBulk y.1 ∧ S.V x

/-! ### plain ones -/
def intS (k : IntKind) : Shape Int where
  C := fun n => [.int k n]
  D := fun _ _ => True
  O := fun _ _ => False
  B := fun _ => 1
  V := fun n => (Lit.int k n).wf = true
  one := fun n => by simp [One, Value.oneCell']
  loc := fun _ _ _ _ h => h
  lt := fun _ _ _ _ h => h.elim
def boolS : Shape Bool where
  C := fun n => [.bool n]
  D := fun _ _ => True
  O := fun _ _ => False
  B := fun _ => 1
  V := fun _ => True
  one := fun n => by simp [One, Value.oneCell']
  loc := fun _ _ _ _ h => h
  lt := fun _ _ _ _ h => h.elim
def strS : Shape (List UInt8) where
  C := fun l => [.string (mkS l)]
  D := fun _ _ => True
  O := fun _ _ => False
  B := fun l => l.length + 1
  V := fun _ => True
  one := fun n => by simp [One, Value.oneCell']
  loc := fun _ _ _ _ h => h
  lt := fun _ _ _ _ h => h.elim
theorem bulk_pos {H : Type} (d : DataW H) : 1 ≤ Rows.uptoBulk d := by
  cases d with
  | lit q => cases q <;> simp [Rows.uptoBulk]
  | _ => simp [Rows.uptoBulk]
theorem opens_int {P : Program} {t : TypeId} {k : IntKind} (ht : P.underlying t = some (.int k)) (hc : P.cellsOf t = 1) : Opens P t 1 (intS k) :=
  ⟨fun _ => rfl, hc, fun n cs y h => by
    obtain ⟨v, rfl, rfl, hw⟩ := DataW.trod_int ht h
    exact ⟨v, rfl, trivial, bulk_pos _, hw⟩⟩
theorem opens_bool {P : Program} {t : TypeId} (ht : P.underlying t = some .bool) (hc : P.cellsOf t = 1) : Opens P t 1 boolS :=
  ⟨fun _ => rfl, hc, fun n cs y h => by
    obtain ⟨v, rfl, rfl⟩ := DataW.trod_bool ht h
    exact ⟨v, rfl, trivial, bulk_pos _, trivial⟩⟩
theorem opens_str {P : Program} {t : TypeId} (ht : P.underlying t = some .string) (hc : P.cellsOf t = 1) : Opens P t 1 strS :=
  ⟨fun _ => rfl, hc, fun n cs y h => by
    obtain ⟨v, rfl, rfl, hw⟩ := DataW.trod_string ht h
    exact ⟨v.data.toList, rfl, trivial, by simp [strS, Rows.uptoBulk], trivial⟩⟩

/-! ### one behind the other -/
def pairS {α β : Type} (S : Shape α) (T : Shape β) : Shape (α × β) where
  C := fun x => S.C x.1 ++ T.C x.2
  D := fun x w => S.D x.1 w ∧ T.D x.2 w
  O := fun x k => S.O x.1 k ∨ T.O x.2 k
  B := fun x => S.B x.1 + T.B x.2
  V := fun x => S.V x.1 ∧ T.V x.2
  one := fun x u hu => (List.mem_append.1 hu).elim (S.one _ u) (T.one _ u)
  loc := fun x w w' hk h => ⟨S.loc _ w w' (fun k h => hk k (.inl h)) h.1, T.loc _ w w' (fun k h => hk k (.inr h)) h.2⟩
  lt := fun x w k h ho => ho.elim (S.lt _ w k h.1) (T.lt _ w k h.2)
/-- As S, of bulk one more. -/
def upS {α : Type} (S : Shape α) : Shape α := { S with B := fun x => S.B x + 1 }

def OpensFs {α : Type} (P : Program) (off : Nat) (fs : List Field) (k : Nat) (S : Shape α) : Prop :=
  (∀ x, (S.C x).length = k) ∧ ∀ {H : Type} {enc : TypeId × Value → H} {W : World} {base : Nat} {held : Bool} (n : Nat) (cs : List Value) (xs : List (DataW H × List MemPlace)),
    cs.length = k → xs.length = fs.length → (∀ (i : Nat) (f : Field), fs[i]? = some f → DataW.trod enc P W base (fun _ => true) held n f.type ((cs.drop (f.offset - off)).take (P.cellsOf f.type)) = xs[i]?) →
    ∃ x : α, cs = S.C x ∧ S.D x W ∧ S.B x ≤ Rows.uptoBulkAll (xs.map (·.1)) ∧ S.V x
theorem opensFs_one {α : Type} {P : Program} {off : Nat} {f : Field} {k : Nat} {S : Shape α} (h : Opens P f.type k S) (ho : f.offset = off) : OpensFs P off [f] k S :=
  ⟨h.1, fun n cs xs hl hx hi => by
    obtain ⟨y, rfl⟩ : ∃ y, xs = [y] := by
      match xs, hx with
      | [y], _ => exact ⟨y, rfl⟩
    have h0 := hi 0 f rfl
    rw [ho, Nat.sub_self, List.drop_zero, h.2.1, List.take_of_length_le (by omega)] at h0
    obtain ⟨x, h1, h2, h3, h4⟩ := h.2.2 n cs y h0
    exact ⟨x, h1, h2, by simp only [List.map_cons, List.map_nil, Rows.uptoBulkAll]; omega, h4⟩⟩
theorem opensFs_cons {α β : Type} {P : Program} {off : Nat} {f : Field} {fs : List Field} {k m : Nat} {S : Shape α} {T : Shape β} (h : Opens P f.type k S) (ho : f.offset = off) (hf : fs.all (fun g => Nat.ble (off + k) g.offset) = true) (hT : OpensFs P (off + k) fs m T) : OpensFs P off (f :: fs) (k + m) (pairS S T) :=
  ⟨fun x => by simp only [pairS, List.length_append, h.1, hT.1], fun n cs xs hl hx hi => by
    obtain ⟨y, ys, rfl⟩ : ∃ y ys, xs = y :: ys := by
      match xs, hx with
      | y :: ys, _ => exact ⟨y, ys, rfl⟩
    have h0 := hi 0 f rfl
    rw [ho, Nat.sub_self, List.drop_zero, h.2.1] at h0
    obtain ⟨x, h1, h2, h3, h4⟩ := h.2.2 n _ y h0
    obtain ⟨z, g1, g2, g3, g4⟩ := hT.2 (W := _) n (cs.drop k) ys (by rw [List.length_drop]; omega) (by simpa using hx) (fun i g hg => by
      have h5 := hi (i + 1) g (by simpa using hg)
      have hge : off + k ≤ g.offset := Nat.le_of_ble_eq_true (List.all_eq_true.1 hf g (List.mem_of_getElem? hg))
      rw [List.drop_drop, show k + (g.offset - (off + k)) = g.offset - off by omega]
      simpa using h5)
    refine ⟨(x, z), ?_, ⟨h2, g2⟩, ?_, ⟨h4, g4⟩⟩
    · show cs = S.C x ++ T.C z
      rw [← h1, ← g1, List.take_append_drop]
    · simp only [List.map_cons, Rows.uptoBulkAll, pairS]; omega⟩
theorem opens_struct {α : Type} {P : Program} {t : TypeId} {fs : Array Field} {k : Nat} {S : Shape α} (ht : P.underlying t = some (.struct fs)) (hc : P.cellsOf t = k) (h : OpensFs P 0 fs.toList k S) : Opens P t k (upS S) :=
  ⟨h.1, hc, fun n cs y hy => by
    obtain ⟨xs, m, rfl, rfl, hl, hx, hi⟩ := DataW.trod_struct ht hy
    obtain ⟨x, h1, h2, h3, h4⟩ := h.2 m cs xs (hl.trans hc) (by simpa using hx) (fun i f hf => by
      have := hi i f (by simpa using hf)
      simpa using this)
    exact ⟨x, h1, h2, by simp only [Rows.uptoBulk, upS]; omega, h4⟩⟩

/-! ### slices -/
def sumB {α : Type} (S : Shape α) : List α → Nat
  | [] => 0
  | x :: r => S.B x + sumB S r
theorem sumB_le {α H : Type} (S : Shape α) : ∀ (l : List α) (ds : List (DataW H)), ds.length = l.length → (∀ (i : Nat) x, l[i]? = some x → ∃ y, ds[i]? = some y ∧ S.B x ≤ Rows.uptoBulk y) → sumB S l ≤ Rows.uptoBulkAll ds
  | [], _, _, _ => Nat.zero_le _
  | x :: r, ds, hl, h => by
    match ds, hl with
    | d :: ds, hl =>
      obtain ⟨y, hy, hb⟩ := h 0 x rfl
      simp only [List.getElem?_cons_zero, Option.some.injEq] at hy
      subst hy
      have := sumB_le S r ds (by simpa using hl) (fun i z hz => by simpa using h (i + 1) z (by simpa using hz))
      simp only [sumB, Rows.uptoBulkAll]; omega
theorem le_sumB {α : Type} (S : Shape α) (h : ∀ x, 1 ≤ S.B x) : ∀ l : List α, l.length ≤ sumB S l
  | [] => Nat.zero_le _
  | x :: r => by have := le_sumB S h r; have := h x; simp only [sumB, List.length_cons]; omega
theorem mem_sumB {α : Type} (S : Shape α) : ∀ (l : List α) (x : α), x ∈ l → S.B x ≤ sumB S l
  | y :: r, x, h => by
    simp only [sumB]
    rcases List.mem_cons.1 h with rfl | h
    · omega
    · have := mem_sumB S r x h; omega

/-- A slice: its address, its capacity, its elements. -/
abbrev Sl (α : Type) := Option Addr × Nat × List α
def sliceS {α : Type} (S : Shape α) : Shape (Sl α) where
  C := fun x => [.slice x.1 x.2.2.length x.2.1]
  D := fun x w => roH x.1 (x.2.2.flatMap S.C) w ∧ ∀ y ∈ x.2.2, S.D y w
  O := fun x k => (rowOwn x.1 k ∧ x.2.2.flatMap S.C ≠ []) ∨ ∃ y ∈ x.2.2, S.O y k
  B := fun x => sumB S x.2.2 + 1
  V := fun x => (x.1 = none → x.2.2 = []) ∧ x.2.2.length ≤ x.2.1 ∧ x.2.1 ≤ maxLen ∧ ∀ y ∈ x.2.2, S.V y
  one := fun n => by simp [One, Value.oneCell']
  loc := fun x w w' hk h => ⟨(roQ x.1 (x.2.2.flatMap S.C)).loc w w' (fun k h => hk k (.inl h)) h.1, fun y hy => S.loc y w w' (fun k h => hk k (.inr ⟨y, hy, h⟩)) (h.2 y hy)⟩
  lt := fun x w k h ho => ho.elim (fun ho => (roQ x.1 (x.2.2.flatMap S.C)).lt w k h.1 ho) fun ⟨y, hy, ho⟩ => S.lt y w k (h.2 y hy) ho
theorem opens_slice {α : Type} {P : Program} {t e : TypeId} {k : Nat} {S : Shape α} (ht : P.underlying t = some (.slice e)) (hc : P.cellsOf t = 1) (h : Opens P e k S) : Opens P t 1 (sliceS S) :=
  ⟨fun _ => rfl, hc, fun {H enc W base held} n cs y hy => by
    have hkey : ∀ (a : Option Addr) (len cap : Nat), cs = [.slice a len cap] → len ≤ cap → cap ≤ maxLen → ∃ x : Sl α, cs = (sliceS S).C x ∧ (sliceS S).D x W ∧ (sliceS S).B x ≤ Rows.uptoBulk y.1 ∧ (sliceS S).V x := by
      intro a len cap hcs hlc hcm
      subst hcs
      obtain ⟨l, rfl, hn, hro, ds, sp, hds, hd, hel⟩ := slice_in (H := H) (enc := enc) (base := base) (held := held) (W := W) S.C h.1 S.one ht h.2.1 (fun x d => S.D x W ∧ S.B x ≤ Rows.uptoBulk d ∧ S.V x)
        (fun n cs y hy => by obtain ⟨x, h1, h2, h3, h4⟩ := h.2.2 n cs y hy; exact ⟨x, h1, h2, h3, h4⟩) (a := a) (len := len) (cap := cap) (d := y.1) (p := y.2) (fuel := n) (by
          have : (Value.cells (.slice a len cap)).toList = [.slice a len cap] := rfl
          rw [this]; exact hy)
      have hmem : ∀ x ∈ l, S.D x W ∧ S.V x := fun x hx => by
        obtain ⟨i, hi⟩ := List.getElem?_of_mem hx
        obtain ⟨d, _, h1, _, h2⟩ := hel i x hi
        exact ⟨h1, h2⟩
      refine ⟨(a, cap, l), rfl, ⟨hro, fun x hx => (hmem x hx).1⟩, ?_, ⟨hn, hlc, hcm, fun x hx => (hmem x hx).2⟩⟩
      have hs := sumB_le S l ds (by rw [hds]) (fun i x hx => by obtain ⟨d, h1, _, h2, _⟩ := hel i x hx; exact ⟨d, h1, h2⟩)
      show sumB S l + 1 ≤ _
      rcases hd with hd | ⟨hd, rfl⟩
      · rw [hd]; simp only [Rows.uptoBulk]; omega
      · simp only [Rows.uptoBulkAll] at hs
        have := bulk_pos y.1
        omega
    rcases DataW.trod_slice ht hy with ⟨hcs, hx⟩ | ⟨ad, l, c, elems, rest, m, _, hcs, hx, hb, hl, hm, _⟩
    · exact hkey none 0 0 hcs (Nat.le_refl _) (Nat.zero_le _)
    · exact hkey (some ad) l c hcs hl hm⟩

/-! ### views -/
theorem view_fst {α β : Type} {S : Shape α} {T : Shape β} {x : α × β} : View (deep (pairS S T) x) (deep S x.1) := ⟨fun w h => h.1, fun w h k hk => .inl hk, fun h => h⟩
theorem view_snd {α β : Type} {S : Shape α} {T : Shape β} {x : α × β} : View (deep (pairS S T) x) (deep T x.2) := ⟨fun w h => h.2, fun w h k hk => .inr hk, fun h => h⟩
theorem view_up {α : Type} {S : Shape α} {x : α} : View (deep (upS S) x) (deep S x) := ⟨fun w h => h, fun w h k hk => hk, fun h => h⟩
theorem view_flat {α : Type} {S : Shape α} {x : Sl α} : View (deep (sliceS S) x) (ro x.1 (x.2.2.flatMap S.C)) := ⟨fun w h => h.1, fun w h k hk => .inl hk, fun h => h⟩
theorem view_elem {α : Type} {S : Shape α} {x : Sl α} {y : α} (hy : y ∈ x.2.2) : View (deep (sliceS S) x) (deep S y) := ⟨fun w h => h.2 y hy, fun w h k hk => .inr ⟨y, hy, hk⟩, fun h => h⟩
/-- Plain ones have nothing behind them. -/
theorem flat_ints (l : List Int) : l.flatMap (intS .i64).C = ints l := by
  induction l with
  | nil => rfl
  | cons x r ih => rw [List.flatMap_cons, ih]; rfl
theorem hs_deep {α : Type} {S : Shape α} {x : α} {w : World} (h : S.D x w) : HS [deep S x] w := ⟨fun c hc => by rw [List.mem_singleton.1 hc]; exact h, by simp⟩
theorem wf_i64 {n : Int} (h : (intS .i64).V n) : -9223372036854775808 ≤ n ∧ n ≤ 9223372036854775807 := by
  have h2 : (Lit.int .i64 n).wf = true := h
  simpa [Lit.wf, IntKind.min, IntKind.max, IntKind.signed, IntKind.bits] using h2
end Go.Sx
namespace Go.Sx
open Go
set_option linter.unusedVariables false in
theorem Does.pre {P : Program} {f : FuncId} {args : List Value} {pre pre' : Hp} {R : Value → Hp → Prop} (h : Does P f args pre' R) (hs : ∀ w, HS pre w → HS pre' w) (hf : ∀ k, foot pre' k → foot pre k) : Does P f args pre R := fun w hw =>
  (h w (hs w hw)).mono fun e w' ⟨v, hp', hR, he, h1, h2, h3, h4⟩ => ⟨v, hp', hR, he, h1, ⟨h2.os, h2.tape, h2.output, h2.size, fun k hk hn => h2.block k hk (fun hh => hn (hf k hh))⟩, fun c hc hr k hk => (h3 c hc hr k hk).imp (hf k) id, h4⟩
theorem val_agg {v : Value} {cs : Array Value} {l : List Value} (h : v = .agg cs) (hc : v.cells.toList = l) : v = .agg l.toArray := by
  subst h
  have h2 : cs.toList = l := hc
  rw [← h2]
theorem val_one {v u : Value} (h : ∀ cs, v ≠ .agg cs) (hc : v.cells.toList = [u]) : v = u := by
  cases v <;> first | exact absurd rfl (h _) | (simp [Value.cells] at hc; exact hc)
/-- What comes in is read alone: chunks of it stand side by side. -/
theorem hs_ro {hp : Hp} {w : World} (h : ∀ c ∈ hp, c.holds w) (hr : ∀ c ∈ hp, ¬ c.rw) : HS hp w :=
  ⟨h, by
    induction hp with
    | nil => exact .nil
    | cons c r ih => exact List.pairwise_cons.2 ⟨fun d hd => .inl ⟨hr c (by simp), hr d (List.mem_cons_of_mem _ hd)⟩, ih (fun d hd => h d (List.mem_cons_of_mem _ hd)) (fun d hd => hr d (List.mem_cons_of_mem _ hd))⟩⟩
end Go.Sx
