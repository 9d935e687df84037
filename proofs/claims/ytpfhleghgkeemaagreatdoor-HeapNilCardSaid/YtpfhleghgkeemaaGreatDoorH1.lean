import Derived.Test.YtpfhleghgkeemaaGreatDoorY3
import Derived.Test.YtpfhleghgkeemaaGreatDoorProg
namespace Go.Proofs.YtpfhleghgkeemaaGreatDoor
open Go Go.Sx
set_option linter.unusedVariables false
set_option linter.unusedSimpArgs false

/-! Values and objects, plain; their cells. -/
/-- A value: its kind, its number, its text. -/
structure V where
  k : Int
  n : Int
  s : List UInt8
deriving DecidableEq
def valC (v : V) : List Value := [.int .i64 v.k, .int .i64 v.n, .string (mkS v.s)]
def valV (v : V) : Value := .agg #[.int .i64 v.k, .int .i64 v.n, .string (mkS v.s)]
theorem valC_len (v : V) : (valC v).length = 3 := rfl
theorem mkS_inj {a b : List UInt8} (h : mkS a = mkS b) : a = b := by
  have h1 := congrArg (fun s : ByteArray => s.data.toList) h
  simpa [mkS] using h1
theorem valC_inj {a b : V} (h : valC a = valC b) : a = b := by
  obtain ⟨k, n, s⟩ := a
  obtain ⟨k', n', s'⟩ := b
  simp only [valC, List.cons.injEq, Value.int.injEq, true_and, Value.string.injEq, and_true] at h
  obtain ⟨rfl, rfl, h⟩ := h
  rw [mkS_inj h]
theorem valC_iff {a b : V} : valC a = valC b ↔ a = b := ⟨valC_inj, fun h => by rw [h]⟩
theorem vals_one (l : List V) : Sx.One (l.flatMap valC) := by
  intro u hu
  obtain ⟨v, _, hv⟩ := List.mem_flatMap.1 hu
  simp only [valC, List.mem_cons, List.not_mem_nil, or_false] at hv
  rcases hv with rfl | rfl | rfl <;> rfl
theorem vals_len (l : List V) : (l.flatMap valC).length = l.length * 3 := fm_len valC_len l
theorem vals_at {l : List V} {q : Nat} (hq : q < l.length) : ((l.flatMap valC).drop (q * 3)).take 3 = valC l[q] := fm_at valC_len hq
/-- An object, and where its cells lie. -/
structure Ob where
  tag : List UInt8
  a : Option Addr
  c : Nat
  cells : List V
def objC (o : Ob) : List Value := [.string (mkS o.tag), .slice o.a o.cells.length o.c]
def objV (o : Ob) : Value := .agg #[.string (mkS o.tag), .slice o.a o.cells.length o.c]
theorem objC_len (o : Ob) : (objC o).length = 2 := rfl
theorem objs_one (l : List Ob) : Sx.One (l.flatMap objC) := by
  intro u hu
  obtain ⟨v, _, hv⟩ := List.mem_flatMap.1 hu
  simp only [objC, List.mem_cons, List.not_mem_nil, or_false] at hv
  rcases hv with rfl | rfl <;> rfl
theorem objs_len (l : List Ob) : (l.flatMap objC).length = l.length * 2 := fm_len objC_len l
theorem objs_at {l : List Ob} {q : Nat} (hq : q < l.length) : ((l.flatMap objC).drop (q * 2)).take 2 = objC l[q] := fm_at objC_len hq
/-- Its cells, the function's own; its cells, read alone. -/
def obRow (o : Ob) : Ch := row 28 3 o.a o.cells.length o.c (o.cells.flatMap valC)
def obRo (o : Ob) : Ch := ro o.a (o.cells.flatMap valC)
theorem obRow_rw (l : List Ob) : ∀ c ∈ l.map obRow, c.rw := fun c hc => by
  obtain ⟨o, _, rfl⟩ := List.mem_map.1 hc; trivial
/-- An object, plain. -/
abbrev O := List UInt8 × List V
def Ob.o (o : Ob) : O := (o.tag, o.cells)
/-- Objects as they come in, and stay. -/
def obsRo (a : Option Addr) (l : List Ob) : Ch := ro a (l.flatMap objC)
def obsBag (l : List Ob) : Ch := bag (l.map obRo)
theorem view_obs {T n c : Nat} {a : Option Addr} {l : List Ob} : View (row T 2 a n c (l.flatMap objC)) (obsRo a l) := view_row
theorem view_obStar {l : List Ob} : View (star (l.map obRow)) (obsBag l) := view_star_sub fun c' hc' => by
  obtain ⟨o, ho, rfl⟩ := List.mem_map.1 hc'
  exact ⟨obRow o, List.mem_map.2 ⟨o, ho, rfl⟩, view_row.holds, view_row.own⟩
/-- The same, as the dev tool knows it. -/
def gBag (l : List Ob) : Ch := bag (l.map obRo)
theorem view_gBag {l : List Ob} : View (star (l.map obRow)) (gBag l) := view_obStar
theorem view_blk0 {g T : Nat} {l : List Value} (h1 : Sx.One l) : View (.blk g T l) (ro (some ⟨g, 0, none⟩) l) := by
  have h2 : (l.drop 0).take l.length = l := by rw [List.drop_zero, List.take_length]
  have h := view_blk (g := g) (T := T) (l := l) 0 l.length (by rw [h2]; exact h1)
  rw [h2] at h; exact h
end Go.Proofs.YtpfhleghgkeemaaGreatDoor
