import Derived.Test.YtpfhleghgkeemaaGreatDoorY1
import Derived.Lib.AppendStr
import Derived.Laws.IdiomCopy
import Derived.ArgAppend
import Derived.Laws.Cells
import Derived.Laws.BytesString
import Derived.Lib.ConvBytes
import Derived.ChangeArms
import Derived.DataReads
import Derived.DataElems
import Derived.Test.YtpfhleghgkeemaaGreatDoorRows
import Derived.WideShapes
import Derived.ChangeKeysEq
set_option linter.unusedVariables false
set_option linter.unusedSimpArgs false
/-
  Rows (a slice's own cells), cells that are read alone, append.
-/
namespace Go.Sx
open Go

/-- These cells lie from the address on. -/
def cellsAt (w : World) (a : Addr) (xs : List Value) : Prop := ∀ j u, xs[j]? = some u → w.cell? (a.add j) = some u
def One (xs : List Value) : Prop := ∀ u ∈ xs, u.oneCell' = true

/-- A slice value (its address a, its length n, its capacity cap) and the row that it alone may write: sz cells an element; the first n elements are xs. -/
def rowH (T sz : Nat) (a : Option Addr) (n cap : Nat) (xs : List Value) (w : World) : Prop :=
  xs.length = n * sz ∧ n ≤ cap ∧ cap ≤ maxLen ∧ One xs ∧
    ((cap = 0 ∧ ∀ ad, a = some ad → ad.spot = none) ∨ ∃ g off cur fz, a = some ⟨g, off, none⟩ ∧ w.heap[g]? = some (.cells cur T fz) ∧ off + cap * sz ≤ cur.size ∧ (cur.toList.drop off).take (n * sz) = xs ∧ ∀ o, o < cur.size → ¬ (fz.1 ≤ o ∧ o < fz.2))

def rowOwn (a : Option Addr) (k : Nat) : Prop := ∃ ad, a = some ad ∧ ad.block = k

def rowQ (T sz : Nat) (a : Option Addr) (n cap : Nat) (xs : List Value) : Oq where
  own := fun k => 0 < cap ∧ rowOwn a k
  rw := True
  holds := rowH T sz a n cap xs
  loc := fun w w' hk ⟨h1, h2, h3, h4, h5⟩ => ⟨h1, h2, h3, h4, by
    rcases Nat.eq_zero_or_pos cap with hc | hc
    · refine .inl ⟨hc, fun ad had => ?_⟩
      rcases h5 with h | ⟨g, off, cur, fz, ha, _⟩
      · exact h.2 ad had
      · rw [ha] at had; cases had; rfl
    · rcases h5 with h | ⟨g, off, cur, fz, ha, hg, hr⟩
      · omega
      · exact .inr ⟨g, off, cur, fz, ha, (hk g ⟨hc, _, ha, rfl⟩).trans hg, hr⟩⟩
  lt := fun w k ⟨h1, h2, h3, h4, h5⟩ ⟨hp, ad, ha, hk⟩ => by
    rcases h5 with ⟨h, _⟩ | ⟨g, off, cur, fz, ha', hg, _⟩
    · omega
    · rw [ha'] at ha; cases ha; rw [← hk]; exact lt_of_get hg
def row (T sz : Nat) (a : Option Addr) (n cap : Nat) (xs : List Value) : Ch := .op (rowQ T sz a n cap xs)

/-- Cells that are read alone. -/
def roH (a : Option Addr) (xs : List Value) (w : World) : Prop := One xs ∧ match a with | none => xs = [] | some ad => cellsAt w ad xs
def roQ (a : Option Addr) (xs : List Value) : Oq where
  own := fun k => rowOwn a k ∧ xs ≠ []
  rw := False
  holds := roH a xs
  loc := fun w w' hk ⟨h1, h2⟩ => ⟨h1, by
    cases a with
    | none => exact h2
    | some ad =>
      intro j u hu
      have hne : xs ≠ [] := by rintro rfl; simp at hu
      have hb : (ad.add j).block = ad.block := by unfold Addr.add; split <;> rfl
      rw [World.cell?_of_block (w := w) (hb ▸ hk ad.block ⟨⟨ad, rfl, rfl⟩, hne⟩)]
      exact h2 j u hu⟩
  lt := fun w k ⟨h1, h2⟩ ⟨⟨ad, ha, hk⟩, hne⟩ => by
    subst ha
    cases xs with
    | nil => exact absurd rfl hne
    | cons u r =>
      have h := h2 0 u rfl
      have e0 : ad.add 0 = ad := rfl
      rw [e0] at h
      rw [← hk]
      unfold World.cell? at h
      split at h
      · rename_i hg; exact lt_of_get hg
      · cases h
def ro (a : Option Addr) (xs : List Value) : Ch := .op (roQ a xs)

theorem row_cells {T sz : Nat} {g off : Nat} {n cap : Nat} {xs : List Value} {w : World} (h : rowH T sz (some ⟨g, off, none⟩) n cap xs w) : cellsAt w ⟨g, off, none⟩ xs := by
  obtain ⟨h1, h2, h3, h4, h5⟩ := h
  rcases h5 with ⟨h, _⟩ | ⟨g', off', cur, fz, ha, hg, hr, hx, hfz⟩
  · intro j u hu
    have hj := (List.getElem?_eq_some_iff.1 hu).1
    have hn : n = 0 := by omega
    subst hn
    rw [h1] at hj; simp at hj
  · cases ha
    intro j u hu
    have hj : j < n * sz := by rw [← h1]; exact (List.getElem?_eq_some_iff.1 hu).1
    rw [← hx, List.getElem?_take, if_pos hj, List.getElem?_drop] at hu
    have hadd : (⟨g, off, none⟩ : Addr).add j = ⟨g, off + j, none⟩ := by unfold Addr.add; split <;> simp_all
    rw [hadd]
    simp only [World.cell?, hg]
    simpa using hu

theorem view_row {T sz : Nat} {a : Option Addr} {n cap : Nat} {xs : List Value} : View (row T sz a n cap xs) (ro a xs) where
  holds := fun w h => by
    obtain ⟨h1, h2, h3, h4, h5⟩ := id h
    refine ⟨h4, ?_⟩
    rcases h5 with ⟨hc, _⟩ | ⟨g, off, cur, fz, rfl, _⟩
    · have hx : xs = [] := List.eq_nil_of_length_eq_zero (by rw [h1]; have : n = 0 := by omega
                                                             subst this; simp)
      subst hx
      cases a with
      | none => rfl
      | some ad => intro j u hu; simp at hu
    · exact row_cells h
  own := fun w h k hk => by
    obtain ⟨h1, h2, h3, h4, h5⟩ := h
    refine ⟨?_, hk.1⟩
    rcases Nat.eq_zero_or_pos cap with hc | hc
    · have hn : n = 0 := by omega
      subst hn
      exact absurd (List.eq_nil_of_length_eq_zero (by rw [h1]; simp)) hk.2
    · exact hc
  ro := fun h => h

theorem view_ro {a : Option Addr} {xs : List Value} : View (ro a xs) (ro a xs) := ⟨fun _ h => h, fun _ _ _ h => h, fun h => h⟩

/-- A whole block seen as a slice over a part of it. -/
theorem view_blk {g T : Nat} {l : List Value} (off k : Nat) (h1 : One ((l.drop off).take k)) : View (.blk g T l) (ro (some ⟨g, off, none⟩) ((l.drop off).take k)) where
  holds := fun w h => ⟨h1, fun j u hu => by
    have hadd : (⟨g, off, none⟩ : Addr).add j = ⟨g, off + j, none⟩ := by unfold Addr.add; split <;> simp_all
    rw [hadd, cell_blk h _ rfl rfl]
    rw [List.getElem?_take] at hu
    split at hu
    · rwa [List.getElem?_drop] at hu
    · cases hu⟩
  own := fun _ _ k ⟨⟨ad, ha, hk⟩, _⟩ => by cases ha; exact hk.symm
  ro := fun h => h

theorem view_part {a : Addr} {xs : List Value} (i k : Nat) : View (ro (some a) xs) (ro (some (a.add i)) ((xs.drop i).take k)) where
  holds := fun w ⟨h1, h2⟩ => ⟨fun u hu => h1 u (List.mem_of_mem_drop (List.mem_of_mem_take hu)), fun j u hu => by
    rw [List.getElem?_take] at hu
    split at hu
    · rw [List.getElem?_drop] at hu
      have := h2 (i + j) u hu
      rw [← this]
      congr 1
      unfold Addr.add
      by_cases hi : i = 0
      · subst hi; simp
      · by_cases hj : j = 0
        · subst hj; simp
        · have : ¬ (i + j = 0) := by omega
          simp [hi, hj, this, Nat.add_assoc]
    · cases hu⟩
  own := fun _ _ k' ⟨⟨ad, ha, hk⟩, hne⟩ => by
    cases ha
    refine ⟨⟨a, rfl, ?_⟩, fun e => hne (by simp [e])⟩
    rw [← hk]; unfold Addr.add; split <;> rfl
  ro := fun h => h

/-! ### append -/
/-- What is appended: m elements, these cells. -/
def srcOk (w : World) (sz : Nat) (x : Value) (m : Nat) (news : List Value) : Prop :=
  One news ∧ match x with
    | .slice (some ad) m' _ => m' = m ∧ news.length = m * sz ∧ cellsAt w ad news
    | .slice none m' _ => m' = 0 ∧ m = 0 ∧ news = []
    | .string s => m = s.size ∧ sz = 1 ∧ news = Lib.strCells s
    | _ => False

variable {P : Program}

theorem src_len {w : World} {sz : Nat} {x : Value} {m : Nat} {news : List Value} (h : srcOk w sz x m news) : news.length = m * sz := by
  obtain ⟨_, h⟩ := h
  split at h
  · exact h.2.1
  · rw [h.2.1, h.2.2]; simp
  · rw [h.1, h.2.1, h.2.2, Lib.strCells_length]; simp
  · exact h.elim
theorem src_lenOf {w : World} {sz : Nat} {x : Value} {m : Nat} {news : List Value} (h : srcOk w sz x m news) (w' : World) : (Builtin.lenOf x).run P w' = .ok m w' := by
  obtain ⟨_, h⟩ := h
  split at h
  · rw [h.1]; rfl
  · rw [h.1, h.2.1]; rfl
  · rw [h.1]; rfl
  · exact h.elim
theorem src_first {w w' : World} {sz : Nat} {x : Value} {m : Nat} {news : List Value} (h : srcOk w sz x m news) (hw : ∀ a, w'.cell? a = w.cell? a) : (Builtin.firstCells sz m x).run P w' = .ok news.toArray w' := by
  obtain ⟨_, h⟩ := h
  split at h
  · rename_i ad m' c
    exact run_firstCells_some (P := P) w' sz m ad m' c news h.2.1 (fun j v hv => by rw [hw]; exact h.2.2 j v hv)
  · rw [h.2.2]; rfl
  · rw [h.1, h.2.2]; exact Lib.run_firstCells_string w' sz _
  · exact h.elim

def putCells (w : World) (a : Option Addr) (k : Nat) (news : List Value) : World := match a with | some ad => w.setCells ad.block (ad.off + k) news | none => w

theorem append_fits {w : World} {t xt ty e : TypeId} {i : TypeInfo} {d : TypeDesc} (ht : P.underlying t = some (.slice e)) (hxt : P.underlying xt = some d) (hd : ∀ k, d ≠ .int k) (hi : P.info? e = some i)
    {g off n cap m : Nat} {x : Value} {news : List Value} (hs : srcOk w i.size x m news) (hf : n + m ≤ cap)
    (hc : ∀ j, j < news.length → (w.cell? ⟨g, off + n * i.size + j, none⟩).isSome = true) (hz : ∀ j, j < news.length → w.frozen? ⟨g, off + n * i.size + j, none⟩ = false) :
    (Builtin.append_ #[t, xt] ty #[.slice (some ⟨g, off, none⟩) n cap, x]).run P w = .ok (.slice (some ⟨g, off, none⟩) (n + m) cap) (w.setCells g (off + n * i.size) news) := by
  have hl := src_lenOf (P := P) hs w
  have hfc := src_first (P := P) hs (w' := w) (fun _ => rfl)
  have hst := run_storeCells_cells (P := P) g (off + n * i.size) news 0 w (by simpa using hc) (by simpa using hz) hs.1
  simp only [Nat.add_zero] at hst
  have hdm : (match d with | .int _ => true | _ => false) = false := by cases d <;> first | rfl | exact absurd rfl (hd _)
  simp [Builtin.append_, run_underlying ht, run_underlying hxt, hdm, sizeOf, typeInfo, hi, hl, hf, hfc, Addr.add_lit, hst]

theorem append_none {w : World} {t xt ty e : TypeId} {i : TypeInfo} {d : TypeDesc} (ht : P.underlying t = some (.slice e)) (hxt : P.underlying xt = some d) (hd : ∀ k, d ≠ .int k) (hi : P.info? e = some i)
    {x : Value} {news : List Value} (hs : srcOk w i.size x 0 news) :
    (Builtin.append_ #[t, xt] ty #[.slice none 0 0, x]).run P w = .ok (.slice none 0 0) w := by
  have hl := src_lenOf (P := P) hs w
  have hfc := src_first (P := P) hs (w' := w) (fun _ => rfl)
  have hn : news = [] := List.eq_nil_of_length_eq_zero (by simpa using src_len hs)
  have hdm : (match d with | .int _ => true | _ => false) = false := by cases d <;> first | rfl | exact absurd rfl (hd _)
  subst hn
  simp [Builtin.append_, run_underlying ht, run_underlying hxt, hdm, sizeOf, typeInfo, hi, hl, hfc]

theorem append_grows {w : World} {t xt ty e : TypeId} {i : TypeInfo} {z : Value} {d : TypeDesc} (ht : P.underlying t = some (.slice e)) (hxt : P.underlying xt = some d) (hd : ∀ k, d ≠ .int k) (hi : P.info? e = some i) (hz : i.zero = some z)
    {a : Option Addr} {n cap m : Nat} {olds : List Value} (hlo : olds.length = n * i.size) (holds : ∀ ad, a = some ad → cellsAt w ad olds) (hnone : a = none → olds = [])
    {x : Value} {news : List Value} (hs : srcOk w i.size x m news) (hf : cap < n + m) (h63 : n + m ≤ maxLen) (hb : (n + m) * i.bytes ≤ 140737488355328) :
    (Builtin.append_ #[t, xt] ty #[.slice a n cap, x]).run P w = .ok (.slice (some ⟨w.heap.size, 0, none⟩) (n + m) (grownCap w (n + m) cap e))
      (w.drew.alloc (.cells (olds.toArray ++ news.toArray ++ Builtin.zeroCells z.cells (grownCap w (n + m) cap e - (n + m))) e)) := by
  have hl := src_lenOf (P := P) hs w
  have hfc := src_first (P := P) hs (w' := w.drew) (fun _ => rfl)
  have hfo : (Builtin.firstCells i.size n (.slice a n cap)).run P w.drew = .ok olds.toArray w.drew := by
    cases a with
    | none => rw [hnone rfl]; rfl
    | some ad => exact run_firstCells_some (P := P) w.drew i.size n ad n cap olds hlo (fun j v hv => holds ad rfl j v hv)
  have hdm : (match d with | .int _ => true | _ => false) = false := by cases d <;> first | rfl | exact absurd rfl (hd _)
  have hn : ¬ (n + m ≤ cap) := by omega
  have h63a : n + m ≤ 9223372036854775807 := by simp only [maxLen] at h63; omega
  have h63' : ¬ (9223372036854775807 < ((n : Int) + (m : Int))) := by omega
  have hfit := growslice_fits hf hb
  have h48' : ¬ (281474976710656 < Builtin.nextslicecap (n + m) cap * i.bytes) := by omega
  simp [Builtin.append_, run_underlying ht, run_underlying hxt, hdm, sizeOf, typeInfo, zeroValue, hi, hz, hl, hn, h63', h48', Question.forced, hfc, hfo, newRow, grownCap]
  congr 2
  apply Array.ext'
  simp [List.append_assoc]

/-- A chunk is put in the place of another: it owns no more than that one and new blocks. -/
theorem HS.put {hp : Hp} {w w' : World} (h : HS hp w) {i : Nat} {c c' : Ch} (hi : hp[i]? = some c) (hc : c.rw) (hown : ∀ k, c'.own k → c.own k ∨ w.heap.size ≤ k) (hholds : c'.holds w')
    (hrest : ∀ k, ¬ c.own k → k < w.heap.size → w'.heap[k]? = w.heap[k]?) : HS (hp.set i c') w' := by
  obtain ⟨hi1, hi2⟩ := List.getElem?_eq_some_iff.1 hi
  have hap : ∀ j, j ≠ i → ∀ d, hp[j]? = some d → ∀ k, c.own k → ¬ d.own k := fun j hj d hd => by
    rcases pairwise_get h.apart (Ne.symm hj) hi hd with ⟨h1, _⟩ | h1
    · exact absurd hc h1
    · exact h1
  have hap' : ∀ j, j ≠ i → ∀ d, hp[j]? = some d → ∀ k, c'.own k → ¬ d.own k := fun j hj d hd k hk hdk => by
    rcases hown k hk with h1 | h1
    · exact hap j hj d hd k h1 hdk
    · have := d.lt (h.holds d (List.mem_of_getElem? hd)) hdk; omega
  constructor
  · intro d hd
    obtain ⟨j, hj1, hj⟩ := List.getElem_of_mem hd
    rw [List.getElem_set] at hj
    split at hj
    · subst hj; exact hholds
    · rename_i hne
      have hjl : j < hp.length := by simpa using hj1
      have hd' : hp[j]? = some d := by rw [List.getElem?_eq_getElem hjl, hj]
      have hdw := h.holds d (List.mem_of_getElem? hd')
      exact d.loc (fun k hk => hrest k (fun hck => hap j (fun e => hne e.symm) d hd' k hck hk) (d.lt hdw hk)) hdw
  · rw [List.pairwise_iff_getElem]
    intro x y hx hy hxy
    have hx' : x < hp.length := by simpa using hx
    have hy' : y < hp.length := by simpa using hy
    have hp' := List.pairwise_iff_getElem.1 h.apart x y hx' hy' hxy
    rw [List.getElem_set, List.getElem_set]
    by_cases hxi : i = x
    · subst hxi
      rw [if_pos rfl, if_neg (by omega)]
      exact .inr fun k hk => hap' y (by omega) _ (List.getElem?_eq_getElem hy') k hk
    · rw [if_neg hxi]
      by_cases hyi : i = y
      · subst hyi
        rw [if_pos rfl]
        exact .inr fun k hk hk' => hap' x (by omega) _ (List.getElem?_eq_getElem hx') k hk' hk
      · rw [if_neg hyi]; exact hp'

theorem Bd.put {hp : Hp} {w : World} {i : Nat} {c c' : Ch} (hi : hp[i]? = some c) (hc : c.rw) (hown : ∀ k, c'.own k → c.own k ∨ w.heap.size ≤ k) : Bd (hp.set i c') (foot hp) w.heap.size := fun d hd hr k hk => by
  rcases List.mem_or_eq_of_mem_set hd with hd | hd
  · exact .inl ⟨d, hd, hr, hk⟩
  · subst hd
    rcases hown k hk with h | h
    · exact .inl ⟨c, List.mem_of_getElem? hi, hc, h⟩
    · exact .inr h

def appOf (ops : Array Oper) (nt : Nat) (i : Nat) (fr : Fr) : Option (Value × Value × TypeId × TypeId × Option Nat) :=
  match ops[i]? with
  | none => none
  | some o =>
    match okDst nt o.dst, wants ops fr o, knownOp fr o, o.op with
    | true, some true, true, .call c =>
      match c.callee, c.args.toList, c.argTypes.toList with
      | .builtin .append, [s, x], [t, xt] => some (ev fr s, ev fr x, t, xt, o.dst)
      | _, _, _ => none
    | _, _, _, _ => none
/-- The element's type, its cells, its bytes. -/
def rowTy (P : Program) (t xt : TypeId) : Option (TypeId × Nat × Nat) :=
  match P.underlying t, P.underlying xt with
  | some (.slice e), some d =>
    match d with
    | .int _ => none
    | _ => match P.info? e with
      | some i => match i.zero with
        | some z => match z.cells.size == i.size, (0).blt i.size with | true, true => some (e, i.size, i.bytes) | _, _ => none
        | none => none
      | none => none
  | _, _ => none

theorem setCells_heap {g T : Nat} {fz : Nat × Nat} {news : List Value} : ∀ {k : Nat} {cur : Array Value} {w : World}, w.heap[g]? = some (.cells cur T fz) → k + news.length ≤ cur.size →
    (w.setCells g k news).heap[g]? = some (.cells (cur.toList.take k ++ news ++ cur.toList.drop (k + news.length)).toArray T fz) := by
  induction news with
  | nil => intro k cur w hg _; simpa [World.setCells] using hg
  | cons v r ih =>
    intro k cur w hg hk
    simp only [List.length_cons] at hk
    have h1 : (w.setCell ⟨g, k, none⟩ v).heap[g]? = some (.cells (cur.setIfInBounds k v) T fz) := by
      simp only [World.setCell, Array.getElem?_modify, hg]; simp
    have h2 := ih (k := k + 1) h1 (by simp; omega)
    rw [World.setCells, h2]
    congr 2
    apply Array.ext'
    have hk' : k < cur.toList.length := by simp; omega
    simp only [Array.toList_setIfInBounds, List.length_cons]
    have hd : (cur.toList.set k v).drop (k + 1 + r.length) = cur.toList.drop (k + (r.length + 1)) := by
      rw [List.drop_set_of_lt (by omega)]; congr 1; omega
    have ht : (cur.toList.set k v).take (k + 1) = cur.toList.take k ++ [v] := by
      rw [List.set_eq_take_append_cons_drop, if_pos hk', List.take_append, List.length_take, Nat.min_eq_left (by omega)]
      simp
      exact List.take_of_length_le (by simp; omega)
    rw [hd, ht]
    simp
theorem setCells_other {g : Nat} {news : List Value} : ∀ {k : Nat} {w : World} {b : Nat}, b ≠ g → (w.setCells g k news).heap[b]? = w.heap[b]? := by
  induction news with
  | nil => intro k w b _; rfl
  | cons v r ih =>
    intro k w b hb
    rw [World.setCells, ih hb]
    exact heap_set_ne _ _ hb
theorem setCells_size {g : Nat} {news : List Value} : ∀ {k : Nat} {w : World}, (w.setCells g k news).heap.size = w.heap.size ∧ (w.setCells g k news).os = w.os ∧ (w.setCells g k news).tape = w.tape ∧ (w.setCells g k news).output = w.output := by
  induction news with
  | nil => intro k w; exact ⟨rfl, rfl, rfl, rfl⟩
  | cons v r ih => intro k w; rw [World.setCells]; obtain ⟨h1, h2, h3, h4⟩ := ih (k := k + 1) (w := w.setCell ⟨g, k, none⟩ v); exact ⟨by rw [h1]; simp [World.setCell], h2, h3, h4⟩

variable {Γ : Cx} {Q : Exit → Act → World → Prop} {s : St}

theorem add_lit' (g off j : Nat) : (⟨g, off, none⟩ : Addr).add j = ⟨g, off + j, none⟩ := by unfold Addr.add; split <;> simp_all

theorem app_run {t xt ty e sz bytes : Nat} (ht : rowTy P t xt = some (e, sz, bytes)) {a : Option Addr} {n cap m : Nat} {xs news : List Value} {x : Value} {w : World}
    (hr : rowH e sz a n cap xs w) (hs : srcOk w sz x m news) (h63 : n + m ≤ maxLen) (hb : (n + m) * bytes ≤ 140737488355328) :
    ∃ a' cap' w', (Builtin.append_ #[t, xt] ty #[.slice a n cap, x]).run P w = .ok (.slice a' (n + m) cap') w' ∧ rowH e sz a' (n + m) cap' (xs ++ news) w' ∧
      (∀ k, 0 < cap' ∧ rowOwn a' k → (0 < cap ∧ rowOwn a k) ∨ w.heap.size ≤ k) ∧ (∀ k, ¬ (0 < cap ∧ rowOwn a k) → k < w.heap.size → w'.heap[k]? = w.heap[k]?) ∧ (a' = none ↔ a = none ∧ m = 0) ∧
      w'.os = w.os ∧ w'.tape = w.tape ∧ w'.output = w.output ∧ w.heap.size ≤ w'.heap.size ∧ (n + m ≤ cap → a' = a ∧ cap' = cap) := by
  unfold rowTy at ht
  split at ht
  case h_2 => cases ht
  case h_1 e' d hu hxu =>
    split at ht
    · cases ht
    · rename_i hd
      split at ht
      case h_2 => cases ht
      case h_1 i hi =>
        split at ht
        case h_2 => cases ht
        case h_1 z hz =>
          split at ht
          case h_2 => cases ht
          case h_1 hzs hsz =>
            simp only [Option.some.injEq, Prod.mk.injEq] at ht
            obtain ⟨rfl, rfl, rfl⟩ := ht
            have hd' : ∀ k, d ≠ .int k := fun k e => hd k e
            have hzs : z.cells.size = i.size := by simpa using hzs
            obtain ⟨h1, h2, h3, h4, h5⟩ := id hr
            have hnl := src_len hs
            have hlen : (xs ++ news).length = (n + m) * i.size := by rw [List.length_append, h1, hnl, Nat.add_mul]
            have hone : One (xs ++ news) := fun u hu => (List.mem_append.1 hu).elim (h4 u) (hs.1 u)
            have grown : cap < n + m → (∀ ad, a = some ad → cellsAt w ad xs) → (a = none → xs = []) → ∃ a' cap' w', (Builtin.append_ #[t, xt] ty #[.slice a n cap, x]).run P w = .ok (.slice a' (n + m) cap') w' ∧ rowH e' i.size a' (n + m) cap' (xs ++ news) w' ∧
                (∀ k, 0 < cap' ∧ rowOwn a' k → (0 < cap ∧ rowOwn a k) ∨ w.heap.size ≤ k) ∧ (∀ k, ¬ (0 < cap ∧ rowOwn a k) → k < w.heap.size → w'.heap[k]? = w.heap[k]?) ∧ (a' = none ↔ a = none ∧ m = 0) ∧
                w'.os = w.os ∧ w'.tape = w.tape ∧ w'.output = w.output ∧ w.heap.size ≤ w'.heap.size ∧ (n + m ≤ cap → a' = a ∧ cap' = cap) := by
              intro hg holds hnone
              have hrun := append_grows (P := P) (ty := ty) hu hxu hd' hi hz (a := a) (cap := cap) h1 holds hnone hs hg h63 hb
              have hge := grownCap_ge w (n + m) cap e'
              refine ⟨_, _, _, hrun, ⟨hlen, hge, grownCap_le_maxLen w (n + m) cap e' h63, hone, .inr ⟨w.heap.size, 0, _, (0, 0), rfl, Array.getElem?_push_size, ?_, ?_, fun o _ h => by simp at h⟩⟩, ?_, ?_, ?_, rfl, rfl, rfl, ?_⟩
              · simp only [Array.size_append, List.size_toArray, size_zeroCells, hzs, h1, hnl, Nat.zero_add]
                rw [← Nat.add_mul, ← Nat.add_mul]
                exact Nat.mul_le_mul_right _ (by omega)
              · simp only [Array.toList_append, List.append_assoc, List.drop_zero]
                rw [← List.append_assoc, ← hlen]
                exact List.take_left
              · rintro k ⟨_, ad, had, hk⟩; cases had; exact .inr (by rw [← hk]; exact Nat.le_refl _)
              · intro k _ hk; show (w.heap.push _)[k]? = _; rw [Array.getElem?_push, if_neg (by omega)]
              · constructor
                · intro h; cases h
                · rintro ⟨rfl, rfl⟩
                  omega
              · exact ⟨by show w.heap.size ≤ (w.heap.push _).size; simp, fun h => absurd h (by omega)⟩
            by_cases hc0 : cap = 0
            · have hsp : ∀ ad, a = some ad → ad.spot = none := by
                rcases h5 with h5 | ⟨g, off, cur, fz, rfl, _⟩
                · exact h5.2
                · intro ad had; cases had; rfl
              subst hc0
              have hn0 : n = 0 := by omega
              subst hn0
              have hx0 : xs = [] := List.eq_nil_of_length_eq_zero (by simpa using h1)
              subst hx0
              by_cases hm : m = 0
              · subst hm
                have hn' : news = [] := List.eq_nil_of_length_eq_zero (by simpa using hnl)
                subst hn'
                cases a with
                | none => exact ⟨none, 0, w, append_none (P := P) hu hxu hd' hi hs, by simpa using hr, fun k h => .inl h, fun _ _ _ => rfl, by simp, rfl, rfl, rfl, Nat.le_refl _, fun _ => ⟨rfl, rfl⟩⟩
                | some ad =>
                  obtain ⟨g, off, sp⟩ := ad
                  have hsp' := hsp _ rfl
                  simp only at hsp'
                  subst hsp'
                  exact ⟨some ⟨g, off, none⟩, 0, w, append_fits (P := P) hu hxu hd' hi (g := g) (off := off) hs (Nat.le_refl _) (fun j hj => absurd hj (by simp)) (fun j hj => absurd hj (by simp)), by simpa using hr, fun k h => .inl h, fun _ _ _ => rfl, by simp, rfl, rfl, rfl, Nat.le_refl _, fun _ => ⟨rfl, rfl⟩⟩
              · exact grown (by omega) (fun ad h j u hu => by simp at hu) (fun _ => rfl)
            rcases h5 with ⟨h, _⟩ | ⟨g, off, cur, fz, rfl, hg, hsz2, hx, hfz⟩
            · exact absurd h hc0
            · by_cases hroom : n + m ≤ cap
              · have hfit : off + n * i.size + news.length ≤ cur.size := by
                  have h6 : (n + m) * i.size ≤ cap * i.size := Nat.mul_le_mul_right _ hroom
                  rw [Nat.add_mul] at h6
                  rw [hnl]; omega
                have hrun := append_fits (P := P) (ty := ty) hu hxu hd' hi (g := g) (off := off) hs hroom
                  (fun j hj => by simp only [World.cell?, hg]; simp [show off + n * i.size + j < cur.size by omega])
                  (fun j hj => by
                    have h9 := hfz (off + n * i.size + j) (by omega)
                    simp only [World.frozen?, hg]
                    simp only [Bool.and_eq_false_iff, decide_eq_false_iff_not]
                    omega)
                have hset := setCells_heap (news := news) hg hfit
                have hs4 := setCells_size (g := g) (news := news) (k := off + n * i.size) (w := w)
                refine ⟨_, _, _, hrun, ⟨hlen, hroom, h3, hone, .inr ⟨g, off, _, fz, rfl, hset, ?_, ?_, ?_⟩⟩, fun k h => .inl h, ?_, by simp, hs4.2.1, hs4.2.2.1, hs4.2.2.2, by rw [hs4.1]; exact Nat.le_refl _, fun _ => ⟨rfl, rfl⟩⟩
                · simp only [List.size_toArray, List.length_append, List.length_take, List.length_drop, Array.length_toList]; omega
                · have e1 : (cur.toList.take (off + n * i.size)).drop off = xs := by rw [List.drop_take, Nat.add_sub_cancel_left]; exact hx
                  have e2 : (cur.toList.take (off + n * i.size) ++ news ++ cur.toList.drop (off + n * i.size + news.length)).drop off = xs ++ news ++ cur.toList.drop (off + n * i.size + news.length) := by
                    rw [List.append_assoc, List.drop_append_of_le_length (by simp; omega), e1, List.append_assoc]
                  simp only [e2]
                  rw [← hlen]
                  exact List.take_left
                · intro o ho
                  refine hfz o ?_
                  simp only [List.size_toArray, List.length_append, List.length_take, List.length_drop, Array.length_toList] at ho
                  omega
                · intro k hk _
                  exact setCells_other (fun e => hk ⟨by omega, _, rfl, e.symm⟩)
              · exact grown (by omega) (fun ad h => by cases h; exact row_cells hr) (fun h => by cases h)

theorem app_wpOp {ops : Array Oper} {i : Nat} {a : Option Addr} {n cap : Nat} {x : Value} {t xt : TypeId} {dst : Option Nat} (ho : appOf ops Γ.nt i s.fr = some (.slice a n cap, x, t, xt, dst))
    {e sz bytes : Nat} (ht : rowTy Γ.P t xt = some (e, sz, bytes)) (p : Nat) {xs : List Value} (hp : s.hp[p]? = some (row e sz a n cap xs)) {m : Nat} {news : List Value}
    (h63 : n + m ≤ maxLen) (hb : (n + m) * bytes ≤ 140737488355328) {b : Act} {w : World} (hS : Sat Γ s b w) (hsrc : srcOk w sz x m news) {K : Act → World → Prop}
    (hK : ∀ a' cap', (a' = none ↔ a = none ∧ m = 0) → (n + m ≤ cap → a' = a ∧ cap' = cap) → ∀ b' w', Sat Γ ⟨putFr s.fr dst (.slice a' (n + m) cap'), s.hp.set p (row e sz a' (n + m) cap' (xs ++ news))⟩ b' w' → K b' w') : wpOp Γ.P ops Q i K b w := by
  unfold appOf at ho
  unfold wpOp
  split at ho
  · cases ho
  · rename_i o hoi
    rw [hoi]
    simp only
    split at ho
    · rename_i c hd hw hk hop
      split at ho
      · rename_i s' x' t' xt' hcal hargs hts
        simp only [Option.some.injEq, Prod.mk.injEq] at ho
        obtain ⟨hes, hex, rfl, rfl, rfl⟩ := ho
        rw [wants_ok hS.fr hw]
        simp only [if_true]
        refine .inl ?_
        unfold Oper.wp
        rw [ev_eq hS.fr hk]
        have hrw := hS.hs.holds _ (List.mem_of_getElem? hp)
        obtain ⟨a', cap', w', hrun, h1, h2, h3, h4, h5, h6, h7, h8, h9⟩ := app_run (P := Γ.P) (ty := o.type) ht hrw hsrc h63 hb
        have e1 : c.args = #[s', x'] := by apply Array.ext'; simpa using hargs
        have e2 : c.argTypes = #[t', xt'] := by apply Array.ext'; simpa using hts
        have hx : (execOp (ev s.fr) o).run Γ.P w = .ok (.value (.slice a' (n + m) cap')) w' := by
          simp only [execOp, hop, resolve, hcal, e1, e2, invoke, builtin, Sem.run_bind, Sem.run_pure, Result.andThen_ok, List.map_toArray, List.map_cons, List.map_nil, hes, hex, hrun]
        rw [hx]
        have hext : Ext w w' (foot s.hp) := ⟨h5, h6, h7, h8, fun k hk hf => h3 k (fun ho => hf ⟨_, List.mem_of_getElem? hp, trivial, ho⟩) hk⟩
        exact hK a' cap' h4 h9 _ _ (hS.step hd (hS.hs.put (c' := row e sz a' (n + m) cap' (xs ++ news)) hp trivial h2 h1 h3) hext (Bd.put (c' := row e sz a' (n + m) cap' (xs ++ news)) hp trivial h2))
      · cases ho
    · cases ho

theorem wpr_app {ops : Array Oper} {i : Nat} {l₂ : List Nat} {a : Option Addr} {n cap : Nat} {x : Value} {t xt : TypeId} {dst : Option Nat} (ho : appOf ops Γ.nt i s.fr = some (.slice a n cap, x, t, xt, dst))
    {e sz bytes : Nat} (ht : rowTy Γ.P t xt = some (e, sz, bytes)) (p : Nat) {xs : List Value} (hp : s.hp[p]? = some (row e sz a n cap xs)) {m : Nat} {news : List Value} (hsrc : ∀ w, HS s.hp w → srcOk w sz x m news)
    (h63 : n + m ≤ maxLen) (hb : (n + m) * bytes ≤ 140737488355328)
    (h : ∀ a' cap', (a' = none ↔ a = none ∧ m = 0) → WpR Γ ops l₂ ⟨putFr s.fr dst (.slice a' (n + m) cap'), s.hp.set p (row e sz a' (n + m) cap' (xs ++ news))⟩ Q) : WpR Γ ops (i :: l₂) s Q := fun b w hS => by
  rw [wpOps_cons]
  exact app_wpOp ho ht p hp h63 hb hS (hsrc w hS.hs) fun a' cap' hn _ b' w' hS' => h a' cap' hn b' w' hS'
theorem wpa_app {ops : Array Oper} {hs : Hp} {li : Array Bool} {i : Nat} {nf : Nat} (hr : Region.ready .any ops li = [i]) {a : Option Addr} {n cap : Nat} {x : Value} {t xt : TypeId} {dst : Option Nat} (ho : appOf ops Γ.nt i s.fr = some (.slice a n cap, x, t, xt, dst))
    {e sz bytes : Nat} (ht : rowTy Γ.P t xt = some (e, sz, bytes)) (p : Nat) {xs : List Value} (hp : s.hp[p]? = some (row e sz a n cap xs)) {m : Nat} {news : List Value} (hsrc : ∀ w, HS s.hp w → srcOk w sz x m news)
    (h63 : n + m ≤ maxLen) (hb : (n + m) * bytes ≤ 140737488355328) (is : List Nat) (hsub : is.map (fun i => (s.hp.eraseIdx p)[i]?) = hs.map some)
    (h : ∀ a' cap', (a' = none ↔ a = none ∧ m = 0) → WpA Γ ops hs nf (li.setIfInBounds i true) ⟨putFr s.fr dst (.slice a' (n + m) cap'), s.hp.set p (row e sz a' (n + m) cap' (xs ++ news))⟩ Q) : WpA Γ ops hs (nf + 1) li s Q := fun b w hS hL => by
  refine wpAnyH_all hr (by simp) fun j hj => ?_
  rw [List.mem_singleton.1 hj]
  refine app_wpOp ho ht p hp h63 hb hS (hsrc w hS.hs) fun a' cap' hn _ b' w' hS' => ?_
  have hL' : HL hs w' := fun c hc => hS'.hs.holds c (by
    have h1 := sub_of is hsub c hc
    obtain ⟨k, hk⟩ := List.getElem?_of_mem h1
    rw [List.getElem?_eraseIdx] at hk
    split at hk
    · rename_i hlt
      refine List.mem_of_getElem? (i := k) ?_
      rw [List.getElem?_set, if_neg (by omega)]; exact hk
    · rename_i hlt
      refine List.mem_of_getElem? (i := k + 1) ?_
      rw [List.getElem?_set, if_neg (by omega)]; exact hk)
  exact ⟨hL', h a' cap' hn b' w' hS' hL'⟩

/-! ### where what is appended lies -/
theorem src_ro {hp : Hp} {w : World} (h : HS hp w) (i : Nat) {a : Option Addr} {xs : List Value} (hi : hp[i]? = some (ro a xs)) {sz m c : Nat} (hl : xs.length = m * sz) (hm : a = none → m = 0) : srcOk w sz (.slice a m c) m xs := by
  obtain ⟨h1, h2⟩ := h.holds _ (List.mem_of_getElem? hi)
  refine ⟨h1, ?_⟩
  cases a with
  | none => have := hm rfl; subst this; exact ⟨rfl, rfl, h2⟩
  | some ad => exact ⟨rfl, hl, h2⟩
theorem src_row {hp : Hp} {w : World} (h : HS hp w) (i : Nat) {T sz n cap c : Nat} {a : Option Addr} {xs : List Value} (hi : hp[i]? = some (row T sz a n cap xs)) : srcOk w sz (.slice a n c) n xs := by
  have hr := h.holds _ (List.mem_of_getElem? hi)
  obtain ⟨h1, h2, h3, h4, h5⟩ := id hr
  refine ⟨h4, ?_⟩
  cases a with
  | none =>
    rcases h5 with ⟨hc, _⟩ | ⟨g, off, cur, fz, ha, _⟩
    · have : n = 0 := by omega
      subst this
      exact ⟨rfl, rfl, List.eq_nil_of_length_eq_zero (by simpa using h1)⟩
    · cases ha
  | some ad =>
    rcases h5 with ⟨hc, _⟩ | ⟨g, off, cur, fz, ha, _⟩
    · have : n = 0 := by omega
      subst this
      have hx : xs = [] := List.eq_nil_of_length_eq_zero (by simpa using h1)
      subst hx
      exact ⟨rfl, h1, fun j u hu => by simp at hu⟩
    · cases ha; exact ⟨rfl, h1, row_cells hr⟩
theorem src_blk {hp : Hp} {w : World} (h : HS hp w) (i : Nat) {g T : Nat} {l : List Value} (hi : hp[i]? = some (.blk g T l)) {sz m c : Nat} (hl : l.length = m * sz) (h1 : One l) : srcOk w sz (.slice (some ⟨g, 0, none⟩) m c) m l :=
  ⟨h1, rfl, hl, fun j u hu => by rw [add_lit', Nat.zero_add, cell_blk (h.blk hi) _ rfl rfl]; exact hu⟩
theorem src_str {w : World} (s : ByteArray) : srcOk w 1 (.string s) s.size (Lib.strCells s) := ⟨Lib.strCells_oneCell s, rfl, rfl, rfl⟩
theorem src_nil {w : World} {sz c : Nat} : srcOk w sz (.slice none 0 c) 0 [] := ⟨(fun u hu => by cases hu), rfl, rfl, rfl⟩

/-! ### other words for a heap -/
/-- An empty row without room may be laid at any time. -/
theorem ent_nila {fr : Fr} {hp : Hp} (T sz : Nat) (ad : Option Addr) (had : ∀ x, ad = some x → x.spot = none) : Ent Γ ⟨fr, hp⟩ ⟨fr, row T sz ad 0 0 [] :: hp⟩ := fun a w h => by
  refine ⟨h.size, h.defers, h.fr, ⟨fun c hc => ?_, List.pairwise_cons.2 ⟨fun d hd => .inr fun k hk => ?_, h.hs.apart⟩⟩, h.ext, fun c hc hr k hk => ?_⟩
  · rcases List.mem_cons.1 hc with rfl | hc
    · exact ⟨by simp, Nat.le_refl _, Nat.zero_le _, fun u hu => (by cases hu), .inl ⟨rfl, had⟩⟩
    · exact h.hs.holds c hc
  · exact absurd hk.1 (by decide)
  · rcases List.mem_cons.1 hc with rfl | hc
    · exact absurd hk.1 (by decide)
    · exact h.bd c hc hr k hk
theorem ent_nil {fr : Fr} {hp : Hp} (T sz : Nat) : Ent Γ ⟨fr, hp⟩ ⟨fr, row T sz none 0 0 [] :: hp⟩ := ent_nila T sz none (fun x h => by cases h)

/-- One chunk said in other words: it owns no more, and says no more. -/
structure Turn (c c' : Ch) : Prop where
  holds : ∀ w, c.holds w → c'.holds w
  own : ∀ w, c.holds w → ∀ k, c'.own k → c.own k
  rw : c'.rw → c.rw
theorem HS.turn {hp : Hp} {w : World} (h : HS hp w) {i : Nat} {c c' : Ch} (hi : hp[i]? = some c) (t : Turn c c') : HS (hp.set i c') w := by
  obtain ⟨hi1, hi2⟩ := List.getElem?_eq_some_iff.1 hi
  have key : ∀ j d, j ≠ i → hp[j]? = some d → Apart c' d := fun j d hj hd => by
    rcases pairwise_get h.apart (Ne.symm hj) hi hd with ⟨h1, h2⟩ | h1
    · exact .inl ⟨fun r => h1 (t.rw r), h2⟩
    · exact .inr fun k hk => h1 k (t.own w (h.holds _ (List.mem_of_getElem? hi)) k hk)
  constructor
  · intro d hd
    rcases List.mem_or_eq_of_mem_set hd with hd | rfl
    · exact h.holds d hd
    · exact t.holds w (h.holds _ (List.mem_of_getElem? hi))
  · rw [List.pairwise_iff_getElem]
    intro x y hx hy hxy
    have hx' : x < hp.length := by simpa using hx
    have hy' : y < hp.length := by simpa using hy
    rw [List.getElem_set, List.getElem_set]
    by_cases hxi : i = x
    · subst hxi
      rw [if_pos rfl, if_neg (by omega)]
      exact key y _ (by omega) (List.getElem?_eq_getElem hy')
    · rw [if_neg hxi]
      by_cases hyi : i = y
      · subst hyi
        rw [if_pos rfl]
        exact (key x _ (by omega) (List.getElem?_eq_getElem hx')).symm
      · rw [if_neg hyi]; exact List.pairwise_iff_getElem.1 h.apart x y hx' hy' hxy
theorem ent_turn {fr : Fr} {hp hp' : Hp} (i : Nat) {c : Ch} (c' : Ch) (hi : hp[i]? = some c) (t : Turn c c') (he : hp.set i c' = hp') : Ent Γ ⟨fr, hp⟩ ⟨fr, hp'⟩ := fun a w h => by
  subst he
  refine ⟨h.size, h.defers, h.fr, h.hs.turn hi t, h.ext, fun d hd hr k hk => ?_⟩
  rcases List.mem_or_eq_of_mem_set hd with hd | rfl
  · exact h.bd d hd hr k hk
  · exact h.bd c (List.mem_of_getElem? hi) (t.rw hr) k (t.own w (h.hs.holds _ (List.mem_of_getElem? hi)) k hk)
/-- Fewer chunks, in another order. -/
theorem ent_hp {fr : Fr} {hp hp' rest : Hp} (is : List Nat) (h : picks is hp = some (hp', rest)) : Ent Γ ⟨fr, hp⟩ ⟨fr, hp'⟩ := fun a w hS =>
  ⟨hS.size, hS.defers, hS.fr, ((give is h).sat w hS.hs).1, hS.ext, fun c hc hr k hk => by
    obtain ⟨d, hd, hdr, hdk⟩ := (give is h).foot k ⟨c, hc, hr, hk⟩
    exact hS.bd d hd hdr k hdk⟩
/-- A row whose elements, or whose capacity, are called otherwise. -/
theorem turn_row {T sz n cap n' cap' : Nat} {a : Option Addr} {xs xs' : List Value} (hn : n' ≤ cap') (hc : cap' ≤ cap) (hx : ∀ w, rowH T sz a n cap xs w → xs'.length = n' * sz ∧ One xs' ∧ (∀ g off cur fz, a = some ⟨g, off, none⟩ → w.heap[g]? = some (.cells cur T fz) → off + cap * sz ≤ cur.size → (cur.toList.drop off).take (n * sz) = xs → (cur.toList.drop off).take (n' * sz) = xs')) : Turn (row T sz a n cap xs) (row T sz a n' cap' xs') where
  holds := fun w h => by
    obtain ⟨k1, k2, k3⟩ := hx w h
    obtain ⟨h1, h2, h3, h4, h5⟩ := h
    refine ⟨k1, hn, by omega, k2, ?_⟩
    rcases h5 with ⟨h5, h6⟩ | ⟨g, off, cur, fz, rfl, hg, hs, hx, hfz⟩
    · exact .inl ⟨by omega, h6⟩
    · refine .inr ⟨g, off, cur, fz, rfl, hg, ?_, k3 g off cur fz rfl hg hs hx, hfz⟩
      have : cap' * sz ≤ cap * sz := Nat.mul_le_mul_right _ hc
      omega
  own := fun _ _ k h => ⟨by have := h.1; omega, h.2⟩
  rw := fun h => h
/-- A row cut off behind its first elements. -/
theorem turn_cut {T sz n cap : Nat} {a : Option Addr} {xs : List Value} (n' cap' : Nat) (h1 : n' ≤ n) (h2 : n' ≤ cap') (h3 : cap' ≤ cap) : Turn (row T sz a n cap xs) (row T sz a n' cap' (xs.take (n' * sz))) :=
  turn_row h2 h3 fun w ⟨k1, k2, k3, k4, k5⟩ => ⟨by rw [List.length_take, k1]; exact Nat.min_eq_left (Nat.mul_le_mul_right _ h1), fun u hu => k4 u (List.mem_of_mem_take hu), fun g off cur fz ha hg hs hx => by
    rw [← hx, List.take_take]; congr 1; exact (Nat.min_eq_left (Nat.mul_le_mul_right _ h1)).symm⟩
/-- A whole block as a row. -/
theorem turn_blk {g T sz n : Nat} {l : List Value} (hl : l.length = n * sz) (h1 : One l) (hn : n ≤ maxLen) : Turn (.blk g T l) (row T sz (some ⟨g, 0, none⟩) n n l) where
  holds := fun w ⟨fz, h, hf⟩ => ⟨hl, Nat.le_refl _, hn, h1, .inr ⟨g, 0, l.toArray, fz, rfl, h, by simp [hl], by simp [← hl], fun o ho h => by unfold FzOk at hf; simp at ho; omega⟩⟩
  own := fun _ _ k ⟨_, ad, ha, hk⟩ => by cases ha; exact hk.symm
  rw := fun _ => trivial

end Go.Sx

/-
  Elements read and written, texts and bytes.
-/
namespace Go.Sx
open Go
variable {P : Program} {Γ : Cx} {Q : Exit → Act → World → Prop} {s : St}

/-- One operation, whatever stands behind it. -/
def Step (Γ : Cx) (ops : Array Oper) (i : Nat) (s : St) (Φ : St → Prop) : Prop :=
  ∀ (Q : Exit → Act → World → Prop) b w, Sat Γ s b w → ∀ K : Act → World → Prop, (∀ s', Φ s' → ∀ b' w', Sat Γ s' b' w' → K b' w') → wpOp Γ.P ops Q i K b w
theorem wpr_step {ops : Array Oper} {i : Nat} {l₂ : List Nat} {Φ : St → Prop} (st : Step Γ ops i s Φ) (h : ∀ s', Φ s' → WpR Γ ops l₂ s' Q) : WpR Γ ops (i :: l₂) s Q := fun b w hS => by
  rw [wpOps_cons]
  exact st Q b w hS _ fun s' hs' b' w' hS' => h s' hs' b' w' hS'
theorem wpa_step {ops : Array Oper} {hs : Hp} {li : Array Bool} {i n : Nat} {Φ : St → Prop} (hr : Region.ready .any ops li = [i]) (st : Step Γ ops i s Φ) (hsub : ∀ s', Φ s' → Sub hs s'.hp)
    (h : ∀ s', Φ s' → WpA Γ ops hs n (li.setIfInBounds i true) s' Q) : WpA Γ ops hs (n + 1) li s Q := fun b w hS hL => by
  refine wpAnyH_all hr (by simp) fun j hj => ?_
  rw [List.mem_singleton.1 hj]
  refine st Q b w hS _ fun s' hs' b' w' hS' => ?_
  have hL' : HL hs w' := fun c hc => hS'.hs.holds c (hsub s' hs' c hc)
  exact ⟨hL', h s' hs' b' w' hS' hL'⟩

/-- The operation at a place, if it is carried out and all that it reads is known. -/
def opAt (ops : Array Oper) (nt : Nat) (i : Nat) (fr : Fr) : Option Oper :=
  match ops[i]? with
  | none => none
  | some o => match okDst nt o.dst, wants ops fr o, knownOp fr o with
    | true, some true, true => some o
    | _, _, _ => none

theorem step_sem {ops : Array Oper} {i : Nat} {o : Oper} (ho : opAt ops Γ.nt i s.fr = some o) (φ : Value → Hp → Prop)
    (hrun : ∀ w, HS s.hp w → ∃ nx v hp' w', (execOp (ev s.fr) o).run Γ.P w = .ok nx w' ∧ (nx = .value v ∨ (nx = .skip ∧ v = undef)) ∧ φ v hp' ∧ HS hp' w' ∧ Ext w w' (foot s.hp) ∧ Bd hp' (foot s.hp) w.heap.size) :
    Step Γ ops i s (fun s' => ∃ v hp', φ v hp' ∧ s' = ⟨putFr s.fr o.dst v, hp'⟩) := fun Q b w hS K hK => by
  unfold opAt at ho
  unfold wpOp
  split at ho
  · cases ho
  · rename_i o' hoi
    rw [hoi]
    simp only
    split at ho
    · rename_i hd hw hk
      simp only [Option.some.injEq] at ho
      subst ho
      rw [wants_ok hS.fr hw]
      simp only [if_true]
      refine .inl ?_
      unfold Oper.wp
      rw [ev_eq hS.fr hk]
      obtain ⟨nx, v, hp', w', h1, h2, h3, h4, h5, h6⟩ := hrun w hS.hs
      rw [h1]
      rcases h2 with rfl | ⟨rfl, rfl⟩
      · exact hK _ ⟨v, hp', h3, rfl⟩ _ _ (hS.step hd h4 h5 h6)
      · exact hK _ ⟨undef, hp', h3, rfl⟩ _ _ (hS.step hd h4 h5 h6)
    · cases ho

/-! ### a variable read out of known cells -/
def aggTy (P : Program) (t : TypeId) : Option (Bool × Nat) :=
  match P.underlying t, P.info? t with
  | some d, some i => some ((match d with | .struct _ | .array _ _ => true | _ => false), i.size)
  | _, _ => none
def valOf (b : Bool) (vs : List Value) : Value := match b with | true => .agg vs.toArray | false => vs.headD undef

theorem run_loadVar' {w : World} {t : TypeId} {b : Bool} {k : Nat} (ht : aggTy P t = some (b, k)) {a : Addr} {vs : List Value} (hv : vs.length = k) (hb : b = false → k = 1) (hc : cellsAt w a vs) : (loadVar t a).run P w = .ok (valOf b vs) w := by
  unfold aggTy at ht
  split at ht
  case h_2 => cases ht
  case h_1 d i hd hi =>
    simp only [Option.some.injEq, Prod.mk.injEq] at ht
    obtain ⟨h1, rfl⟩ := ht
    have hag : (isAgg t).run P w = .ok b w := by
      rw [← h1]
      unfold isAgg
      simp only [Sem.run_bind, run_underlying hd, Result.andThen_ok]
      cases d <;> rfl
    unfold loadVar
    rw [Sem.run_bind, hag, Result.andThen_ok]
    cases b with
    | true =>
      have hl := run_loadCells_list (P := P) w a vs hc
      rw [hv] at hl
      simp only [if_true, Sem.run_bind, sizeOf, typeInfo, run_program, Result.andThen_ok, hi, Sem.run_pure, hl, valOf]
    | false =>
      have h2 := hb rfl
      match vs, hv.trans h2 with
      | [v], _ =>
        have h3 := hc 0 v rfl
        have e0 : a.add 0 = a := rfl
        rw [e0] at h3
        simp only [Bool.false_eq_true, if_false, load, run_load_some h3, valOf, List.headD_cons]
        rfl

/-- A load out of a row, or of what is read alone. -/
theorem step_load {ops : Array Oper} {i : Nat} {o : Oper} (ho : opAt ops Γ.nt i s.fr = some o) (t : TypeId) (p : Operand) (hop : o.op = .load t p) (a : Addr) (hp : ev s.fr p = .pointer (some a)) (b : Bool) (k : Nat) (ht : aggTy Γ.P t = some (b, k)) (hb : b = false → k = 1)
    (vs : List Value) (hv : vs.length = k) (hc : ∀ w, HS s.hp w → cellsAt w a vs) :
    Step Γ ops i s (fun s' => s' = ⟨putFr s.fr o.dst (valOf b vs), s.hp⟩) := fun Q b' w hS K hK =>
  step_sem ho (fun v hp' => v = valOf b vs ∧ hp' = s.hp) (fun w hw => ⟨_, _, _, w, by
    simp only [execOp, hop, hp, Instr.loadAt, Instr.sureAddr, Sem.run_bind, Sem.run_pure, Result.andThen_ok, run_loadVar' ht hv hb (hc w hw)], .inl rfl, ⟨rfl, rfl⟩, hw, Ext.refl _ _, Bd.self _ _⟩) Q b' w hS K
    (fun s' ⟨v, hp', ⟨h1, h2⟩, h3⟩ => hK s' (by rw [h3, h1, h2]))

theorem cells_row {hp : Hp} {w : World} (h : HS hp w) (i : Nat) {T sz n cap g off : Nat} {xs : List Value} (hi : hp[i]? = some (row T sz (some ⟨g, off, none⟩) n cap xs)) (q k : Nat) : cellsAt w ⟨g, off + q, none⟩ ((xs.drop q).take k) := fun j u hu => by
  have h1 := row_cells (h.holds _ (List.mem_of_getElem? hi))
  rw [List.getElem?_take] at hu
  split at hu
  · rw [List.getElem?_drop] at hu
    rw [add_lit', Nat.add_assoc, ← add_lit']; exact h1 _ _ hu
  · cases hu
theorem cells_ro {hp : Hp} {w : World} (h : HS hp w) (i : Nat) {g off : Nat} {xs : List Value} (hi : hp[i]? = some (ro (some ⟨g, off, none⟩) xs)) (q k : Nat) : cellsAt w ⟨g, off + q, none⟩ ((xs.drop q).take k) := fun j u hu => by
  have h1 := (h.holds _ (List.mem_of_getElem? hi)).2
  rw [List.getElem?_take] at hu
  split at hu
  · rw [List.getElem?_drop] at hu
    rw [add_lit', Nat.add_assoc, ← add_lit']; exact h1 _ _ hu
  · cases hu

/-! ### a store into a row -/
theorem storeVar_row {w : World} {t : TypeId} {v : Value} {vs : List Value} (hvs : v.cells = vs.toArray) {inf : TypeInfo} (hi : P.info? t = some inf) (hk : inf.size = vs.length) (h1 : One vs)
    {T sz n cap g off q : Nat} {xs : List Value} (hr : rowH T sz (some ⟨g, off, none⟩) n cap xs w) (hq : q + vs.length ≤ xs.length) :
    (storeVar t ⟨g, off + q, none⟩ v).run P w = .ok () (w.setCells g (off + q) vs) ∧ rowH T sz (some ⟨g, off, none⟩) n cap (xs.take q ++ vs ++ xs.drop (q + vs.length)) (w.setCells g (off + q) vs) := by
  obtain ⟨k1, k2, k3, k4, k5⟩ := hr
  by_cases hvs0 : vs = []
  · subst hvs0
    refine ⟨?_, ?_⟩
    · unfold storeVar
      have e1 : v.cells.size = 0 := by rw [hvs]; simp
      have hst := run_storeCells_cells (P := P) g (off + q) [] 0 w (fun j hj => absurd hj (by simp)) (fun j hj => absurd hj (by simp)) (fun u hu => by cases hu)
      simp only [Nat.add_zero] at hst
      simp only [Sem.run_bind, sizeOf, typeInfo, run_program, Result.andThen_ok, hi, Sem.run_pure, e1, hk]
      simp [hvs, hst]
    · have e1 : xs.take q ++ [] ++ xs.drop (q + ([] : List Value).length) = xs := by simp
      rw [e1]; exact ⟨k1, k2, k3, k4, k5⟩
  rcases k5 with ⟨h, _⟩ | ⟨g', off', cur, fz, ha, hg, hs, hx, hfz⟩
  · have hn : n = 0 := by omega
    rw [hn, Nat.zero_mul] at k1
    have : 0 < vs.length := List.length_pos_iff.2 hvs0
    omega
  · cases ha
    have hns : n * sz ≤ cap * sz := Nat.mul_le_mul_right _ k2
    have hlen : xs.length = n * sz := k1
    have hst := run_storeCells_cells (P := P) g (off + q) vs 0 w
      (fun j hj => by simp only [World.cell?, hg]; simp [show off + q + j < cur.size by omega])
      (fun j hj => by
        have h9 := hfz (off + q + 0 + j) (by omega)
        simp only [World.frozen?, hg]
        simp only [Bool.and_eq_false_iff, decide_eq_false_iff_not]
        omega) h1
    simp only [Nat.add_zero] at hst
    have hset := setCells_heap (news := vs) hg (show off + q + vs.length ≤ cur.size by omega)
    refine ⟨?_, ?_, k2, k3, ?_, .inr ⟨g, off, _, fz, rfl, hset, ?_, ?_, ?_⟩⟩
    · unfold storeVar
      have e1 : v.cells.size = vs.length := by rw [hvs]; simp
      simp only [Sem.run_bind, sizeOf, typeInfo, run_program, Result.andThen_ok, hi, Sem.run_pure, e1, hk]
      simp [hvs, hst]
    · simp only [List.length_append, List.length_take, List.length_drop]; omega
    · intro u hu
      rcases List.mem_append.1 hu with hu | hu
      · rcases List.mem_append.1 hu with hu | hu
        · exact k4 u (List.mem_of_mem_take hu)
        · exact h1 u hu
      · exact k4 u (List.mem_of_mem_drop hu)
    · simp only [List.size_toArray, List.length_append, List.length_take, List.length_drop, Array.length_toList]; omega
    · have e1 : (cur.toList.take (off + q)).drop off = xs.take q := by
        rw [List.drop_take, Nat.add_sub_cancel_left, ← hx, List.take_take, Nat.min_eq_left (by omega)]
      have e2 : (cur.toList.take (off + q) ++ vs ++ cur.toList.drop (off + q + vs.length)).drop off = xs.take q ++ vs ++ cur.toList.drop (off + q + vs.length) := by
        rw [List.append_assoc, List.drop_append_of_le_length (by simp; omega), e1, List.append_assoc]
      have e3 : xs.drop (q + vs.length) = (cur.toList.drop (off + q + vs.length)).take (n * sz - (q + vs.length)) := by
        rw [← hx, List.drop_take, List.drop_drop, Nat.add_assoc]
      simp only [e2, e3]
      rw [List.take_append, List.take_of_length_le (by simp; omega)]
      congr 2
      simp only [List.length_append, List.length_take]
      omega
    · intro o ho
      refine hfz o ?_
      simp only [List.size_toArray, List.length_append, List.length_take, List.length_drop, Array.length_toList] at ho
      omega

theorem step_store {ops : Array Oper} {i : Nat} {o : Oper} (ho : opAt ops Γ.nt i s.fr = some o) (t : TypeId) (p x : Operand) (hop : o.op = .store t p x) (pi : Nat) {T sz n cap g off : Nat} {xs : List Value} (hpi : s.hp[pi]? = some (row T sz (some ⟨g, off, none⟩) n cap xs))
    (q : Nat) (hp : ev s.fr p = .pointer (some ⟨g, off + q, none⟩)) (vs : List Value) (hvs : (ev s.fr x).cells = vs.toArray) (inf : TypeInfo) (hi : Γ.P.info? t = some inf) (hk : inf.size = vs.length) (h1 : One vs) (hq : q + vs.length ≤ xs.length) :
    Step Γ ops i s (fun s' => s' = ⟨putFr s.fr o.dst undef, s.hp.set pi (row T sz (some ⟨g, off, none⟩) n cap (xs.take q ++ vs ++ xs.drop (q + vs.length)))⟩) := fun Q b' w hS K hK =>
  step_sem ho (fun v hp' => v = undef ∧ hp' = s.hp.set pi (row T sz (some ⟨g, off, none⟩) n cap (xs.take q ++ vs ++ xs.drop (q + vs.length)))) (fun w hw => by
    obtain ⟨h2, h3⟩ := storeVar_row (P := Γ.P) hvs hi hk h1 (hw.holds _ (List.mem_of_getElem? hpi)) hq
    obtain ⟨z1, z2, z3, z4⟩ := setCells_size (g := g) (news := vs) (k := off + q) (w := w)
    have hrest : ∀ k, ¬ (0 < cap ∧ rowOwn (some ⟨g, off, none⟩) k) → k < w.heap.size → (w.setCells g (off + q) vs).heap[k]? = w.heap[k]? := fun k hk _ => by
      by_cases hvs0 : vs = []
      · subst hvs0; rfl
      · refine setCells_other (fun e => hk ⟨?_, _, rfl, e.symm⟩)
        obtain ⟨r1, r2, _⟩ := hw.holds _ (List.mem_of_getElem? hpi)
        have hl : 0 < vs.length := List.length_pos_iff.2 hvs0
        rcases Nat.eq_zero_or_pos cap with hc | hc
        · have hn : n = 0 := by omega
          rw [hn, Nat.zero_mul] at r1; omega
        · exact hc
    refine ⟨.skip, undef, _, _, ?_, .inr ⟨rfl, rfl⟩, ⟨rfl, rfl⟩, hw.put (c' := row T sz (some ⟨g, off, none⟩) n cap (xs.take q ++ vs ++ xs.drop (q + vs.length))) hpi trivial (fun k h => .inl h) h3 hrest, ?_, Bd.put (c' := row T sz (some ⟨g, off, none⟩) n cap (xs.take q ++ vs ++ xs.drop (q + vs.length))) hpi trivial (fun k h => .inl h)⟩
    · simp only [execOp, hop, hp, Instr.storeAt, Instr.sureAddr, Sem.run_bind, Sem.run_pure, Result.andThen_ok, h2]
    · exact ⟨z2, z3, z4, by rw [z1]; exact Nat.le_refl _, fun k hk hf => hrest k (fun ho => hf ⟨_, List.mem_of_getElem? hpi, trivial, ho⟩) hk⟩) Q b' w hS K
    (fun s' ⟨v, hp', ⟨h1, h2⟩, h3⟩ => hK s' (by rw [h3, h1, h2]))

/-! ### bytes and texts -/
/-- Bytes as cells. -/
def u8s (l : List UInt8) : List Value := l.map fun b => .int .u8 b.toNat
theorem u8s_len (l : List UInt8) : (u8s l).length = l.length := by simp [u8s]
theorem u8s_one (l : List UInt8) : One (u8s l) := fun u hu => by
  simp only [u8s, List.mem_map] at hu
  obtain ⟨b, _, rfl⟩ := hu
  rfl
theorem strCells_mkS (l : List UInt8) : Lib.strCells (mkS l) = u8s l := by simp [Lib.strCells, mkS, u8s]
theorem size_mkS (l : List UInt8) : (mkS l).size = l.length := by show (l.toArray).size = _; simp

theorem run_b2s {w : World} {a : Option Addr} {n c : Nat} {l : List UInt8} (hn : n = l.length) (h0 : a = none → l = []) (hc : ∀ ad, a = some ad → cellsAt w ad (u8s l)) : (Conv.bytesToString (.slice a n c)).run P w = .ok (.string (mkS l)) w := by
  cases a with
  | none => rw [h0 rfl]; rfl
  | some ad =>
    have hl := run_loadCells_list (P := P) w ad (u8s l) (hc ad rfl)
    rw [u8s_len, ← hn] at hl
    have e : u8s l = (l.map fun b => (b.toNat : Int)).map (Value.int .u8) := by simp [u8s]
    rw [e] at hl
    rw [run_bytesToString w ad n c _ hl]
    congr 2
    have key : ∀ (l : List UInt8) (acc : List UInt8), (l.map fun b => (b.toNat : Int)).foldl (fun r n => r.push (UInt8.ofNat n.toNat)) (mkS acc) = mkS (acc ++ l) := by
      intro l
      induction l with
      | nil => intro acc; simp
      | cons b l ih =>
        intro acc
        simp only [List.map_cons, List.foldl_cons]
        have : (mkS acc).push (UInt8.ofNat (b.toNat : Int).toNat) = mkS (acc ++ [b]) := by
          apply ByteArray.ext
          simp [mkS]
        rw [this, ih, List.append_assoc]; rfl
    exact key l []

theorem step_b2s {ops : Array Oper} {i : Nat} {o : Oper} (ho : opAt ops Γ.nt i s.fr = some o) (sT dT : TypeId) (x : Operand) (hop : o.op = .convert sT dT x) {e : TypeId} (hs : Γ.P.underlying sT = some (.slice e)) (he : Γ.P.underlying e = some (.int .u8)) (hd : Γ.P.underlying dT = some .string)
    {a : Option Addr} {n c : Nat} (hx : ev s.fr x = .slice a n c) (l : List UInt8) (hn : n = l.length) (hc : ∀ w, HS s.hp w → (a = none → l = []) ∧ ∀ ad, a = some ad → cellsAt w ad (u8s l)) :
    Step Γ ops i s (fun s' => s' = ⟨putFr s.fr o.dst (.string (mkS l)), s.hp⟩) := fun Q b' w hS K hK =>
  step_sem ho (fun v hp' => v = .string (mkS l) ∧ hp' = s.hp) (fun w hw => ⟨_, _, _, w, by
    have h1 := run_b2s (P := Γ.P) (w := w) (a := a) (n := n) (c := c) hn (hc w hw).1 (hc w hw).2
    have h2 : (convert sT dT (.slice a n c)).run Γ.P w = .ok (.string (mkS l)) w := by
      cases a <;> simp [convert, run_underlying hs, run_underlying hd, run_underlying he, h1]
    simp only [execOp, hop, hx, Sem.run_bind, Sem.run_pure, Result.andThen_ok, h2], .inl rfl, ⟨rfl, rfl⟩, hw, Ext.refl _ _, Bd.self _ _⟩) Q b' w hS K
    (fun s' ⟨v, hp', ⟨h1, h2⟩, h3⟩ => hK s' (by rw [h3, h1, h2]))

/-- what a row, or what is read alone, gives for step_b2s -/
theorem b2s_row {hp : Hp} {w : World} (h : HS hp w) (i : Nat) {T n cap : Nat} {a : Option Addr} {l : List UInt8} (hi : hp[i]? = some (row T 1 a n cap (u8s l))) : (a = none → l = []) ∧ ∀ ad, a = some ad → cellsAt w ad (u8s l) := by
  have hr := h.holds _ (List.mem_of_getElem? hi)
  obtain ⟨h1, h2, h3, h4, h5⟩ := id hr
  rw [u8s_len] at h1
  rcases h5 with ⟨hc, _⟩ | ⟨g, off, cur, fz, rfl, _⟩
  · have hl : l = [] := List.eq_nil_of_length_eq_zero (by omega)
    exact ⟨fun _ => hl, fun ad h j u hu => by rw [hl] at hu; simp [u8s] at hu⟩
  · exact ⟨(fun h => by cases h), fun ad h => by cases h; exact row_cells hr⟩
theorem b2s_ro {hp : Hp} {w : World} (h : HS hp w) (i : Nat) {a : Option Addr} {l : List UInt8} (hi : hp[i]? = some (ro a (u8s l))) : (a = none → l = []) ∧ ∀ ad, a = some ad → cellsAt w ad (u8s l) := by
  obtain ⟨h1, h2⟩ := h.holds _ (List.mem_of_getElem? hi)
  cases a with
  | none => exact ⟨fun _ => by have h2 : u8s l = [] := h2; simpa [u8s] using h2, fun ad h => by cases h⟩
  | some ad => exact ⟨fun h => (by cases h), fun ad h => by cases h; exact h2⟩

theorem turn_cut_u8 {T n cap : Nat} {a : Option Addr} {l : List UInt8} (n' cap' : Nat) (h1 : n' ≤ n) (h2 : n' ≤ cap') (h3 : cap' ≤ cap) : Turn (row T 1 a n cap (u8s l)) (row T 1 a n' cap' (u8s (l.take n'))) := by
  have := turn_cut (T := T) (sz := 1) (n := n) (cap := cap) (a := a) (xs := u8s l) n' cap' h1 h2 h3
  have e : (u8s l).take (n' * 1) = u8s (l.take n') := by simp [u8s, List.map_take]
  rwa [e] at this
theorem row_cap {hp : Hp} {w : World} (h : HS hp w) (i : Nat) {T sz n cap : Nat} {a : Option Addr} {xs : List Value} (hi : hp[i]? = some (row T sz a n cap xs)) : xs.length = n * sz ∧ n ≤ cap ∧ cap ≤ maxLen := by
  obtain ⟨h1, h2, h3, _⟩ := h.holds _ (List.mem_of_getElem? hi)
  exact ⟨h1, h2, h3⟩
theorem turn_view {c c' : Ch} (v : View c c') : Turn c c' := ⟨v.holds, v.own, fun h => absurd h v.ro⟩
theorem turn_ro {g T : Nat} {l : List Value} (bs : List UInt8) (h : l = u8s bs) : Turn (.blk g T l) (ro (some ⟨g, 0, none⟩) (u8s bs)) := by
  subst h
  have v := view_blk (g := g) (T := T) (l := u8s bs) 0 (u8s bs).length (by simpa using u8s_one bs)
  simp only [List.drop_zero, List.take_length] at v
  exact turn_view v
theorem minE (x y : Int) : (if y < x then y else x) = min x y := by split <;> omega
theorem minmax (s k L : Int) : (s + if (if L - s < k then L - s else k) > 0 then (if L - s < k then L - s else k) else 0) = s + max 0 (min k (L - s)) := by
  split <;> split <;> omega
theorem row_none {hp : Hp} {w : World} (h : HS hp w) (i : Nat) {T sz n cap : Nat} {a : Option Addr} {xs : List Value} (hi : hp[i]? = some (row T sz a n cap xs)) : a = none → xs = [] := fun ha => by
  obtain ⟨h1, h2, h3, h4, h5⟩ := h.holds _ (List.mem_of_getElem? hi)
  subst ha
  rcases h5 with ⟨hc, _⟩ | ⟨g, off, cur, fz, ha, _⟩
  · exact List.eq_nil_of_length_eq_zero (by rw [h1]; have : n = 0 := by omega
                                            subst this; simp)
  · cases ha
/-- A row of at least one element lies somewhere. -/
theorem row_addr {hp : Hp} {w : World} (h : HS hp w) (i : Nat) {T sz n cap : Nat} {a : Option Addr} {xs : List Value} (hi : hp[i]? = some (row T sz a n cap xs)) (hn : 0 < n) : ∃ g off, a = some ⟨g, off, none⟩ := by
  obtain ⟨h1, h2, h3, h4, h5⟩ := h.holds _ (List.mem_of_getElem? hi)
  rcases h5 with ⟨hc, _⟩ | ⟨g, off, cur, fz, ha, _⟩
  · omega
  · exact ⟨g, off, ha⟩

end Go.Sx

/-
  The same steps, read off the code by evaluation.
-/
namespace Go.Sx
open Go
variable {P : Program} {Γ : Cx} {Q : Exit → Act → World → Prop} {s : St}

theorem wpr_eq {ops : Array Oper} {i : Nat} {l₂ : List Nat} {t : St} (st : Step Γ ops i s (fun s' => s' = t)) (h : WpR Γ ops l₂ t Q) : WpR Γ ops (i :: l₂) s Q :=
  wpr_step st fun s' hs' => by subst hs'; exact h
theorem wpa_eq {ops : Array Oper} {hs : Hp} {li : Array Bool} {i n : Nat} {t : St} (hr : Region.ready .any ops li = [i]) (st : Step Γ ops i s (fun s' => s' = t)) (hsub : Sub hs t.hp)
    (h : WpA Γ ops hs n (li.setIfInBounds i true) t Q) : WpA Γ ops hs (n + 1) li s Q :=
  wpa_step hr st (fun s' hs' => by subst hs'; exact hsub) fun s' hs' => by subst hs'; exact h

def convOf (ops : Array Oper) (nt i : Nat) (fr : Fr) : Option (TypeId × TypeId × Value × Option Nat) :=
  match opAt ops nt i fr with
  | some o => match o.op with | .convert a b x => some (a, b, ev fr x, o.dst) | _ => none
  | none => none
def loadOf (ops : Array Oper) (nt i : Nat) (fr : Fr) : Option (TypeId × Value × Option Nat) :=
  match opAt ops nt i fr with
  | some o => match o.op with | .load t p => some (t, ev fr p, o.dst) | _ => none
  | none => none
def storeOf (ops : Array Oper) (nt i : Nat) (fr : Fr) : Option (TypeId × Value × Value × Option Nat) :=
  match opAt ops nt i fr with
  | some o => match o.op with | .store t p x => some (t, ev fr p, ev fr x, o.dst) | _ => none
  | none => none
def b2sTy (P : Program) (a b : TypeId) : Bool :=
  match P.underlying a, P.underlying b with
  | some (.slice e), some .string => match P.underlying e with | some (.int .u8) => true | _ => false
  | _, _ => false
def s2bTy (P : Program) (a b : TypeId) : Option TypeId :=
  match P.underlying a, P.underlying b with
  | some .string, some (.slice e) =>
    match P.underlying e, P.info? e with
    | some (.int .u8), some i => (match i.size == 1 with | true => some e | false => none)
    | _, _ => none
  | _, _ => none

theorem b2s {ops : Array Oper} {i : Nat} {a b : TypeId} {ad : Option Addr} {n c : Nat} {dst : Option Nat} (hc : convOf ops Γ.nt i s.fr = some (a, b, .slice ad n c, dst)) (ht : b2sTy Γ.P a b = true) (l : List UInt8) (hn : n = l.length)
    (hl : ∀ w, HS s.hp w → (ad = none → l = []) ∧ ∀ x, ad = some x → cellsAt w x (u8s l)) : Step Γ ops i s (fun s' => s' = ⟨putFr s.fr dst (.string (mkS l)), s.hp⟩) := by
  unfold convOf at hc
  split at hc
  · rename_i o ho
    split at hc
    · rename_i a' b' x hop
      simp only [Option.some.injEq, Prod.mk.injEq] at hc
      obtain ⟨rfl, rfl, hx, rfl⟩ := hc
      unfold b2sTy at ht
      split at ht
      · rename_i e hs hd
        split at ht
        · rename_i he
          exact step_b2s ho a' b' x hop hs he hd hx l hn hl
        · cases ht
      · cases ht
    · cases hc
  · cases hc

theorem ld {ops : Array Oper} {i : Nat} {t : TypeId} {a : Addr} {dst : Option Nat} (hc : loadOf ops Γ.nt i s.fr = some (t, .pointer (some a), dst)) (b : Bool) (k : Nat) (ht : aggTy Γ.P t = some (b, k)) (hb : b = false → k = 1) (vs : List Value) (hv : vs.length = k)
    (hl : ∀ w, HS s.hp w → cellsAt w a vs) : Step Γ ops i s (fun s' => s' = ⟨putFr s.fr dst (valOf b vs), s.hp⟩) := by
  unfold loadOf at hc
  split at hc
  · rename_i o ho
    split at hc
    · rename_i t' p hop
      simp only [Option.some.injEq, Prod.mk.injEq] at hc
      obtain ⟨rfl, hp, rfl⟩ := hc
      exact step_load ho t' p hop a hp b k ht hb vs hv hl
    · cases hc
  · cases hc

theorem stq {ops : Array Oper} {i : Nat} {t : TypeId} {g off q : Nat} {v : Value} {dst : Option Nat} (hc : storeOf ops Γ.nt i s.fr = some (t, .pointer (some ⟨g, off + q, none⟩), v, dst)) (pi : Nat) {T sz n cap : Nat} {xs : List Value} (hpi : s.hp[pi]? = some (row T sz (some ⟨g, off, none⟩) n cap xs))
    (vs : List Value) (hvs : v.cells = vs.toArray) (hk : (Γ.P.info? t).map (·.size) = some vs.length) (h1 : One vs) (hq : q + vs.length ≤ xs.length) :
    Step Γ ops i s (fun s' => s' = ⟨putFr s.fr dst undef, s.hp.set pi (row T sz (some ⟨g, off, none⟩) n cap (xs.take q ++ vs ++ xs.drop (q + vs.length)))⟩) := by
  unfold storeOf at hc
  split at hc
  · rename_i o ho
    split at hc
    · rename_i t' p x hop
      simp only [Option.some.injEq, Prod.mk.injEq] at hc
      obtain ⟨rfl, hp, hx, rfl⟩ := hc
      obtain ⟨inf, hi, hk'⟩ := Option.map_eq_some_iff.1 hk
      exact step_store ho t' p x hop pi hpi q hp vs (by rw [hx]; exact hvs) inf hi hk' h1 hq
    · cases hc
  · cases hc

end Go.Sx

/-! X9: reading and writing at a place of a row; text to bytes. -/
namespace Go.Sx
open Go

theorem ld_row {hp : Hp} {w : World} (h : HS hp w) (i : Nat) {T sz n cap g off : Nat} {xs : List Value} (hi : hp[i]? = some (row T sz (some ⟨g, off, none⟩) n cap xs)) (q : Nat) {vs : List Value} (hv : (xs.drop q).take vs.length = vs) : cellsAt w ⟨g, off + q, none⟩ vs := by
  have := cells_row h i hi q vs.length
  rwa [hv] at this
theorem ld_ro {hp : Hp} {w : World} (h : HS hp w) (i : Nat) {g off : Nat} {xs : List Value} (hi : hp[i]? = some (ro (some ⟨g, off, none⟩) xs)) (q : Nat) {vs : List Value} (hv : (xs.drop q).take vs.length = vs) : cellsAt w ⟨g, off + q, none⟩ vs := by
  have := cells_ro h i hi q vs.length
  rwa [hv] at this
theorem u8_at {l : List UInt8} {q : Nat} (hq : q < l.length) : ((u8s l).drop q).take 1 = [.int .u8 (l[q]).toNat] := by
  have h : q < (u8s l).length := by rw [u8s_len]; exact hq
  rw [List.drop_eq_getElem_cons h]
  simp [u8s]
theorem u8_set {l : List UInt8} {q : Nat} (hq : q < l.length) (b : UInt8) : (u8s l).take q ++ [.int .u8 b.toNat] ++ (u8s l).drop (q + 1) = u8s (l.set q b) := by
  unfold u8s
  rw [List.set_eq_take_append_cons_drop, if_pos hq]
  simp [List.map_take, List.map_drop]
theorem u8_at1 {l : List UInt8} {q : Nat} (hq : q < l.length) : ((u8s l).drop (q * 1)).take 1 = [.int .u8 (l[q]).toNat] := by rw [Nat.mul_one]; exact u8_at hq
theorem u8_set1 {l : List UInt8} {q : Nat} (hq : q < l.length) (b : UInt8) : (u8s l).take (q * 1) ++ [.int .u8 b.toNat] ++ (u8s l).drop (q * 1 + 1) = u8s (l.set q b) := by rw [Nat.mul_one]; exact u8_set hq b
theorem xor_u8 (b c : UInt8) : (IntKind.u8.wrap ↑(BitVec.ofInt IntKind.u8.bits ↑b.toNat ^^^ BitVec.ofInt IntKind.u8.bits ↑c.toNat).toNat) = ((b ^^^ c).toNat : Int) := by
  have h : IntKind.u8.bits = 8 := rfl
  simp [h, IntKind.wrap, IntKind.signed]
  have := (b ^^^ c).toNat_lt
  rw [UInt8.toNat_xor] at this
  omega
theorem xor_u32 (b c : UInt32) : (IntKind.u32.wrap ↑(BitVec.ofInt IntKind.u32.bits ↑b.toNat ^^^ BitVec.ofInt IntKind.u32.bits ↑c.toNat).toNat) = ((b ^^^ c).toNat : Int) := by
  have h : IntKind.u32.bits = 32 := rfl
  simp [h, IntKind.wrap, IntKind.signed]
  have := (b ^^^ c).toNat_lt
  rw [UInt32.toNat_xor] at this
  omega
theorem stq' {Γ : Cx} {s : St} {ops : Array Oper} {i : Nat} {t : TypeId} {g off q : Nat} {v : Value} {dst : Option Nat} (hc : storeOf ops Γ.nt i s.fr = some (t, .pointer (some ⟨g, off + q, none⟩), v, dst)) (pi : Nat) {T sz n cap : Nat} {xs : List Value} (hpi : s.hp[pi]? = some (row T sz (some ⟨g, off, none⟩) n cap xs))
    (vs : List Value) (hvs : v.cells = vs.toArray) (hk : (Γ.P.info? t).map (·.size) = some vs.length) (h1 : Sx.One vs) (hq : q + vs.length ≤ xs.length) {xs' : List Value} (he : xs.take q ++ vs ++ xs.drop (q + vs.length) = xs') :
    Step Γ ops i s (fun s' => s' = ⟨putFr s.fr dst undef, s.hp.set pi (row T sz (some ⟨g, off, none⟩) n cap xs')⟩) := by
  subst he
  exact stq hc pi hpi vs hvs hk h1 hq
theorem row_addr' {hp : Hp} {w : World} (h : HS hp w) (i : Nat) {T sz n cap : Nat} {a : Option Addr} {xs : List Value} (hi : hp[i]? = some (row T sz a n cap xs)) (hn : 0 < n) : ∃ g off, a = some ⟨g, off, none⟩ := row_addr h i hi hn
end Go.Sx

/-! X10: a text to bytes of their own. -/
namespace Go.Sx
open Go
variable {Γ : Cx} {s : St} {Q : Exit → Act → World → Prop}

theorem s2b {ops : Array Oper} {i : Nat} {a b e : TypeId} {dst : Option Nat} (l : List UInt8) (hc : convOf ops Γ.nt i s.fr = some (a, b, .string (mkS l), dst)) (ht : s2bTy Γ.P a b = some e) (hl : l.length ≤ maxLen) :
    Step Γ ops i s (fun s' => ∃ g cap, s' = ⟨putFr s.fr dst (.slice (some ⟨g, 0, none⟩) l.length cap), s.hp ++ [row e 1 (some ⟨g, 0, none⟩) l.length cap (u8s l)]⟩) := by
  unfold convOf at hc
  split at hc
  · rename_i o ho
    split at hc
    · rename_i a' b' x hop
      simp only [Option.some.injEq, Prod.mk.injEq] at hc
      obtain ⟨rfl, rfl, hx, rfl⟩ := hc
      unfold s2bTy at ht
      split at ht
      · rename_i e' hs hd
        split at ht
        · rename_i inf he hi
          split at ht
          · rename_i hsz
            simp only [Option.some.injEq] at ht
            subst ht
            intro Q bb ww hS K hK
            refine step_sem ho (fun v hp' => ∃ g cap, v = .slice (some ⟨g, 0, none⟩) l.length cap ∧ hp' = s.hp ++ [row e' 1 (some ⟨g, 0, none⟩) l.length cap (u8s l)]) (fun w hw => ?_) Q bb ww hS K ?_
            · have hrun := Lib.run_convert_string_bytes (P := Γ.P) w a' b' e' (mkS l) hs hd he
              have hsame : ∀ k, k < w.heap.size → (Lib.bytesWorld w e' (mkS l)).heap[k]? = w.heap[k]? := fun k hk => Lib.bytesWorld_at_old w e' (mkS l) k hk
              have hge := grownCap_ge w l.length 0 e'
              have hle := grownCap_le_maxLen w l.length 0 e' hl
              have hnew := Lib.bytesWorld_at_new w e' (mkS l)
              have hsz2 : (Lib.bytesCells w e' (mkS l)).size = grownCap w l.length 0 e' := by
                simp only [Lib.bytesCells, Array.size_append, Array.size_map, Array.size_replicate]
                show l.toArray.size + (grownCap w (mkS l).size 0 e' - (mkS l).size) = _
                rw [size_mkS]; simp; omega
              have hrow : (row e' 1 (some ⟨w.heap.size, 0, none⟩) l.length (grownCap w l.length 0 e') (u8s l)).holds (Lib.bytesWorld w e' (mkS l)) := by
                refine ⟨by simp [u8s_len], hge, hle, u8s_one l, .inr ⟨w.heap.size, 0, _, _, rfl, hnew, by rw [hsz2]; omega, ?_, fun o ho h => ?_⟩⟩
                · simp only [Lib.bytesCells, List.drop_zero, Array.toList_append, Array.toList_map, Nat.mul_one]
                  have : (mkS l).data.toList = l := rfl
                  rw [this]
                  show (u8s l ++ _).take l.length = u8s l
                  rw [List.take_left' (u8s_len l)]
                · simp only at h; omega
              refine ⟨_, _, _, _, ?_, .inl rfl, ⟨_, _, rfl, rfl⟩, hw.append hsame hrow (fun k ⟨_, ad, had, hk⟩ => by cases had; exact Nat.le_of_eq hk), ⟨rfl, rfl, rfl, by rw [Lib.bytesWorld_size]; omega, fun k hk _ => hsame k hk⟩, ?_⟩
              · unfold execOp
                rw [hop]
                simp only [Sem.run_bind, hx, hrun, Result.andThen_ok]
                rfl
              · intro c hc hr k hk
                rcases List.mem_append.1 hc with hc | hc
                · exact .inl ⟨c, hc, hr, hk⟩
                · rw [List.mem_singleton.1 hc] at hk
                  obtain ⟨_, ad, had, hk⟩ := hk
                  cases had; exact .inr (Nat.le_of_eq hk)
            · rintro s' ⟨v, hp', ⟨g, cap, rfl, rfl⟩, rfl⟩
              exact hK _ ⟨g, cap, rfl⟩
          · cases ht
        · cases ht
      · cases ht
    · cases hc
  · cases hc

theorem wpr_s2b {ops : Array Oper} {i : Nat} {l₂ : List Nat} {a b e : TypeId} {dst : Option Nat} (l : List UInt8) (hc : convOf ops Γ.nt i s.fr = some (a, b, .string (mkS l), dst)) (ht : s2bTy Γ.P a b = some e) (hl : l.length ≤ maxLen)
    (h : ∀ g cap, WpR Γ ops l₂ ⟨putFr s.fr dst (.slice (some ⟨g, 0, none⟩) l.length cap), s.hp ++ [row e 1 (some ⟨g, 0, none⟩) l.length cap (u8s l)]⟩ Q) : WpR Γ ops (i :: l₂) s Q :=
  wpr_step (s2b l hc ht hl) fun s' ⟨g, cap, h'⟩ => by subst h'; exact h g cap
theorem wpa_s2b {ops : Array Oper} {hs : Hp} {li : Array Bool} {i n : Nat} (hr : Region.ready .any ops li = [i]) {a b e : TypeId} {dst : Option Nat} (l : List UInt8) (hc : convOf ops Γ.nt i s.fr = some (a, b, .string (mkS l), dst)) (ht : s2bTy Γ.P a b = some e) (hl : l.length ≤ maxLen)
    (hsub : Sub hs s.hp)
    (h : ∀ g cap, WpA Γ ops hs n (li.setIfInBounds i true) ⟨putFr s.fr dst (.slice (some ⟨g, 0, none⟩) l.length cap), s.hp ++ [row e 1 (some ⟨g, 0, none⟩) l.length cap (u8s l)]⟩ Q) : WpA Γ ops hs (n + 1) li s Q :=
  wpa_step hr (s2b l hc ht hl) (fun s' ⟨g, cap, h'⟩ => by subst h'; exact fun c hc => List.mem_append_left _ (hsub c hc)) fun s' ⟨g, cap, h'⟩ => by subst h'; exact h g cap
end Go.Sx

namespace Go.Sx
open Go
/-- Elements of one length, one behind the other. -/
theorem fm_at {α : Type} {f : α → List Value} {n : Nat} (hf : ∀ x, (f x).length = n) {l : List α} {q : Nat} (hq : q < l.length) : ((l.flatMap f).drop (q * n)).take n = f l[q] := by
  induction l generalizing q with
  | nil => simp at hq
  | cons x r ih =>
    cases q with
    | zero =>
      simp only [Nat.zero_mul, List.drop_zero, List.flatMap_cons, List.getElem_cons_zero]
      exact List.take_left' (hf x)
    | succ q =>
      have e : (q + 1) * n = (f x).length + q * n := by rw [hf, Nat.add_mul, Nat.one_mul, Nat.add_comm]
      rw [List.flatMap_cons, e, List.drop_append, List.getElem_cons_succ, Nat.add_sub_cancel_left]
      rw [List.drop_eq_nil_of_le (by omega), List.nil_append]
      exact ih (by simpa using hq)
theorem fm_len {α : Type} {f : α → List Value} {n : Nat} (hf : ∀ x, (f x).length = n) (l : List α) : (l.flatMap f).length = l.length * n := by
  induction l with
  | nil => simp
  | cons x r ih => rw [List.flatMap_cons, List.length_append, hf, ih, List.length_cons, Nat.add_mul, Nat.one_mul, Nat.add_comm]
end Go.Sx
namespace Go.Sx
open Go
theorem ro_addr {hp : Hp} {w : World} (h : HS hp w) (i : Nat) {a : Option Addr} {xs : List Value} (hi : hp[i]? = some (ro a xs)) (hn : 0 < xs.length) : ∃ g off, a = some ⟨g, off, none⟩ := by
  obtain ⟨h1, h2⟩ := h.holds _ (List.mem_of_getElem? hi)
  cases a with
  | none => rw [show xs = [] from h2] at hn; simp at hn
  | some ad =>
    obtain ⟨g, off, sp⟩ := ad
    cases sp with
    | none => exact ⟨g, off, rfl⟩
    | some s =>
      have h3 : cellsAt w _ xs := h2
      have h4 := h3 0 xs[0] (List.getElem?_eq_getElem hn)
      simp only [World.cell?, Addr.add] at h4
      split at h4 <;> simp at h4
end Go.Sx

/-! ### two that may come up: each is gone through -/
namespace Go.Sx
open Go
variable {Γ : Cx} {s : St} {Q : Exit → Act → World → Prop}
def WpI (Γ : Cx) (ops : Array Oper) (hs : Hp) (n : Nat) (li : Array Bool) (s : St) (Q : Exit → Act → World → Prop) (i : Nat) : Prop :=
  ∀ a w, Sat Γ s a w → HL hs w → wpOp Γ.P ops Q i (fun b w' => HL hs w' ∧ wpAnyH Γ.P .any ops Q (HL hs) n (li.setIfInBounds i true) b w') a w
theorem wpa_two {ops : Array Oper} {hs : Hp} {li : Array Bool} {i j n : Nat} (hr : Region.ready .any ops li = [i, j]) (h1 : WpI Γ ops hs n li s Q i) (h2 : WpI Γ ops hs n li s Q j) : WpA Γ ops hs (n + 1) li s Q := fun a w hS hL => by
  refine wpAnyH_all hr (by simp) fun k hk => ?_
  rcases List.mem_cons.1 hk with rfl | hk
  · exact h1 a w hS hL
  · rw [List.mem_singleton.1 hk]; exact h2 a w hS hL
theorem wpi_call {ops : Array Oper} {hs : Hp} {li : Array Bool} {i : Nat} {n : Nat} {f : FuncId} {args : List Value} {dst : Option Nat} (hc : callOf Γ.P ops Γ.nt i s.fr = some (f, args, dst))
    {pre rest : Hp} {R : Value → Hp → Prop} (hf : Does Γ.P f args pre R) (g : Give s.hp pre rest) (hsub : Sub hs rest)
    (h : ∀ v hp', R v hp' → WpA Γ ops hs n (li.setIfInBounds i true) ⟨putFr s.fr dst v, hp' ++ rest⟩ Q) : WpI Γ ops hs n li s Q i := fun a w hS hL => by
  refine callOf_sound hc hf g hS fun v hp' hR a' w' hS' => ?_
  have hL' : HL hs w' := fun c hc => hS'.hs.holds c (List.mem_append.2 (.inr (hsub c hc)))
  exact ⟨hL', h v hp' hR a' w' hS' hL'⟩
theorem wpi_step {ops : Array Oper} {hs : Hp} {li : Array Bool} {i n : Nat} {Φ : St → Prop} (st : Step Γ ops i s Φ) (hsub : ∀ s', Φ s' → Sub hs s'.hp)
    (h : ∀ s', Φ s' → WpA Γ ops hs n (li.setIfInBounds i true) s' Q) : WpI Γ ops hs n li s Q i := fun b w hS hL => by
  refine st Q b w hS _ fun s' hs' b' w' hS' => ?_
  have hL' : HL hs w' := fun c hc => hS'.hs.holds c (hsub s' hs' c hc)
  exact ⟨hL', h s' hs' b' w' hS' hL'⟩
theorem wpi_eq {ops : Array Oper} {hs : Hp} {li : Array Bool} {i n : Nat} {t : St} (st : Step Γ ops i s (fun s' => s' = t)) (hsub : Sub hs t.hp)
    (h : WpA Γ ops hs n (li.setIfInBounds i true) t Q) : WpI Γ ops hs n li s Q i := wpi_step st (fun s' h => by subst h; exact hsub) (fun s' h' => by subst h'; exact h)
theorem wpi_s2b {ops : Array Oper} {hs : Hp} {li : Array Bool} {i n : Nat} {a b e : TypeId} {dst : Option Nat} (l : List UInt8) (hc : convOf ops Γ.nt i s.fr = some (a, b, .string (mkS l), dst)) (ht : s2bTy Γ.P a b = some e) (hl : l.length ≤ maxLen)
    (hsub : Sub hs s.hp)
    (h : ∀ g cap, WpA Γ ops hs n (li.setIfInBounds i true) ⟨putFr s.fr dst (.slice (some ⟨g, 0, none⟩) l.length cap), s.hp ++ [row e 1 (some ⟨g, 0, none⟩) l.length cap (u8s l)]⟩ Q) : WpI Γ ops hs n li s Q i :=
  wpi_step (s2b l hc ht hl) (fun s' ⟨g, cap, h'⟩ => by subst h'; exact fun c hc => List.mem_append_left _ (hsub c hc)) fun s' ⟨g, cap, h'⟩ => by subst h'; exact h g cap
end Go.Sx
namespace Go.Sx
open Go
theorem ld_blk {hp : Hp} {w : World} (h : HS hp w) (i : Nat) {g T : Nat} {l : List Value} (hi : hp[i]? = some (.blk g T l)) (q : Nat) {vs : List Value} (hv : (l.drop q).take vs.length = vs) : cellsAt w ⟨g, q, none⟩ vs := fun j u hu => by
  have hb := h.blk hi
  rw [← hv, List.getElem?_take] at hu
  split at hu
  · rw [List.getElem?_drop] at hu
    have e : Addr.add ⟨g, q, none⟩ j = ⟨g, q + j, none⟩ := by unfold Addr.add; split <;> simp_all
    rw [e, cell_blk hb _ rfl rfl]
    exact hu
  · cases hu
end Go.Sx
namespace Go.Sx
open Go
theorem b2s_part {hp : Hp} {w : World} (h : HS hp w) (i : Nat) {a : Option Addr} {l l' : List UInt8} (hi : hp[i]? = some (ro a (u8s l))) (hl : ∃ n, l' = l.take n) : (a = none → l' = []) ∧ ∀ ad, a = some ad → cellsAt w ad (u8s l') := by
  obtain ⟨n, rfl⟩ := hl
  obtain ⟨h1, h2⟩ := b2s_ro h i hi
  refine ⟨fun e => by rw [h1 e]; simp, fun ad e j u hu => h2 ad e j u ?_⟩
  have e2 : u8s (l.take n) = (u8s l).take n := by simp [u8s, List.map_take]
  rw [e2, List.getElem?_take] at hu
  split at hu
  · exact hu
  · cases hu
end Go.Sx

/-! X11: rows that come in: a slice of elements of one length. -/
namespace Go.Sx
open Go

theorem list_of {α : Type} (p : Nat → α → Prop) : ∀ n, (∀ i, i < n → ∃ x, p i x) → ∃ l : List α, l.length = n ∧ ∀ (i : Nat) x, l[i]? = some x → p i x
  | 0, _ => ⟨[], rfl, fun i x h => by simp at h⟩
  | n + 1, h => by
    obtain ⟨l, hl, hp⟩ := list_of p n (fun i hi => h i (by omega))
    obtain ⟨x, hx⟩ := h n (by omega)
    refine ⟨l ++ [x], by simp [hl], fun i y hy => ?_⟩
    rw [List.getElem?_append] at hy
    split at hy
    · exact hp i y hy
    · rename_i hi
      have : i - l.length = 0 := by
        rcases Nat.eq_zero_or_pos (i - l.length) with h' | h'
        · exact h'
        · rw [List.getElem?_eq_none (by simp; omega)] at hy; cases hy
      rw [this] at hy
      simp at hy
      have e : i = n := by omega
      rw [e, ← hy]; exact hx

theorem slice_in {H : Type} {P : Program} {W : World} {base : Nat} {enc : TypeId × Value → H} {held : Bool} {t e : TypeId} {k : Nat} {α : Type} (C : α → List Value) (hC : ∀ x, (C x).length = k) (hC1 : ∀ x, One (C x))
    (ht : P.underlying t = some (.slice e)) (hk : P.cellsOf e = k) (R : α → DataW H → Prop)
    (hR : ∀ n cs y, DataW.trod enc P W base (fun _ => true) held n e cs = some y → ∃ x, cs = C x ∧ R x y.1)
    {a : Option Addr} {len cap : Nat} {d : DataW H} {p : List MemPlace} {fuel : Nat} (hf : DataW.trod enc P W base (fun _ => true) held fuel t (Value.cells (.slice a len cap)).toList = some (d, p)) :
    ∃ l : List α, len = l.length ∧ (a = none → l = []) ∧ roH a (l.flatMap C) W ∧ ∃ ds sp, ds.length = len ∧ (d = .slice ds sp ∨ (d = .nil ∧ ds = [])) ∧ ∀ (i : Nat) x, l[i]? = some x → ∃ y, ds[i]? = some y ∧ R x y := by
  have hone : ∀ l : List α, One (l.flatMap C) := fun l u hu => by
    obtain ⟨x, _, hx⟩ := List.mem_flatMap.1 hu
    exact hC1 x u hx
  rcases DataW.trod_slice ht hf with ⟨hcs, hx⟩ | ⟨ad, l, c, elems, rest, n, _, hcs, hx, hb, hl, hm, hlen, hel, hsp, hns⟩
  · simp [Value.cells] at hcs
    obtain ⟨rfl, rfl, rfl⟩ := hcs
    cases hx
    exact ⟨[], rfl, fun _ => rfl, ⟨hone [], rfl⟩, [], [], rfl, .inr ⟨rfl, rfl⟩, fun i x h => by simp at h⟩
  · simp [Value.cells] at hcs
    obtain ⟨rfl, rfl, rfl⟩ := hcs
    simp only [Prod.mk.injEq] at hx
    obtain ⟨rfl, _⟩ := hx
    obtain ⟨xs, hxl, hxs⟩ := list_of (fun i x => W.cells? base (ad.add (i * k)) k = some (C x) ∧ ∃ y, (elems.map (·.1))[i]? = some y ∧ R x y) len (fun i hi => by
      have h1 := hel i hi
      obtain ⟨y, hy⟩ : ∃ y, elems[i]? = some y := ⟨elems[i]'(by omega), List.getElem?_eq_getElem _⟩
      rw [hy, Option.bind_eq_some_iff] at h1
      obtain ⟨cs, hcs, hyt⟩ := h1
      obtain ⟨x, rfl, hr⟩ := hR n cs y hyt
      rw [hk] at hcs
      exact ⟨x, hcs, y.1, by rw [List.getElem?_map, hy]; rfl, hr⟩)
    refine ⟨xs, hxl.symm, (fun h => by cases h), ⟨hone xs, ?_⟩, elems.map (·.1), rest.map (·.1), by simp [hlen], .inl rfl, fun i x h => (hxs i x h).2⟩
    intro j u hj
    have hjl : j < (xs.flatMap C).length := (List.getElem?_eq_some_iff.1 hj).1
    rw [fm_len hC] at hjl
    have hk0 : 0 < k := by
      rcases Nat.eq_zero_or_pos k with h | h
      · subst h; simp at hjl
      · exact h
    have hq : j / k < xs.length := Nat.div_lt_of_lt_mul (by rw [Nat.mul_comm]; exact hjl)
    have hr : j % k < k := Nat.mod_lt _ hk0
    have hjk : j = j / k * k + j % k := by rw [Nat.mul_comm]; exact (Nat.div_add_mod j k).symm
    have h1 := (hxs (j / k) xs[j / k] (List.getElem?_eq_getElem hq)).1
    have h2 := (World.cells?_some h1).2.2 (j % k) hr
    have h3 := fm_at hC hq
    rw [Addr.add_add, ← hjk] at h2
    rw [h2, ← h3, List.getElem?_take, if_pos hr, List.getElem?_drop, ← hjk]
    exact hj

/-- What a sum of bulks is at least. -/
theorem one_int (k : IntKind) (n : Int) : One [Value.int k n] := by simp [One, Value.oneCell']
end Go.Sx

/-! X12: numbers of 64 bits. -/
namespace Go.Sx
open Go
def foldN (n : Int) : Int := if n < 0 then -2 * n - 1 else 2 * n
theorem u64_wrap (x : Int) : IntKind.u64.wrap x = x % 18446744073709551616 := by simp [IntKind.wrap, IntKind.signed, IntKind.bits]
theorem i64_wrap (x : Int) : IntKind.i64.wrap x = if 9223372036854775808 ≤ x % 18446744073709551616 then x % 18446744073709551616 - 18446744073709551616 else x % 18446744073709551616 := by simp [IntKind.wrap, IntKind.signed, IntKind.bits]; done
theorem ofInt_toNat (x : Int) (h : 0 ≤ x) (h2 : x < 18446744073709551616) : ((BitVec.ofInt 64 x).toNat : Int) = x := by
  rw [BitVec.toNat_ofInt]; omega
theorem fold_math (n : Int) (h1 : -9223372036854775808 ≤ n) (h2 : n ≤ 9223372036854775807) : (IntKind.u64.wrap
      ↑(BitVec.ofInt IntKind.u64.bits
              (IntKind.u64.wrap (IntKind.u64.wrap n * 2 ^ min (Int.toNat 1) IntKind.u64.bits)) ^^^
            BitVec.ofInt IntKind.u64.bits
              (IntKind.u64.wrap (n.fdiv (2 ^ min (Int.toNat 63) IntKind.i64.bits)))).toNat) = foldN n := by
  have e64 : IntKind.u64.bits = 64 := rfl
  have e1 : (2 : Int) ^ min (Int.toNat 1) IntKind.u64.bits = 2 := by decide
  have e63 : (2 : Int) ^ min (Int.toNat 63) IntKind.i64.bits = 9223372036854775808 := by decide
  rw [e1, e63, e64]
  simp only [u64_wrap]
  rw [Int.fdiv_eq_ediv_of_nonneg _ (by omega)]
  unfold foldN
  split
  · rename_i h
    have hd : n / 9223372036854775808 = -1 := by omega
    have hA : n % 18446744073709551616 * 2 % 18446744073709551616 = 2 * n + 18446744073709551616 := by omega
    rw [hd, hA]
    have hB : BitVec.ofInt 64 (-1 % 18446744073709551616) = BitVec.allOnes 64 := by decide
    rw [hB, BitVec.xor_allOnes, BitVec.toNat_not]
    have := ofInt_toNat (2 * n + 18446744073709551616) (by omega) (by omega)
    omega
  · rename_i h
    have hd : n / 9223372036854775808 = 0 := by omega
    have hA : n % 18446744073709551616 * 2 % 18446744073709551616 = 2 * n := by omega
    rw [hd, hA]
    have hB : BitVec.ofInt 64 (0 % 18446744073709551616) = 0#64 := by decide
    rw [hB, BitVec.xor_zero]
    have := ofInt_toNat (2 * n) (by omega) (by omega)
    omega
def unfoldN (f : Int) : Int := if f % 2 = 1 then -(f / 2) - 1 else f / 2
theorem unfold_math (n : Int) (h1 : 0 ≤ n) (h2 : n < 18446744073709551616) : (IntKind.i64.wrap
      ↑(BitVec.ofInt IntKind.i64.bits (IntKind.i64.wrap (n.fdiv (2 ^ min (Int.toNat 1) IntKind.u64.bits))) ^^^
            BitVec.ofInt IntKind.i64.bits
              (IntKind.i64.wrap
                (0 -
                  IntKind.i64.wrap
                    (IntKind.u64.wrap
                      ↑(BitVec.ofInt IntKind.u64.bits n &&& BitVec.ofInt IntKind.u64.bits 1).toNat)))).toNat) = unfoldN n := by
  have e64 : IntKind.u64.bits = 64 := rfl
  have e64' : IntKind.i64.bits = 64 := rfl
  have e1 : (2 : Int) ^ min (Int.toNat 1) IntKind.u64.bits = 2 := by decide
  rw [e1, e64, e64', Int.fdiv_eq_ediv_of_nonneg _ (by omega)]
  have hand : ((BitVec.ofInt 64 n &&& BitVec.ofInt 64 1).toNat : Int) = n % 2 := by
    rw [BitVec.toNat_and, show (BitVec.ofInt 64 1).toNat = 1 from by decide, Nat.and_one_is_mod]
    have := ofInt_toNat n h1 h2
    omega
  rw [hand]
  simp only [u64_wrap]
  unfold unfoldN
  have hq : IntKind.i64.wrap (n / 2) = n / 2 := by rw [i64_wrap]; split <;> omega
  rw [hq]
  split
  · rename_i h
    rw [h]
    have hB : BitVec.ofInt 64 (IntKind.i64.wrap (0 - IntKind.i64.wrap (1 % 18446744073709551616))) = BitVec.allOnes 64 := by decide
    rw [hB, BitVec.xor_allOnes, BitVec.toNat_not]
    have := ofInt_toNat (n / 2) (by omega) (by omega)
    rw [i64_wrap]
    split <;> omega
  · rename_i h
    have : n % 2 = 0 := by omega
    rw [this]
    have hB : BitVec.ofInt 64 (IntKind.i64.wrap (0 - IntKind.i64.wrap (0 % 18446744073709551616))) = 0#64 := by decide
    rw [hB, BitVec.xor_zero, ofInt_toNat _ (by omega) (by omega), hq]
end Go.Sx

/-! X13: whole numbers in rows; append to a part of a row; clear; heaps within one chunk. -/
namespace Go.Sx
open Go
variable {P : Program} {Γ : Cx} {Q : Exit → Act → World → Prop} {s : St}

def ints (l : List Int) : List Value := l.map (Value.int .i64)
theorem ints_len (l : List Int) : (ints l).length = l.length := by simp [ints]
theorem ints_one (l : List Int) : One (ints l) := fun u hu => by
  simp only [ints, List.mem_map] at hu
  obtain ⟨b, _, rfl⟩ := hu
  rfl
theorem ints_append (l r : List Int) : ints l ++ ints r = ints (l ++ r) := by simp [ints]
theorem ints_at {l : List Int} {q : Nat} (hq : q < l.length) : ((ints l).drop (q * 1)).take 1 = [.int .i64 l[q]] := by
  have h : q < (ints l).length := by rw [ints_len]; exact hq
  rw [Nat.mul_one, List.drop_eq_getElem_cons h]
  simp [ints]
theorem ints_take (l : List Int) (n : Nat) : (ints l).take n = ints (l.take n) := by simp [ints, List.map_take]
theorem ints_drop (l : List Int) (n : Nat) : (ints l).drop n = ints (l.drop n) := by simp [ints, List.map_drop]
theorem turn_ints {T n cap : Nat} {a : Option Addr} {l : List Int} (n' cap' : Nat) (h1 : n' ≤ n) (h2 : n' ≤ cap') (h3 : cap' ≤ cap) : Turn (row T 1 a n cap (ints l)) (row T 1 a n' cap' (ints (l.take n'))) := by
  have := turn_cut (T := T) (sz := 1) (n := n) (cap := cap) (a := a) (xs := ints l) n' cap' h1 h2 h3
  rwa [Nat.mul_one, ints_take] at this

theorem turn_rints {g T : Nat} {l : List Value} (bs : List Int) (h : l = ints bs) : Turn (.blk g T l) (ro (some ⟨g, 0, none⟩) (ints bs)) := by
  subst h
  have v := view_blk (g := g) (T := T) (l := ints bs) 0 (ints bs).length (by simpa using ints_one bs)
  simp only [List.drop_zero, List.take_length] at v
  exact turn_view v
/-- A block, whatever is in it, read alone. -/
theorem turn_rblk {g T : Nat} {l : List Value} (h : One l) : Turn (.blk g T l) (ro (some ⟨g, 0, none⟩) l) := by
  have v := view_blk (g := g) (T := T) (l := l) 0 l.length (by simpa using h)
  simp only [List.drop_zero, List.take_length] at v
  exact turn_view v

/-! ### append behind the front of a row -/
theorem wpr_app_cut {ops : Array Oper} {i : Nat} {l₂ : List Nat} {a : Option Addr} {n cap : Nat} {x : Value} {t xt : TypeId} {dst : Option Nat} (ho : appOf ops Γ.nt i s.fr = some (.slice a n cap, x, t, xt, dst))
    {e sz bytes : Nat} (ht : rowTy Γ.P t xt = some (e, sz, bytes)) (p : Nat) {n0 : Nat} {xs : List Value} (hp : s.hp[p]? = some (row e sz a n0 cap xs)) (hn0 : n ≤ n0) (hncap : n ≤ cap) {m : Nat} {news : List Value} (hsrc : ∀ w, HS s.hp w → srcOk w sz x m news)
    (h63 : n + m ≤ maxLen) (hb : (n + m) * bytes ≤ 140737488355328)
    (h : ∀ a' cap', (a' = none ↔ a = none ∧ m = 0) → (n + m ≤ cap → a' = a ∧ cap' = cap) → WpR Γ ops l₂ ⟨putFr s.fr dst (.slice a' (n + m) cap'), s.hp.set p (row e sz a' (n + m) cap' (xs.take (n * sz) ++ news))⟩ Q) : WpR Γ ops (i :: l₂) s Q := fun b w hS => by
  rw [wpOps_cons]
  have hsrcw := hsrc w hS.hs
  have t1 : Turn (row e sz a n0 cap xs) (row e sz a n cap (xs.take (n * sz))) := turn_cut n cap hn0 hncap (Nat.le_refl _)
  have hS1 : Sat Γ ⟨s.fr, s.hp.set p (row e sz a n cap (xs.take (n * sz)))⟩ b w := ent_turn p _ hp t1 rfl b w hS
  have hlt := (List.getElem?_eq_some_iff.1 hp).1
  have hget : (s.hp.set p (row e sz a n cap (xs.take (n * sz))))[p]? = some (row e sz a n cap (xs.take (n * sz))) := by simp [hlt]
  refine app_wpOp (s := ⟨s.fr, s.hp.set p (row e sz a n cap (xs.take (n * sz)))⟩) ho ht p hget h63 hb hS1 hsrcw fun a' cap' hn hfit b' w' hS' => ?_
  have hS'' := hS'
  simp only [List.set_set] at hS''
  exact h a' cap' hn hfit b' w' hS''
theorem wpa_app_cut {ops : Array Oper} {hs : Hp} {li : Array Bool} {i : Nat} {nf : Nat} (hr : Region.ready .any ops li = [i]) {a : Option Addr} {n cap : Nat} {x : Value} {t xt : TypeId} {dst : Option Nat} (ho : appOf ops Γ.nt i s.fr = some (.slice a n cap, x, t, xt, dst))
    {e sz bytes : Nat} (ht : rowTy Γ.P t xt = some (e, sz, bytes)) (p : Nat) {n0 : Nat} {xs : List Value} (hp : s.hp[p]? = some (row e sz a n0 cap xs)) (hn0 : n ≤ n0) (hncap : n ≤ cap) {m : Nat} {news : List Value} (hsrc : ∀ w, HS s.hp w → srcOk w sz x m news)
    (h63 : n + m ≤ maxLen) (hb : (n + m) * bytes ≤ 140737488355328) (is : List Nat) (hsub : is.map (fun i => (s.hp.eraseIdx p)[i]?) = hs.map some)
    (h : ∀ a' cap', (a' = none ↔ a = none ∧ m = 0) → (n + m ≤ cap → a' = a ∧ cap' = cap) → WpA Γ ops hs nf (li.setIfInBounds i true) ⟨putFr s.fr dst (.slice a' (n + m) cap'), s.hp.set p (row e sz a' (n + m) cap' (xs.take (n * sz) ++ news))⟩ Q) : WpA Γ ops hs (nf + 1) li s Q := fun b w hS hL => by
  refine wpAnyH_all hr (by simp) fun j hj => ?_
  rw [List.mem_singleton.1 hj]
  have hsrcw := hsrc w hS.hs
  have t1 : Turn (row e sz a n0 cap xs) (row e sz a n cap (xs.take (n * sz))) := turn_cut n cap hn0 hncap (Nat.le_refl _)
  have hS1 : Sat Γ ⟨s.fr, s.hp.set p (row e sz a n cap (xs.take (n * sz)))⟩ b w := ent_turn p _ hp t1 rfl b w hS
  have hlt := (List.getElem?_eq_some_iff.1 hp).1
  have hget : (s.hp.set p (row e sz a n cap (xs.take (n * sz))))[p]? = some (row e sz a n cap (xs.take (n * sz))) := by simp [hlt]
  refine app_wpOp (s := ⟨s.fr, s.hp.set p (row e sz a n cap (xs.take (n * sz)))⟩) ho ht p hget h63 hb hS1 hsrcw fun a' cap' hn hfit b' w' hS' => ?_
  have hS'' := hS'
  simp only [List.set_set] at hS''
  have hL' : HL hs w' := fun c hc => hS''.hs.holds c (by
    have h1 := sub_of is hsub c hc
    obtain ⟨k, hk⟩ := List.getElem?_of_mem h1
    rw [List.getElem?_eraseIdx] at hk
    split at hk
    · rename_i hlt
      refine List.mem_of_getElem? (i := k) ?_
      rw [List.getElem?_set, if_neg (by omega)]; exact hk
    · rename_i hlt
      refine List.mem_of_getElem? (i := k + 1) ?_
      rw [List.getElem?_set, if_neg (by omega)]; exact hk)
  exact ⟨hL', h a' cap' hn hfit b' w' hS'' hL'⟩
theorem src_row_from {hp : Hp} {w : World} (h : HS hp w) (i : Nat) {T sz n cap g off q m c' : Nat} {xs : List Value} (hi : hp[i]? = some (row T sz (some ⟨g, off, none⟩) n cap xs)) (hq : q + m = n) {l : Int} (hl : l = q) : srcOk w sz (.slice (some ⟨g, sOff off l (cap : Int) sz, none⟩) m c') m (xs.drop (q * sz)) := by
  subst hl
  obtain ⟨h1, h2, h3, h4, h5⟩ := h.holds _ (List.mem_of_getElem? hi)
  refine ⟨fun u hu => h4 u (List.mem_of_mem_drop hu), rfl, ?_, ?_⟩
  · rw [List.length_drop, h1, ← hq, Nat.add_mul]; omega
  · unfold sOff
    split
    · have hz : xs.drop (q * sz) = [] := List.drop_eq_nil_of_le (by rw [h1]; exact Nat.mul_le_mul_right _ (by omega))
      rw [hz]; intro j u hu; simp at hu
    · have := cells_row h i hi (q * sz) (xs.length)
      rw [List.take_of_length_le (by simp)] at this
      exact this

/-! ### a stretch of a row's room is cleared -/
theorem clear_row {w : World} {T sz n cap g off q k : Nat} {xs vs : List Value} (h1 : Sx.One vs) (hl : vs.length = k * sz) (hr : rowH T sz (some ⟨g, off, none⟩) n cap xs w) (hq : n * sz ≤ q) (hk : q + k * sz ≤ cap * sz) :
    (storeCells ⟨g, off + q, none⟩ vs).run P w = .ok () (w.setCells g (off + q) vs) ∧ rowH T sz (some ⟨g, off, none⟩) n cap xs (w.setCells g (off + q) vs) := by
  obtain ⟨k1, k2, k3, k4, k5⟩ := hr
  by_cases hvs0 : vs = []
  · subst hvs0
    have hst := run_storeCells_cells (P := P) g (off + q) [] 0 w (fun j hj => absurd hj (by simp)) (fun j hj => absurd hj (by simp)) (fun u hu => by cases hu)
    simp only [Nat.add_zero] at hst
    exact ⟨hst, k1, k2, k3, k4, k5⟩
  have hvl : 0 < vs.length := List.length_pos_iff.2 hvs0
  rcases k5 with ⟨h, _⟩ | ⟨g', off', cur, fz, ha, hg, hs, hx, hfz⟩
  · subst h; rw [Nat.zero_mul] at hk; rw [hl] at hvl; omega
  · cases ha
    have hst := run_storeCells_cells (P := P) g (off + q) vs 0 w
      (fun j hj => by simp only [World.cell?, hg]; simp [show off + q + j < cur.size by omega])
      (fun j hj => by
        have h9 := hfz (off + q + 0 + j) (by omega)
        simp only [World.frozen?, hg]
        simp only [Bool.and_eq_false_iff, decide_eq_false_iff_not]
        omega) h1
    simp only [Nat.add_zero] at hst
    have hset := setCells_heap (news := vs) hg (show off + q + vs.length ≤ cur.size by omega)
    refine ⟨hst, k1, k2, k3, k4, .inr ⟨g, off, _, fz, rfl, hset, ?_, ?_, ?_⟩⟩
    · simp only [List.size_toArray, List.length_append, List.length_take, List.length_drop, Array.length_toList]; omega
    · simp only []
      rw [List.append_assoc, List.drop_append_of_le_length (by simp; omega), List.take_append_of_le_length (by simp; omega), List.drop_take, List.take_take, Nat.min_eq_left (by omega)]
      exact hx
    · intro o ho
      refine hfz o ?_
      simp only [List.size_toArray, List.length_append, List.length_take, List.length_drop, Array.length_toList] at ho
      omega

def clearOf (ops : Array Oper) (nt : Nat) (i : Nat) (fr : Fr) : Option (Value × TypeId × Option Nat) :=
  match opAt ops nt i fr with
  | some o => match o.op with
    | .call c => match c.callee, c.args.toList, c.argTypes.toList with
      | .builtin .clear, [x], [t] => some (ev fr x, t, o.dst)
      | _, _, _ => none
    | _ => none
  | none => none
/-- A slice's element type, and the cells of its zero. -/
def zeroTy (P : Program) (t : TypeId) : Option (List Value) :=
  match P.underlying t with
  | some (.slice e) => match P.info? e with
    | some i => match i.zero with
      | some z => some z.cells.toList
      | none => none
    | none => none
  | _ => none

theorem step_clear {ops : Array Oper} {i : Nat} {g off q k c : Nat} {t : TypeId} {dst : Option Nat} (hc : clearOf ops Γ.nt i s.fr = some (.slice (some ⟨g, off + q, none⟩) k c, t, dst)) {zs : List Value} (hz : zeroTy Γ.P t = some zs) (hz1 : Sx.One zs)
    (p : Nat) {T sz n cap : Nat} {xs : List Value} (hp : s.hp[p]? = some (row T sz (some ⟨g, off, none⟩) n cap xs)) (hzl : zs.length = sz) (hq : n * sz ≤ q) (hk : q + k * sz ≤ cap * sz) :
    Step Γ ops i s (fun s' => s' = ⟨putFr s.fr dst (.tuple #[]), s.hp⟩) := by
  unfold clearOf at hc
  split at hc
  case h_2 => cases hc
  case h_1 o ho =>
    split at hc
    case h_2 => cases hc
    case h_1 cl hop =>
      split at hc
      case h_2 => cases hc
      case h_1 x t' hcal hargs hts =>
        simp only [Option.some.injEq, Prod.mk.injEq] at hc
        obtain ⟨hx, rfl, rfl⟩ := hc
        have e1 : cl.args = #[x] := by apply Array.ext'; simpa using hargs
        have e2 : cl.argTypes = #[t'] := by apply Array.ext'; simpa using hts
        unfold zeroTy at hz
        split at hz
        case h_2 => cases hz
        case h_1 e hu =>
          split at hz
          case h_2 => cases hz
          case h_1 inf hi =>
            split at hz
            case h_2 => cases hz
            case h_1 z hzv =>
              simp only [Option.some.injEq] at hz
              subst hz
              intro Q b' w' hS K hK
              refine step_sem ho (fun v hp' => v = .tuple #[] ∧ hp' = s.hp) (fun w hw => ?_) Q b' w' hS K (fun s' ⟨v, hp', ⟨h1, h2⟩, h3⟩ => hK s' (by rw [h3, h1, h2]))
              cases k with
              | zero =>
                refine ⟨_, _, _, w, ?_, .inl rfl, ⟨rfl, rfl⟩, hw, Ext.refl _ _, Bd.self _ _⟩
                simp only [execOp, hop, resolve, hcal, e1, e2, invoke, builtin, Sem.run_bind, Sem.run_pure, Result.andThen_ok, List.map_toArray, List.map_cons, List.map_nil, hx]
                simp [Builtin.clear_, run_underlying hu]
              | succ k =>
                have hvl : (Builtin.zeroCells z.cells (k + 1)).toList.length = (k + 1) * sz := by
                  have := size_zeroCells z.cells (k + 1)
                  simp only [Array.length_toList, this]
                  rw [← hzl]; simp [Nat.mul_comm]
                have hone : Sx.One (Builtin.zeroCells z.cells (k + 1)).toList := by
                  have key : ∀ m, Sx.One (Builtin.zeroCells z.cells m).toList := by
                    intro m u hu
                    simp only [Builtin.zeroCells, Array.toList_map, List.mem_map, Array.toList_range, List.mem_range] at hu
                    obtain ⟨j, hj, rfl⟩ := hu
                    have hpos : 0 < z.cells.size := by
                      rcases Nat.eq_zero_or_pos z.cells.size with h | h
                      · rw [h] at hj; simp at hj
                      · exact h
                    have hlt := Nat.mod_lt j hpos
                    rw [getElem!_pos z.cells (j % z.cells.size) hlt]
                    exact hz1 _ (by simp)
                  exact key _
                obtain ⟨h2, h3⟩ := clear_row (P := Γ.P) hone hvl (hw.holds _ (List.mem_of_getElem? hp)) hq hk
                obtain ⟨z1, z2, z3, z4⟩ := setCells_size (g := g) (news := (Builtin.zeroCells z.cells (k + 1)).toList) (k := off + q) (w := w)
                have hsz : 0 < sz ∨ sz = 0 := by omega
                have hrest : ∀ j, ¬ (0 < cap ∧ rowOwn (some ⟨g, off, none⟩) j) → j < w.heap.size → (w.setCells g (off + q) (Builtin.zeroCells z.cells (k + 1)).toList).heap[j]? = w.heap[j]? := fun j hj _ => by
                  by_cases hvs0 : (Builtin.zeroCells z.cells (k + 1)).toList = []
                  · rw [hvs0]; rfl
                  · refine setCells_other (fun e => hj ⟨?_, _, rfl, e.symm⟩)
                    have hl : 0 < (Builtin.zeroCells z.cells (k + 1)).toList.length := List.length_pos_iff.2 hvs0
                    rcases Nat.eq_zero_or_pos cap with hc | hc
                    · subst hc; rw [Nat.zero_mul] at hk; omega
                    · exact hc
                have hw' := hw.put (c' := row T sz (some ⟨g, off, none⟩) n cap xs) hp trivial (fun k h => .inl h) h3 hrest
                have hset : s.hp.set p (row T sz (some ⟨g, off, none⟩) n cap xs) = s.hp := by
                  obtain ⟨hl, he⟩ := List.getElem?_eq_some_iff.1 hp
                  rw [← he]; exact List.set_getElem_self hl
                rw [hset] at hw'
                refine ⟨_, _, _, _, ?_, .inl rfl, ⟨rfl, rfl⟩, hw', ⟨z2, z3, z4, by rw [z1]; exact Nat.le_refl _, fun k hk hf => hrest k (fun ho => hf ⟨_, List.mem_of_getElem? hp, trivial, ho⟩) hk⟩, fun c hc hr k hk => .inl ⟨c, hc, hr, hk⟩⟩
                simp only [execOp, hop, resolve, hcal, e1, e2, invoke, builtin, Sem.run_bind, Sem.run_pure, Result.andThen_ok, List.map_toArray, List.map_cons, List.map_nil, hx]
                simp [Builtin.clear_, run_underlying hu, zeroValue, typeInfo, hi, hzv, h2]

/-! ### quiet operations of regions that draw: they read what no operation turns -/
theorem wpa_quiet [PanicOk Q] {ops : Array Oper} {hs : Hp} {li : Array Bool} {i n : Nat} {o : Oper} (hns : Region.noSelect ops = true) (ho : opAt ops Γ.nt i s.fr = some o)
    (hr : (Region.ready .any ops li).contains i = true) (hf : Region.free .any ops li i = true) (v : Value) (hrun : ∀ w, HL hs w → (execOp (ev s.fr) o).run Γ.P w = .ok (.value v) w)
    (h : WpA Γ ops hs n (li.setIfInBounds i true) ⟨putFr s.fr o.dst v, s.hp⟩ Q) : WpA Γ ops hs (n + 1) li s Q := fun a w hS hL => by
  unfold opAt at ho
  split at ho
  · cases ho
  · rename_i o' hoi
    split at ho
    · rename_i hd hw hk
      simp only [Option.some.injEq] at ho
      subst ho
      have hQ : ∀ c (a : Act) w, Q (.panic c) (a.put o'.dst v) w → Q (.panic c) a w := fun c a w h => PanicOk.ok (Q := Q) c _ a w (defers_put _ _) h
      exact wpAnyH_take hoi hns hf hr hQ (.inl ⟨wants_ok hS.fr hw, fun w' hw' => by rw [ev_eq hS.fr hk]; exact hrun w' hw'⟩) hL (h _ _ (hS.put hd v) hL)
    · cases ho
theorem b2s_roL {hs : Hp} {w : World} (h : HL hs w) (i : Nat) {a : Option Addr} {l : List UInt8} (hi : hs[i]? = some (ro a (u8s l))) : (a = none → l = []) ∧ ∀ ad, a = some ad → cellsAt w ad (u8s l) := by
  obtain ⟨h1, h2⟩ := h _ (List.mem_of_getElem? hi)
  cases a with
  | none => exact ⟨fun _ => by have h2 : u8s l = [] := h2; simpa [u8s] using h2, fun ad h => by cases h⟩
  | some ad => exact ⟨fun h => (by cases h), fun ad h => by cases h; exact h2⟩
theorem wpa_qb2s [PanicOk Q] {ops : Array Oper} {hs : Hp} {li : Array Bool} {i n : Nat} (hns : Region.noSelect ops = true) (hr : (Region.ready .any ops li).contains i = true) (hf : Region.free .any ops li i = true)
    {a b : TypeId} {ad : Option Addr} {m c : Nat} {dst : Option Nat} (hc : convOf ops Γ.nt i s.fr = some (a, b, .slice ad m c, dst)) (ht : b2sTy Γ.P a b = true) (l : List UInt8) (hn : m = l.length)
    (hl : ∀ w, HL hs w → (ad = none → l = []) ∧ ∀ x, ad = some x → cellsAt w x (u8s l))
    (h : WpA Γ ops hs n (li.setIfInBounds i true) ⟨putFr s.fr dst (.string (mkS l)), s.hp⟩ Q) : WpA Γ ops hs (n + 1) li s Q := by
  unfold convOf at hc
  split at hc
  · rename_i o ho
    split at hc
    · rename_i a' b' x hop
      simp only [Option.some.injEq, Prod.mk.injEq] at hc
      obtain ⟨rfl, rfl, hx, rfl⟩ := hc
      unfold b2sTy at ht
      split at ht
      · rename_i e hs' hd
        split at ht
        · rename_i he
          refine wpa_quiet hns ho hr hf (.string (mkS l)) (fun w hw => ?_) h
          have h1 := run_b2s (P := Γ.P) (w := w) (a := ad) (n := m) (c := c) hn (hl w hw).1 (hl w hw).2
          have h2 : (convert a' b' (.slice ad m c)).run Γ.P w = .ok (.string (mkS l)) w := by
            cases ad <;> simp [convert, run_underlying hs', run_underlying hd, run_underlying he, h1]
          simp only [execOp, hop, hx, Sem.run_bind, Sem.run_pure, Result.andThen_ok, h2]
        · cases ht
      · cases ht
    · cases hc
  · cases hc
theorem wpa_qld [PanicOk Q] {ops : Array Oper} {hs : Hp} {li : Array Bool} {i n : Nat} (hns : Region.noSelect ops = true) (hr : (Region.ready .any ops li).contains i = true) (hf : Region.free .any ops li i = true)
    {t : TypeId} {a : Addr} {dst : Option Nat} (hc : loadOf ops Γ.nt i s.fr = some (t, .pointer (some a), dst)) (b : Bool) (k : Nat) (ht : aggTy Γ.P t = some (b, k)) (hb : b = false → k = 1) (vs : List Value) (hv : vs.length = k)
    (hl : ∀ w, HL hs w → cellsAt w a vs)
    (h : WpA Γ ops hs n (li.setIfInBounds i true) ⟨putFr s.fr dst (valOf b vs), s.hp⟩ Q) : WpA Γ ops hs (n + 1) li s Q := by
  unfold loadOf at hc
  split at hc
  · rename_i o ho
    split at hc
    · rename_i t' p hop
      simp only [Option.some.injEq, Prod.mk.injEq] at hc
      obtain ⟨rfl, hp, rfl⟩ := hc
      refine wpa_quiet hns ho hr hf (valOf b vs) (fun w hw => ?_) h
      simp only [execOp, hop, hp, Instr.loadAt, Instr.sureAddr, Sem.run_bind, Sem.run_pure, Result.andThen_ok, run_loadVar' ht hv hb (hl w hw)]
    · cases hc
  · cases hc
theorem ld_roL {hs : Hp} {w : World} (h : HL hs w) (i : Nat) {g off : Nat} {xs : List Value} (hi : hs[i]? = some (ro (some ⟨g, off, none⟩) xs)) (q : Nat) {vs : List Value} (hv : (xs.drop q).take vs.length = vs) : cellsAt w ⟨g, off + q, none⟩ vs := fun j u hu => by
  have h1 := (h _ (List.mem_of_getElem? hi)).2
  rw [← hv, List.getElem?_take] at hu
  split at hu
  · rw [List.getElem?_drop] at hu
    rw [add_lit', Nat.add_assoc, ← add_lit']; exact h1 _ _ hu
  · cases hu

/-! ### one of several operations that may come next -/
theorem wpi_one {ops : Array Oper} {hs : Hp} {li : Array Bool} (md : Bool) (i : Nat) (sc : List Nat) (fr' : Fr) (hp' : Hp) (vc : List Prop) {n : Nat}
    (h1 : (sop Γ.P md ops Γ.nt i s.fr s.hp none sc).isSome = true)
    (h2 : (sop Γ.P md ops Γ.nt i s.fr s.hp none sc).map (fun r => (fr'.map (fun p => look r.fr p.1), r.hp, r.gs, r.vc)) = (sop Γ.P md ops Γ.nt i s.fr s.hp none sc).map (fun r => (fr'.map (fun p => some p.2), hp', r.ws, vc)))
    (hv : AllP vc) (hsub : Sub hs hp') (h : WpA Γ ops hs n (li.setIfInBounds i true) ⟨fr', hp'⟩ Q) : WpI Γ ops hs n li s Q i := fun a w hS hL => by
  obtain ⟨r, hrs⟩ := Option.isSome_iff_exists.1 h1
  rw [hrs] at h2
  simp only [Option.map_some, Option.some.injEq, Prod.mk.injEq] at h2
  obtain ⟨h3, h4, h5, h6⟩ := h2
  refine sop_sound hrs h5 (h6 ▸ hv) hS (fun m hm => by cases hm) fun a' w' hS' _ => ?_
  rw [h4] at hS'
  have hL' : HL hs w' := fun c hc => hS'.hs.holds c (hsub c hc)
  exact ⟨hL', h a' w' (hS'.frames h3) hL'⟩
theorem wpi_new {ops : Array Oper} {hs : Hp} {li : Array Bool} (md : Bool) (i : Nat) (sc : List Nat) (fr' : Nat → Fr) (hp' : Nat → Hp) (vc : Nat → List Prop) {n : Nat}
    (h1 : ∀ g, (sop Γ.P md ops Γ.nt i s.fr s.hp (some g) sc).isSome = true)
    (h2 : ∀ g, (sop Γ.P md ops Γ.nt i s.fr s.hp (some g) sc).map (fun r => ((fr' g).map (fun p => look r.fr p.1), r.hp, r.gs, r.vc)) = (sop Γ.P md ops Γ.nt i s.fr s.hp (some g) sc).map (fun r => ((fr' g).map (fun p => some p.2), hp' g, r.ws, vc g)))
    (hv : ∀ g, AllP (vc g)) (hsub : ∀ g, Sub hs (hp' g)) (h : ∀ g, WpA Γ ops hs n (li.setIfInBounds i true) ⟨fr' g, hp' g⟩ Q) : WpI Γ ops hs n li s Q i := fun a w hS hL => by
  obtain ⟨r, hrs⟩ := Option.isSome_iff_exists.1 (h1 w.heap.size)
  have h2 := h2 w.heap.size
  rw [hrs] at h2
  simp only [Option.map_some, Option.some.injEq, Prod.mk.injEq] at h2
  obtain ⟨h3, h4, h5, h6⟩ := h2
  refine sop_sound hrs h5 (h6 ▸ hv _) hS (fun m hm => by cases hm; rfl) fun a' w' hS' _ => ?_
  rw [h4] at hS'
  have hL' : HL hs w' := fun c hc => hS'.hs.holds c (hsub _ c hc)
  exact ⟨hL', h _ a' w' (hS'.frames h3) hL'⟩
theorem wpi_app {ops : Array Oper} {hs : Hp} {li : Array Bool} {i : Nat} {nf : Nat} {a : Option Addr} {n cap : Nat} {x : Value} {t xt : TypeId} {dst : Option Nat} (ho : appOf ops Γ.nt i s.fr = some (.slice a n cap, x, t, xt, dst))
    {e sz bytes : Nat} (ht : rowTy Γ.P t xt = some (e, sz, bytes)) (p : Nat) {xs : List Value} (hp : s.hp[p]? = some (row e sz a n cap xs)) {m : Nat} {news : List Value} (hsrc : ∀ w, HS s.hp w → srcOk w sz x m news)
    (h63 : n + m ≤ maxLen) (hb : (n + m) * bytes ≤ 140737488355328) (is : List Nat) (hsub : is.map (fun i => (s.hp.eraseIdx p)[i]?) = hs.map some)
    (h : ∀ a' cap', (a' = none ↔ a = none ∧ m = 0) → WpA Γ ops hs nf (li.setIfInBounds i true) ⟨putFr s.fr dst (.slice a' (n + m) cap'), s.hp.set p (row e sz a' (n + m) cap' (xs ++ news))⟩ Q) : WpI Γ ops hs nf li s Q i := fun b w hS hL => by
  refine app_wpOp ho ht p hp h63 hb hS (hsrc w hS.hs) fun a' cap' hn _ b' w' hS' => ?_
  have hL' : HL hs w' := fun c hc => hS'.hs.holds c (by
    have h1 := sub_of is hsub c hc
    obtain ⟨k, hk⟩ := List.getElem?_of_mem h1
    rw [List.getElem?_eraseIdx] at hk
    split at hk
    · rename_i hlt
      refine List.mem_of_getElem? (i := k) ?_
      rw [List.getElem?_set, if_neg (by omega)]; exact hk
    · rename_i hlt
      refine List.mem_of_getElem? (i := k + 1) ?_
      rw [List.getElem?_set, if_neg (by omega)]; exact hk)
  exact ⟨hL', h a' cap' hn b' w' hS' hL'⟩
theorem wpi_ent {s' : St} {ops : Array Oper} {hs : Hp} {n : Nat} {li : Array Bool} {i : Nat} (e : Ent Γ s s') (h : WpI Γ ops hs n li s' Q i) : WpI Γ ops hs n li s Q i := fun a w hS hL => h a w (e a w hS) hL
/-- As many as may come up: each is gone through. -/
theorem wpa_all {ops : Array Oper} {hs : Hp} {li : Array Bool} {n : Nat} (l : List Nat) (hr : Region.ready .any ops li = l) (hne : l ≠ []) (h : ∀ i ∈ l, WpI Γ ops hs n li s Q i) : WpA Γ ops hs (n + 1) li s Q := fun a w hS hL => by
  refine wpAnyH_all hr hne fun k hk => ?_
  exact h k hk a w hS hL
theorem wpa_three {ops : Array Oper} {hs : Hp} {li : Array Bool} {i j k n : Nat} (hr : Region.ready .any ops li = [i, j, k]) (h1 : WpI Γ ops hs n li s Q i) (h2 : WpI Γ ops hs n li s Q j) (h3 : WpI Γ ops hs n li s Q k) : WpA Γ ops hs (n + 1) li s Q :=
  wpa_all _ hr (by simp) fun q hq => by
    simp only [List.mem_cons, List.mem_nil_iff, or_false] at hq
    rcases hq with rfl | rfl | rfl
    · exact h1
    · exact h2
    · exact h3

/-! ### ways that meet again, at places not the same -/
theorem wpr_joinx {X : Type} {ops : Array Oper} {l : List Nat} (S : X → St) (h1 : ∀ Q', PanicOk Q' → (∀ x, Nx Γ (S x) Q' .normal) → WpR Γ ops l s Q') [hQ : PanicOk Q] (h2 : ∀ x, Nx Γ (S x) Q .normal) : WpR Γ ops l s Q := h1 Q hQ h2
theorem wpa_joinx {X : Type} {ops : Array Oper} {hs : Hp} {n : Nat} {li : Array Bool} (S : X → St) (h1 : ∀ Q', PanicOk Q' → (∀ x, Nx Γ (S x) Q' .normal) → WpA Γ ops hs n li s Q') [hQ : PanicOk Q] (h2 : ∀ x, Nx Γ (S x) Q .normal) : WpA Γ ops hs n li s Q := h1 Q hQ h2
theorem wpc_joinx {X : Type} {c : Code} (S : X → St) (h1 : ∀ Q', PanicOk Q' → (∀ x, Nx Γ (S x) Q' .normal) → WpC Γ c s Q') [hQ : PanicOk Q] (h2 : ∀ x, Nx Γ (S x) Q .normal) : WpC Γ c s Q := h1 Q hQ h2

theorem wpa_fact {ops : Array Oper} {hs : Hp} {n : Nat} {li : Array Bool} {p : Prop} (hp : ∀ w, HS s.hp w → p) (h : p → WpA Γ ops hs n li s Q) : WpA Γ ops hs n li s Q := fun a w hS hL => h (hp w hS.hs) a w hS hL
theorem does_fact {f : FuncId} {args : List Value} {pre : Hp} {R : Value → Hp → Prop} {p : Prop} (hp : ∀ w, HS pre w → p) (h : p → Does P f args pre R) : Does P f args pre R := fun w hw => h (hp w hw) w hw

/-! ### a part of what is read alone -/
theorem view_front {a : Option Addr} {xs : List Value} (k : Nat) : View (ro a xs) (ro a (xs.take k)) where
  holds := fun w ⟨h1, h2⟩ => ⟨fun u hu => h1 u (List.mem_of_mem_take hu), by
    cases a with
    | none => have h2 : xs = [] := h2; subst h2; exact List.take_nil
    | some ad =>
      intro j u hu
      rw [List.getElem?_take] at hu
      split at hu
      · exact h2 j u hu
      · cases hu⟩
  own := fun _ _ k' ⟨h1, hne⟩ => ⟨h1, fun e => hne (by simp [e])⟩
  ro := fun h => h
theorem view_rest {g off : Nat} {xs : List Value} (q off' : Nat) (ho : q < xs.length → off' = off + q) : View (ro (some ⟨g, off, none⟩) xs) (ro (some ⟨g, off', none⟩) (xs.drop q)) where
  holds := fun w ⟨h1, h2⟩ => ⟨fun u hu => h1 u (List.mem_of_mem_drop hu), by
    intro j u hu
    have hj := (List.getElem?_eq_some_iff.1 hu).1
    rw [List.length_drop] at hj
    rw [List.getElem?_drop] at hu
    have h3 : cellsAt w _ xs := h2
    have h4 := h3 (q + j) u hu
    rw [add_lit'] at h4 ⊢
    rw [ho (by omega), Nat.add_assoc]; exact h4⟩
  own := fun _ _ k' ⟨⟨ad, ha, hk⟩, hne⟩ => ⟨⟨_, rfl, by cases ha; exact hk⟩, fun e => hne (by simp [e])⟩
  ro := fun h => h
theorem View.trans {c d e : Ch} (h : View c d) (k : View d e) : View c e := ⟨fun w hw => k.holds w (h.holds w hw), fun w hw x hx => h.own w hw x (k.own w (h.holds w hw) x hx), k.ro⟩
/-- What is read alone may be laid twice. -/
theorem ent_copy {fr : Fr} {hp : Hp} (i : Nat) {c : Ch} (c' : Ch) (hi : hp[i]? = some c) (hc : ¬ c.rw) (v : View c c') : Ent Γ ⟨fr, hp⟩ ⟨fr, c' :: hp⟩ := fun a w h => by
  have hcw := h.hs.holds c (List.mem_of_getElem? hi)
  refine ⟨h.size, h.defers, h.fr, ⟨fun d hd => ?_, List.pairwise_cons.2 ⟨fun d hd => ?_, h.hs.apart⟩⟩, h.ext, fun d hd hr k hk => ?_⟩
  · rcases List.mem_cons.1 hd with rfl | hd
    · exact v.holds w hcw
    · exact h.hs.holds d hd
  · by_cases hr : d.rw
    · obtain ⟨j, hj⟩ := List.getElem?_of_mem hd
      have hij : i ≠ j := by rintro rfl; rw [hi] at hj; cases hj; exact hc hr
      rcases pairwise_get h.hs.apart hij hi hj with ⟨_, h2⟩ | h2
      · exact absurd hr h2
      · exact .inr fun k hk => h2 k (v.own w hcw k hk)
    · exact .inl ⟨v.ro, hr⟩
  · rcases List.mem_cons.1 hd with rfl | hd
    · exact absurd hr v.ro
    · exact h.bd d hd hr k hk

/-! ### a function value is called whose function is not known -/
def enters (P : Program) (f : FuncId) : Bool := match P.funcs[f]? with | some fn => fn.name != "runtime.NumGoroutine" && !fn.body.isNone | none => false
theorem run_enters {f : FuncId} (h : enters P f = true) (args : Array Value) (w : World) : (callFunc f args).run P w = .ok (.enter f args) w := by
  unfold enters at h
  split at h
  · rename_i fn hfn
    simp only [Bool.and_eq_true, bne_iff_ne, ne_eq, Bool.not_eq_true'] at h
    unfold callFunc
    simp only [Sem.run_bind, run_program, Result.andThen_ok, hfn]
    rw [if_neg (by simpa using h.1), if_neg (by rw [h.2]; decide)]
    rfl
  · cases h
def callvOf (ops : Array Oper) (nt : Nat) (i : Nat) (fr : Fr) : Option (Value × List Value × Option Nat) :=
  match opAt ops nt i fr with
  | some o => match o.op with
    | .call c => match c.callee with
      | .value f => some (ev fr f, (c.args.map (ev fr)).toList, o.dst)
      | _ => none
    | _ => none
  | none => none
theorem callv_sound {ops : Array Oper} {i : Nat} {f : FuncId} {first caps : Array Value} {args : List Value} {dst : Option Nat} (hc : callvOf ops Γ.nt i s.fr = some (.func (.func f) first caps, args, dst)) (he : enters Γ.P f = true)
    {pre rest : Hp} {R : Value → Hp → Prop} (hf : Does Γ.P f (first.toList ++ args ++ caps.toList) pre R) (g : Give s.hp pre rest) {a : Act} {w : World} (hS : Sat Γ s a w) {K : Act → World → Prop}
    (hK : ∀ v hp', R v hp' → ∀ a' w', Sat Γ ⟨putFr s.fr dst v, hp' ++ rest⟩ a' w' → K a' w') : wpOp Γ.P ops Q i K a w := by
  unfold callvOf opAt at hc
  unfold wpOp
  cases hoi : ops[i]? with
  | none => rw [hoi] at hc; cases hc
  | some o =>
    rw [hoi] at hc
    simp only at hc ⊢
    split at hc
    case h_2 => cases hc
    case h_1 o' ho' =>
      split at ho'
      case h_2 => cases ho'
      case h_1 hd hw hk =>
        simp only [Option.some.injEq] at ho'
        subst ho'
        split at hc
        case h_2 => cases hc
        case h_1 c hop =>
          split at hc
          case h_2 => cases hc
          case h_1 fo hcal =>
            simp only [Option.some.injEq, Prod.mk.injEq] at hc
            obtain ⟨hfo, hargs, rfl⟩ := hc
            rw [wants_ok hS.fr hw]
            simp only [if_true]
            refine .inl ?_
            unfold Oper.wp
            have hrun : (execOp (ev s.fr) o).run Γ.P w = .ok (.enter f (first ++ (c.args.map (ev s.fr)) ++ caps)) w := by
              unfold execOp
              rw [hop]
              simp only [resolve, hcal, hfo, Deferred.ofValue, invoke, Sem.run_bind, Sem.run_pure, Result.andThen_ok, run_enters he]
            rw [ev_eq hS.fr hk, hrun]
            have hl : (first ++ (c.args.map (ev s.fr)) ++ caps) = (first.toList ++ args ++ caps.toList).toArray := by
              apply Array.ext'; rw [← hargs]; simp
            rw [hl]
            refine Calls.mono (hf w (g.sat w hS.hs).1) ?_
            rintro e w' ⟨v, hp', hR, rfl, h1, h2, h3, h4⟩
            obtain ⟨k1, k2, k3⟩ := hS.behind g h1 h2 h3 h4
            exact hK v hp' hR _ _ ⟨(size_put _ _).trans hS.size, (defers_put _ _).trans hS.defers, FrOk.putFr hS.fr hS.size hd v, k1, k2, k3⟩
theorem wpr_callv {ops : Array Oper} {i : Nat} {l₂ : List Nat} {f : FuncId} {first caps : Array Value} {args : List Value} {dst : Option Nat} (hc : callvOf ops Γ.nt i s.fr = some (.func (.func f) first caps, args, dst)) (he : enters Γ.P f = true)
    {pre rest : Hp} {R : Value → Hp → Prop} (hf : Does Γ.P f (first.toList ++ args ++ caps.toList) pre R) (g : Give s.hp pre rest)
    (h : ∀ v hp', R v hp' → WpR Γ ops l₂ ⟨putFr s.fr dst v, hp' ++ rest⟩ Q) : WpR Γ ops (i :: l₂) s Q := fun a w hS => by
  rw [wpOps_cons]
  exact callv_sound hc he hf g hS fun v hp' hR a' w' hS' => h v hp' hR a' w' hS'
theorem wpr_callv_all {ops : Array Oper} {i : Nat} {l₂ : List Nat} {f : FuncId} {first caps : Array Value} {args : List Value} {dst : Option Nat} (hc : callvOf ops Γ.nt i s.fr = some (.func (.func f) first caps, args, dst)) (he : enters Γ.P f = true)
    {pre : Hp} {R : Value → Hp → Prop} (hf : Does Γ.P f (first.toList ++ args ++ caps.toList) pre R) (g : Give s.hp pre [])
    (h : ∀ v hp', R v hp' → WpR Γ ops l₂ ⟨putFr s.fr dst v, hp'⟩ Q) : WpR Γ ops (i :: l₂) s Q :=
  wpr_callv hc he hf g fun v hp' hR => by rw [List.append_nil]; exact h v hp' hR
theorem wpa_callv {ops : Array Oper} {hs : Hp} {li : Array Bool} {i : Nat} {n : Nat} (hr : Region.ready .any ops li = [i]) {f : FuncId} {first caps : Array Value} {args : List Value} {dst : Option Nat} (hc : callvOf ops Γ.nt i s.fr = some (.func (.func f) first caps, args, dst)) (he : enters Γ.P f = true)
    {pre rest : Hp} {R : Value → Hp → Prop} (hf : Does Γ.P f (first.toList ++ args ++ caps.toList) pre R) (g : Give s.hp pre rest) (hsub : Sub hs rest)
    (h : ∀ v hp', R v hp' → WpA Γ ops hs n (li.setIfInBounds i true) ⟨putFr s.fr dst v, hp' ++ rest⟩ Q) : WpA Γ ops hs (n + 1) li s Q := fun a w hS hL => by
  refine wpAnyH_all hr (by simp) fun j hj => ?_
  rw [List.mem_singleton.1 hj]
  refine callv_sound hc he hf g hS fun v hp' hR a' w' hS' => ?_
  have hL' : HL hs w' := fun c hc => hS'.hs.holds c (List.mem_append.2 (.inr (hsub c hc)))
  exact ⟨hL', h v hp' hR a' w' hS' hL'⟩

/-! ### heaps within one chunk -/
def starQ (hp : Hp) : Oq where
  own := fun k => ∃ c ∈ hp, c.own k
  rw := True
  holds := fun w => HS hp w ∧ ∀ c ∈ hp, c.rw
  loc := fun w w' hk ⟨h, hr⟩ => ⟨⟨fun c hc => c.loc (fun k hck => hk k ⟨c, hc, hck⟩) (h.holds c hc), h.apart⟩, hr⟩
  lt := fun w k ⟨h, _⟩ ⟨c, hc, hck⟩ => c.lt (h.holds c hc) hck
/-- Chunks that may all be written, as one. -/
def star (hp : Hp) : Ch := .op (starQ hp)
theorem ent_star {fr : Fr} {hp rest : Hp} (hr : ∀ c ∈ hp, c.rw) : Ent Γ ⟨fr, hp ++ rest⟩ ⟨fr, star hp :: rest⟩ := fun a w h => by
  obtain ⟨h1, h2, h3⟩ := h.hs.split
  refine ⟨h.size, h.defers, h.fr, ⟨fun c hc => ?_, List.pairwise_cons.2 ⟨fun d hd => .inr fun k hk hdk => ?_, h2.apart⟩⟩, h.ext, fun c hc hcr k hk => ?_⟩
  · rcases List.mem_cons.1 hc with rfl | hc
    · exact ⟨h1, hr⟩
    · exact h2.holds c hc
  · obtain ⟨c, hc, hck⟩ := hk
    rcases h3 c hc d hd with ⟨h4, _⟩ | h4
    · exact h4 (hr c hc)
    · exact h4 k hck hdk
  · rcases List.mem_cons.1 hc with rfl | hc
    · obtain ⟨d, hd, hdk⟩ := hk
      exact h.bd d (List.mem_append.2 (.inl hd)) (hr d hd) k hdk
    · exact h.bd c (List.mem_append.2 (.inr hc)) hcr k hk
theorem ent_unstar {fr : Fr} {hp rest : Hp} : Ent Γ ⟨fr, star hp :: rest⟩ ⟨fr, hp ++ rest⟩ := fun a w h => by
  have h1 := h.hs.holds (star hp) (by simp)
  have h2 := List.pairwise_cons.1 h.hs.apart
  obtain ⟨h3, h4⟩ : HS hp w ∧ ∀ c ∈ hp, c.rw := h1
  refine ⟨h.size, h.defers, h.fr, ⟨fun c hc => ?_, List.pairwise_append.2 ⟨h3.apart, h2.2, fun c hc d hd => .inr fun k hk hdk => ?_⟩⟩, h.ext, fun c hc hcr k hk => ?_⟩
  · rcases List.mem_append.1 hc with hc | hc
    · exact h3.holds c hc
    · exact h.hs.holds c (List.mem_cons_of_mem _ hc)
  · rcases h2.1 d hd with ⟨h5, _⟩ | h5
    · exact h5 trivial
    · exact h5 k ⟨c, hc, hk⟩ hdk
  · rcases List.mem_append.1 hc with hc | hc
    · exact h.bd (star hp) (by simp) trivial k ⟨c, hc, hk⟩
    · exact h.bd c (List.mem_cons_of_mem _ hc) hcr k hk
end Go.Sx

/-! X14: what comes in, of any kind: numbers, truths, texts, structs, slices of them. -/
namespace Go.Sx
open Go
open Go.Proofs.YtpfhleghgkeemaaGreatDoor

/-- A kind of thing that comes in: its cells, what is behind it in memory (D: it reads the blocks O alone), its bulk, what holds of it. -/
structure Shape (α : Type) where
  C : α → List Value
  D : α → World → Prop
  O : α → Nat → Prop
  B : α → Nat
  V : α → Prop
  one : ∀ x, One (C x)
  loc : ∀ x (w w' : World), (∀ k, O x k → w'.heap[k]? = w.heap[k]?) → D x w → D x w'
  lt : ∀ x (w : World) k, D x w → O x k → k < w.heap.size

def deepQ {α : Type} (S : Shape α) (x : α) : Oq where
  own := S.O x
  rw := False
  holds := S.D x
  loc := S.loc x
  lt := S.lt x
/-- What comes in, with all that is behind it, read alone. -/
def deep {α : Type} (S : Shape α) (x : α) : Ch := .op (deepQ S x)

def Opens {α : Type} (P : Program) (t : TypeId) (k : Nat) (S : Shape α) : Prop :=
  (∀ x, (S.C x).length = k) ∧ P.cellsOf t = k ∧ ∀ {H : Type} {enc : TypeId × Value → H} {W : World} {base : Nat} {held : Bool} (n : Nat) (cs : List Value) (y : DataW H × List MemPlace),
    DataW.trod enc P W base (fun _ => true) held n t cs = some y → ∃ x : α, cs = S.C x ∧ S.D x W ∧ S.B x ≤ Rows.uptoBulk y.1 ∧ S.V x

/-! ### plain ones -/
def intS (k : IntKind) : Shape Int where
  C := fun n => [.int k n]
  D := fun _ _ => True
  O := fun _ _ => False
  B := fun _ => 1
  V := fun n => (Lit.int k n).wf = true
  one := fun n => by simp [One, Value.oneCell']
  loc := fun _ _ _ _ h => h
  lt := fun _ _ _ _ h => h.elim
def boolS : Shape Bool where
  C := fun n => [.bool n]
  D := fun _ _ => True
  O := fun _ _ => False
  B := fun _ => 1
  V := fun _ => True
  one := fun n => by simp [One, Value.oneCell']
  loc := fun _ _ _ _ h => h
  lt := fun _ _ _ _ h => h.elim
def strS : Shape (List UInt8) where
  C := fun l => [.string (mkS l)]
  D := fun _ _ => True
  O := fun _ _ => False
  B := fun l => l.length + 1
  V := fun _ => True
  one := fun n => by simp [One, Value.oneCell']
  loc := fun _ _ _ _ h => h
  lt := fun _ _ _ _ h => h.elim
theorem bulk_pos {H : Type} (d : DataW H) : 1 ≤ Rows.uptoBulk d := by
  cases d with
  | lit q => cases q <;> simp [Rows.uptoBulk]
  | _ => simp [Rows.uptoBulk]
theorem opens_int {P : Program} {t : TypeId} {k : IntKind} (ht : P.underlying t = some (.int k)) (hc : P.cellsOf t = 1) : Opens P t 1 (intS k) :=
  ⟨fun _ => rfl, hc, fun n cs y h => by
    obtain ⟨v, rfl, rfl, hw⟩ := DataW.trod_int ht h
    exact ⟨v, rfl, trivial, bulk_pos _, hw⟩⟩
theorem opens_bool {P : Program} {t : TypeId} (ht : P.underlying t = some .bool) (hc : P.cellsOf t = 1) : Opens P t 1 boolS :=
  ⟨fun _ => rfl, hc, fun n cs y h => by
    obtain ⟨v, rfl, rfl⟩ := DataW.trod_bool ht h
    exact ⟨v, rfl, trivial, bulk_pos _, trivial⟩⟩
theorem opens_str {P : Program} {t : TypeId} (ht : P.underlying t = some .string) (hc : P.cellsOf t = 1) : Opens P t 1 strS :=
  ⟨fun _ => rfl, hc, fun n cs y h => by
    obtain ⟨v, rfl, rfl, hw⟩ := DataW.trod_string ht h
    exact ⟨v.data.toList, rfl, trivial, by simp [strS, Rows.uptoBulk], trivial⟩⟩

/-! ### one behind the other -/
def pairS {α β : Type} (S : Shape α) (T : Shape β) : Shape (α × β) where
  C := fun x => S.C x.1 ++ T.C x.2
  D := fun x w => S.D x.1 w ∧ T.D x.2 w
  O := fun x k => S.O x.1 k ∨ T.O x.2 k
  B := fun x => S.B x.1 + T.B x.2
  V := fun x => S.V x.1 ∧ T.V x.2
  one := fun x u hu => (List.mem_append.1 hu).elim (S.one _ u) (T.one _ u)
  loc := fun x w w' hk h => ⟨S.loc _ w w' (fun k h => hk k (.inl h)) h.1, T.loc _ w w' (fun k h => hk k (.inr h)) h.2⟩
  lt := fun x w k h ho => ho.elim (S.lt _ w k h.1) (T.lt _ w k h.2)
/-- As S, of bulk one more. -/
def upS {α : Type} (S : Shape α) : Shape α := { S with B := fun x => S.B x + 1 }

def OpensFs {α : Type} (P : Program) (off : Nat) (fs : List Field) (k : Nat) (S : Shape α) : Prop :=
  (∀ x, (S.C x).length = k) ∧ ∀ {H : Type} {enc : TypeId × Value → H} {W : World} {base : Nat} {held : Bool} (n : Nat) (cs : List Value) (xs : List (DataW H × List MemPlace)),
    cs.length = k → xs.length = fs.length → (∀ (i : Nat) (f : Field), fs[i]? = some f → DataW.trod enc P W base (fun _ => true) held n f.type ((cs.drop (f.offset - off)).take (P.cellsOf f.type)) = xs[i]?) →
    ∃ x : α, cs = S.C x ∧ S.D x W ∧ S.B x ≤ Rows.uptoBulkAll (xs.map (·.1)) ∧ S.V x
theorem opensFs_one {α : Type} {P : Program} {off : Nat} {f : Field} {k : Nat} {S : Shape α} (h : Opens P f.type k S) (ho : f.offset = off) : OpensFs P off [f] k S :=
  ⟨h.1, fun n cs xs hl hx hi => by
    obtain ⟨y, rfl⟩ : ∃ y, xs = [y] := by
      match xs, hx with
      | [y], _ => exact ⟨y, rfl⟩
    have h0 := hi 0 f rfl
    rw [ho, Nat.sub_self, List.drop_zero, h.2.1, List.take_of_length_le (by omega)] at h0
    obtain ⟨x, h1, h2, h3, h4⟩ := h.2.2 n cs y h0
    exact ⟨x, h1, h2, by simp only [List.map_cons, List.map_nil, Rows.uptoBulkAll]; omega, h4⟩⟩
theorem opensFs_cons {α β : Type} {P : Program} {off : Nat} {f : Field} {fs : List Field} {k m : Nat} {S : Shape α} {T : Shape β} (h : Opens P f.type k S) (ho : f.offset = off) (hf : fs.all (fun g => Nat.ble (off + k) g.offset) = true) (hT : OpensFs P (off + k) fs m T) : OpensFs P off (f :: fs) (k + m) (pairS S T) :=
  ⟨fun x => by simp only [pairS, List.length_append, h.1, hT.1], fun n cs xs hl hx hi => by
    obtain ⟨y, ys, rfl⟩ : ∃ y ys, xs = y :: ys := by
      match xs, hx with
      | y :: ys, _ => exact ⟨y, ys, rfl⟩
    have h0 := hi 0 f rfl
    rw [ho, Nat.sub_self, List.drop_zero, h.2.1] at h0
    obtain ⟨x, h1, h2, h3, h4⟩ := h.2.2 n _ y h0
    obtain ⟨z, g1, g2, g3, g4⟩ := hT.2 (W := _) n (cs.drop k) ys (by rw [List.length_drop]; omega) (by simpa using hx) (fun i g hg => by
      have h5 := hi (i + 1) g (by simpa using hg)
      have hge : off + k ≤ g.offset := Nat.le_of_ble_eq_true (List.all_eq_true.1 hf g (List.mem_of_getElem? hg))
      rw [List.drop_drop, show k + (g.offset - (off + k)) = g.offset - off by omega]
      simpa using h5)
    refine ⟨(x, z), ?_, ⟨h2, g2⟩, ?_, ⟨h4, g4⟩⟩
    · show cs = S.C x ++ T.C z
      rw [← h1, ← g1, List.take_append_drop]
    · simp only [List.map_cons, Rows.uptoBulkAll, pairS]; omega⟩
theorem opens_struct {α : Type} {P : Program} {t : TypeId} {fs : Array Field} {k : Nat} {S : Shape α} (ht : P.underlying t = some (.struct fs)) (hc : P.cellsOf t = k) (h : OpensFs P 0 fs.toList k S) : Opens P t k (upS S) :=
  ⟨h.1, hc, fun n cs y hy => by
    obtain ⟨xs, m, rfl, rfl, hl, hx, hi⟩ := DataW.trod_struct ht hy
    obtain ⟨x, h1, h2, h3, h4⟩ := h.2 m cs xs (hl.trans hc) (by simpa using hx) (fun i f hf => by
      have := hi i f (by simpa using hf)
      simpa using this)
    exact ⟨x, h1, h2, by simp only [Rows.uptoBulk, upS]; omega, h4⟩⟩

/-! ### slices -/
def sumB {α : Type} (S : Shape α) : List α → Nat
  | [] => 0
  | x :: r => S.B x + sumB S r
theorem sumB_le {α H : Type} (S : Shape α) : ∀ (l : List α) (ds : List (DataW H)), ds.length = l.length → (∀ (i : Nat) x, l[i]? = some x → ∃ y, ds[i]? = some y ∧ S.B x ≤ Rows.uptoBulk y) → sumB S l ≤ Rows.uptoBulkAll ds
  | [], _, _, _ => Nat.zero_le _
  | x :: r, ds, hl, h => by
    match ds, hl with
    | d :: ds, hl =>
      obtain ⟨y, hy, hb⟩ := h 0 x rfl
      simp only [List.getElem?_cons_zero, Option.some.injEq] at hy
      subst hy
      have := sumB_le S r ds (by simpa using hl) (fun i z hz => by simpa using h (i + 1) z (by simpa using hz))
      simp only [sumB, Rows.uptoBulkAll]; omega
theorem le_sumB {α : Type} (S : Shape α) (h : ∀ x, 1 ≤ S.B x) : ∀ l : List α, l.length ≤ sumB S l
  | [] => Nat.zero_le _
  | x :: r => by have := le_sumB S h r; have := h x; simp only [sumB, List.length_cons]; omega
theorem mem_sumB {α : Type} (S : Shape α) : ∀ (l : List α) (x : α), x ∈ l → S.B x ≤ sumB S l
  | y :: r, x, h => by
    simp only [sumB]
    rcases List.mem_cons.1 h with rfl | h
    · omega
    · have := mem_sumB S r x h; omega

/-- A slice: its address, its capacity, its elements. -/
abbrev Sl (α : Type) := Option Addr × Nat × List α
def sliceS {α : Type} (S : Shape α) : Shape (Sl α) where
  C := fun x => [.slice x.1 x.2.2.length x.2.1]
  D := fun x w => roH x.1 (x.2.2.flatMap S.C) w ∧ ∀ y ∈ x.2.2, S.D y w
  O := fun x k => (rowOwn x.1 k ∧ x.2.2.flatMap S.C ≠ []) ∨ ∃ y ∈ x.2.2, S.O y k
  B := fun x => sumB S x.2.2 + 1
  V := fun x => (x.1 = none → x.2.2 = []) ∧ x.2.2.length ≤ x.2.1 ∧ x.2.1 ≤ maxLen ∧ ∀ y ∈ x.2.2, S.V y
  one := fun n => by simp [One, Value.oneCell']
  loc := fun x w w' hk h => ⟨(roQ x.1 (x.2.2.flatMap S.C)).loc w w' (fun k h => hk k (.inl h)) h.1, fun y hy => S.loc y w w' (fun k h => hk k (.inr ⟨y, hy, h⟩)) (h.2 y hy)⟩
  lt := fun x w k h ho => ho.elim (fun ho => (roQ x.1 (x.2.2.flatMap S.C)).lt w k h.1 ho) fun ⟨y, hy, ho⟩ => S.lt y w k (h.2 y hy) ho
theorem opens_slice {α : Type} {P : Program} {t e : TypeId} {k : Nat} {S : Shape α} (ht : P.underlying t = some (.slice e)) (hc : P.cellsOf t = 1) (h : Opens P e k S) : Opens P t 1 (sliceS S) :=
  ⟨fun _ => rfl, hc, fun {H enc W base held} n cs y hy => by
    have hkey : ∀ (a : Option Addr) (len cap : Nat), cs = [.slice a len cap] → len ≤ cap → cap ≤ maxLen → ∃ x : Sl α, cs = (sliceS S).C x ∧ (sliceS S).D x W ∧ (sliceS S).B x ≤ Rows.uptoBulk y.1 ∧ (sliceS S).V x := by
      intro a len cap hcs hlc hcm
      subst hcs
      obtain ⟨l, rfl, hn, hro, ds, sp, hds, hd, hel⟩ := slice_in (H := H) (enc := enc) (base := base) (held := held) (W := W) S.C h.1 S.one ht h.2.1 (fun x d => S.D x W ∧ S.B x ≤ Rows.uptoBulk d ∧ S.V x)
        (fun n cs y hy => by obtain ⟨x, h1, h2, h3, h4⟩ := h.2.2 n cs y hy; exact ⟨x, h1, h2, h3, h4⟩) (a := a) (len := len) (cap := cap) (d := y.1) (p := y.2) (fuel := n) (by
          have : (Value.cells (.slice a len cap)).toList = [.slice a len cap] := rfl
          rw [this]; exact hy)
      have hmem : ∀ x ∈ l, S.D x W ∧ S.V x := fun x hx => by
        obtain ⟨i, hi⟩ := List.getElem?_of_mem hx
        obtain ⟨d, _, h1, _, h2⟩ := hel i x hi
        exact ⟨h1, h2⟩
      refine ⟨(a, cap, l), rfl, ⟨hro, fun x hx => (hmem x hx).1⟩, ?_, ⟨hn, hlc, hcm, fun x hx => (hmem x hx).2⟩⟩
      have hs := sumB_le S l ds (by rw [hds]) (fun i x hx => by obtain ⟨d, h1, _, h2, _⟩ := hel i x hx; exact ⟨d, h1, h2⟩)
      show sumB S l + 1 ≤ _
      rcases hd with hd | ⟨hd, rfl⟩
      · rw [hd]; simp only [Rows.uptoBulk]; omega
      · simp only [Rows.uptoBulkAll] at hs
        have := bulk_pos y.1
        omega
    rcases DataW.trod_slice ht hy with ⟨hcs, hx⟩ | ⟨ad, l, c, elems, rest, m, _, hcs, hx, hb, hl, hm, _⟩
    · exact hkey none 0 0 hcs (Nat.le_refl _) (Nat.zero_le _)
    · exact hkey (some ad) l c hcs hl hm⟩

/-! ### views -/
theorem view_fst {α β : Type} {S : Shape α} {T : Shape β} {x : α × β} : View (deep (pairS S T) x) (deep S x.1) := ⟨fun w h => h.1, fun w h k hk => .inl hk, fun h => h⟩
theorem view_snd {α β : Type} {S : Shape α} {T : Shape β} {x : α × β} : View (deep (pairS S T) x) (deep T x.2) := ⟨fun w h => h.2, fun w h k hk => .inr hk, fun h => h⟩
theorem view_up {α : Type} {S : Shape α} {x : α} : View (deep (upS S) x) (deep S x) := ⟨fun w h => h, fun w h k hk => hk, fun h => h⟩
theorem view_flat {α : Type} {S : Shape α} {x : Sl α} : View (deep (sliceS S) x) (ro x.1 (x.2.2.flatMap S.C)) := ⟨fun w h => h.1, fun w h k hk => .inl hk, fun h => h⟩
theorem view_elem {α : Type} {S : Shape α} {x : Sl α} {y : α} (hy : y ∈ x.2.2) : View (deep (sliceS S) x) (deep S y) := ⟨fun w h => h.2 y hy, fun w h k hk => .inr ⟨y, hy, hk⟩, fun h => h⟩
/-- Plain ones have nothing behind them. -/
theorem flat_ints (l : List Int) : l.flatMap (intS .i64).C = ints l := by
  induction l with
  | nil => rfl
  | cons x r ih => rw [List.flatMap_cons, ih]; rfl
theorem hs_deep {α : Type} {S : Shape α} {x : α} {w : World} (h : S.D x w) : HS [deep S x] w := ⟨fun c hc => by rw [List.mem_singleton.1 hc]; exact h, by simp⟩
theorem wf_i64 {n : Int} (h : (intS .i64).V n) : -9223372036854775808 ≤ n ∧ n ≤ 9223372036854775807 := by
  have h2 : (Lit.int .i64 n).wf = true := h
  simpa [Lit.wf, IntKind.min, IntKind.max, IntKind.signed, IntKind.bits] using h2
end Go.Sx
namespace Go.Sx
open Go
set_option linter.unusedVariables false in
theorem Does.pre {P : Program} {f : FuncId} {args : List Value} {pre pre' : Hp} {R : Value → Hp → Prop} (h : Does P f args pre' R) (hs : ∀ w, HS pre w → HS pre' w) (hf : ∀ k, foot pre' k → foot pre k) : Does P f args pre R := fun w hw =>
  (h w (hs w hw)).mono fun e w' ⟨v, hp', hR, he, h1, h2, h3, h4⟩ => ⟨v, hp', hR, he, h1, ⟨h2.os, h2.tape, h2.output, h2.size, fun k hk hn => h2.block k hk (fun hh => hn (hf k hh))⟩, fun c hc hr k hk => (h3 c hc hr k hk).imp (hf k) id, h4⟩
theorem val_agg {v : Value} {cs : Array Value} {l : List Value} (h : v = .agg cs) (hc : v.cells.toList = l) : v = .agg l.toArray := by
  subst h
  have h2 : cs.toList = l := hc
  rw [← h2]
theorem val_one {v u : Value} (h : ∀ cs, v ≠ .agg cs) (hc : v.cells.toList = [u]) : v = u := by
  cases v <;> first | exact absurd rfl (h _) | (simp [Value.cells] at hc; exact hc)
/-- What comes in is read alone: chunks of it stand side by side. -/
theorem hs_ro {hp : Hp} {w : World} (h : ∀ c ∈ hp, c.holds w) (hr : ∀ c ∈ hp, ¬ c.rw) : HS hp w :=
  ⟨h, by
    induction hp with
    | nil => exact .nil
    | cons c r ih => exact List.pairwise_cons.2 ⟨fun d hd => .inl ⟨hr c (by simp), hr d (List.mem_cons_of_mem _ hd)⟩, ih (fun d hd => h d (List.mem_cons_of_mem _ hd)) (fun d hd => hr d (List.mem_cons_of_mem _ hd))⟩⟩
end Go.Sx

/-! X15: zeros behind no slice at all (append of a make). -/
namespace Go.Sx
open Go
variable {P : Program} {Γ : Cx} {Q : Exit → Act → World → Prop} {s : St}

theorem append_znil {w : World} {t xt ty e : TypeId} {i : TypeInfo} {z : Value} {k k' : IntKind} (ht : P.underlying t = some (.slice e)) (hxt : P.underlying xt = some (.int k)) (hi : P.info? e = some i) (hz : i.zero = some z) (hsz : 0 < i.size)
    {m : Nat} (hm : 0 < m) (h63 : m ≤ 1099511627776) (hb : m * i.bytes ≤ 140737488355328) :
    (Builtin.append_ #[t, xt] ty #[.slice none 0 0, .int k' (m : Int)]).run P w = .ok (.slice (some ⟨w.heap.size, 0, none⟩) m (grownCap w m 0 e))
      (w.drew.alloc (.cells (Builtin.zeroCells z.cells m ++ Builtin.zeroCells z.cells (grownCap w m 0 e - m)) e)) := by
  have hw : IntKind.i64.wrap (m : Int) = (m : Int) := by rw [i64_wrap]; split <;> omega
  have hfit := growslice_fits (by omega : 0 < m) hb
  have h48' : ¬ (281474976710656 < Builtin.nextslicecap m 0 * i.bytes) := by omega
  have h0 : ¬ ((m : Int) < 0) := by omega
  have hb' : ¬ (281474976710656 < (m : Int) * (i.bytes : Int)) := by
    have : (m : Int) * (i.bytes : Int) = ((m * i.bytes : Nat) : Int) := by simp
    rw [this]; omega
  have hn : ¬ (m ≤ 0) := by omega
  have hne : ¬ (m = 0 ∨ i.size = 0) := by omega
  have h63' : ¬ (9223372036854775807 < (m : Int)) := by omega
  simp [Builtin.append_, run_underlying ht, run_underlying hxt, asInt, asIntOf, hw, h0, hb', sizeOf, typeInfo, zeroValue, hi, hz, hn, hne, h63', h48', Question.forced, newRow, grownCap, Builtin.firstCells]
  rw [if_neg (by omega), if_neg (Nat.ne_of_gt (Nat.mul_pos hm hsz))]

def appzOf (ops : Array Oper) (nt : Nat) (i : Nat) (fr : Fr) : Option (Value × Value × TypeId × TypeId × Option Nat) :=
  match opAt ops nt i fr with
  | some o => match o.op with
    | .call c => match c.callee, c.args.toList, c.argTypes.toList with
      | .builtin .append, [s, x], [t, xt] => some (ev fr s, ev fr x, t, xt, o.dst)
      | _, _, _ => none
    | _ => none
  | none => none
def zrowTy (P : Program) (t xt : TypeId) : Option (TypeId × Nat × Nat) :=
  match P.underlying t, P.underlying xt with
  | some (.slice e), some (.int _) => match P.info? e with
    | some i => match i.zero with
      | some z => match z.cells.size == i.size, (0).blt i.size, z.cells.toList.all (fun v => v.oneCell') with | true, true, true => some (e, i.size, i.bytes) | _, _, _ => none
      | none => none
    | none => none
  | _, _ => none

theorem one_zero {z : Array Value} (h : z.toList.all (fun v => v.oneCell') = true) (m : Nat) : Sx.One (Builtin.zeroCells z m).toList := by
  intro u hu
  simp only [Builtin.zeroCells, Array.toList_map, List.mem_map, Array.toList_range, List.mem_range] at hu
  obtain ⟨j, hj, rfl⟩ := hu
  have hpos : 0 < z.size := by
    rcases Nat.eq_zero_or_pos z.size with h | h
    · rw [h] at hj; simp at hj
    · exact h
  have hlt := Nat.mod_lt j hpos
  rw [getElem!_pos z (j % z.size) hlt]
  exact List.all_eq_true.1 h _ (by simp)

theorem step_appz {ops : Array Oper} {i : Nat} {m : Nat} {k' : IntKind} {t xt : TypeId} {dst : Option Nat} (hc : appzOf ops Γ.nt i s.fr = some (.slice none 0 0, .int k' (m : Int), t, xt, dst)) {e sz bytes : Nat} (ht : zrowTy Γ.P t xt = some (e, sz, bytes))
    (hm : 0 < m) (h63 : m ≤ 1099511627776) (hb : m * bytes ≤ 140737488355328) :
    Step Γ ops i s (fun s' => ∃ g cap zs, s' = ⟨putFr s.fr dst (.slice (some ⟨g, 0, none⟩) m cap), s.hp ++ [row e sz (some ⟨g, 0, none⟩) m cap zs]⟩) := by
  unfold appzOf at hc
  split at hc
  case h_2 => cases hc
  case h_1 o ho =>
    split at hc
    case h_2 => cases hc
    case h_1 c hop =>
      split at hc
      case h_2 => cases hc
      case h_1 s' x' t' xt' hcal hargs hts =>
        simp only [Option.some.injEq, Prod.mk.injEq] at hc
        obtain ⟨hes, hex, rfl, rfl, rfl⟩ := hc
        have e1 : c.args = #[s', x'] := by apply Array.ext'; simpa using hargs
        have e2 : c.argTypes = #[t', xt'] := by apply Array.ext'; simpa using hts
        unfold zrowTy at ht
        split at ht
        case h_2 => cases ht
        case h_1 e' k hu hxu =>
          split at ht
          case h_2 => cases ht
          case h_1 inf hi =>
            split at ht
            case h_2 => cases ht
            case h_1 z hz =>
              split at ht
              case h_2 => cases ht
              case h_1 hzs hsz hz1 =>
                simp only [Option.some.injEq, Prod.mk.injEq] at ht
                obtain ⟨rfl, rfl, rfl⟩ := ht
                have hzs : z.cells.size = inf.size := by simpa using hzs
                have hsz : 0 < inf.size := Nat.le_of_ble_eq_true hsz
                intro Q bb ww hS K hK
                refine step_sem ho (fun v hp' => ∃ g cap zs, v = .slice (some ⟨g, 0, none⟩) m cap ∧ hp' = s.hp ++ [row e' inf.size (some ⟨g, 0, none⟩) m cap zs]) (fun w hw => ?_) Q bb ww hS K ?_
                · have hrun := append_znil (P := Γ.P) (w := w) (ty := o.type) (k' := k') hu hxu hi hz hsz hm h63 hb
                  have hge := grownCap_ge w m 0 e'
                  have hle := grownCap_le_maxLen w m 0 e' (by unfold maxLen; omega)
                  have hl1 := size_zeroCells z.cells m
                  have hl2 := size_zeroCells z.cells (grownCap w m 0 e' - m)
                  have hsame : ∀ k, k < w.heap.size → (w.drew.alloc (.cells (Builtin.zeroCells z.cells m ++ Builtin.zeroCells z.cells (grownCap w m 0 e' - m)) e')).heap[k]? = w.heap[k]? := fun k hk => by
                    show (w.heap.push _)[k]? = _; rw [Array.getElem?_push, if_neg (by omega)]
                  have hrow : (row e' inf.size (some ⟨w.heap.size, 0, none⟩) m (grownCap w m 0 e') (Builtin.zeroCells z.cells m).toList).holds (w.drew.alloc (.cells (Builtin.zeroCells z.cells m ++ Builtin.zeroCells z.cells (grownCap w m 0 e' - m)) e')) := by
                    refine ⟨by rw [Array.length_toList, hl1, hzs], hge, hle, one_zero hz1 m, .inr ⟨w.heap.size, 0, _, (0, 0), rfl, Array.getElem?_push_size, ?_, ?_, fun o _ h => by simp at h⟩⟩
                    · rw [Array.size_append, hl1, hl2, hzs, ← Nat.add_mul, Nat.zero_add]
                      exact Nat.mul_le_mul_right _ (by omega)
                    · rw [Array.toList_append, List.drop_zero, List.take_left' (by rw [Array.length_toList, hl1, hzs])]
                  refine ⟨_, _, _, _, ?_, .inl rfl, ⟨_, _, _, rfl, rfl⟩, hw.append hsame hrow (fun k ⟨_, ad, had, hk⟩ => by cases had; exact Nat.le_of_eq hk), ⟨rfl, rfl, rfl, by show w.heap.size ≤ (w.heap.push _).size; simp, fun k hk _ => hsame k hk⟩, ?_⟩
                  · simp only [execOp, hop, resolve, hcal, e1, e2, invoke, builtin, Sem.run_bind, Sem.run_pure, Result.andThen_ok, List.map_toArray, List.map_cons, List.map_nil, hes, hex, hrun]
                  · intro c hc hr k hk
                    rcases List.mem_append.1 hc with hc | hc
                    · exact .inl ⟨c, hc, hr, hk⟩
                    · rw [List.mem_singleton.1 hc] at hk
                      obtain ⟨_, ad, had, hk⟩ := hk
                      cases had; exact .inr (Nat.le_of_eq hk)
                · rintro s' ⟨v, hp', ⟨g, cap, zs, rfl, rfl⟩, rfl⟩
                  exact hK _ ⟨g, cap, zs, rfl⟩
theorem wpr_appz {ops : Array Oper} {i : Nat} {l₂ : List Nat} {m : Nat} {k' : IntKind} {t xt : TypeId} {dst : Option Nat} (hc : appzOf ops Γ.nt i s.fr = some (.slice none 0 0, .int k' (m : Int), t, xt, dst)) {e sz bytes : Nat} (ht : zrowTy Γ.P t xt = some (e, sz, bytes))
    (hm : 0 < m) (h63 : m ≤ 1099511627776) (hb : m * bytes ≤ 140737488355328)
    (h : ∀ g cap zs, WpR Γ ops l₂ ⟨putFr s.fr dst (.slice (some ⟨g, 0, none⟩) m cap), s.hp ++ [row e sz (some ⟨g, 0, none⟩) m cap zs]⟩ Q) : WpR Γ ops (i :: l₂) s Q :=
  wpr_step (step_appz hc ht hm h63 hb) fun s' ⟨g, cap, zs, h'⟩ => by subst h'; exact h g cap zs
end Go.Sx

/-! X16: a slice as an array; arrays compared. -/
namespace Go.Sx
open Go
variable {P : Program} {Γ : Cx} {Q : Exit → Act → World → Prop} {s : St}

def arrOf (ops : Array Oper) (nt i : Nat) (fr : Fr) : Option (TypeId × Value × Option Nat) :=
  match opAt ops nt i fr with
  | some o => match o.op with | .sliceToArrayPointer t x => some (t, ev fr x, o.dst) | _ => none
  | none => none
def arrLen (P : Program) (t : TypeId) : Option Nat := match P.underlying t with | some (.array n _) => some n | _ => none
theorem s2ap {ops : Array Oper} {i : Nat} {t : TypeId} {a : Option Addr} {m c n : Nat} {dst : Option Nat} (hc : arrOf ops Γ.nt i s.fr = some (t, .slice a m c, dst)) (ht : arrLen Γ.P t = some n) (h : n ≤ m) :
    Step Γ ops i s (fun s' => s' = ⟨putFr s.fr dst (.pointer a), s.hp⟩) := by
  unfold arrOf at hc
  split at hc
  case h_2 => cases hc
  case h_1 o ho =>
    split at hc
    case h_2 => cases hc
    case h_1 t' x hop =>
      simp only [Option.some.injEq, Prod.mk.injEq] at hc
      obtain ⟨rfl, hx, rfl⟩ := hc
      unfold arrLen at ht
      split at ht
      case h_2 => cases ht
      case h_1 n' e hu =>
        simp only [Option.some.injEq] at ht
        subst ht
        exact fun Q b' w hS K hK => step_sem ho (fun v hp' => v = .pointer a ∧ hp' = s.hp) (fun w hw => ⟨_, _, _, w, by
          simp only [execOp, hop, hx, Instr.arrayAt, Sem.run_bind, run_underlying hu, Sem.run_pure, Result.andThen_ok]
          rw [if_neg (by omega)]
          simp, .inl rfl, ⟨rfl, rfl⟩, hw, Ext.refl _ _, Bd.self _ _⟩) Q b' w hS K
          (fun s' ⟨v, hp', ⟨h1, h2⟩, h3⟩ => hK s' (by rw [h3, h1, h2]))

theorem run_eqItems_u8 {w : World} {e : TypeId} (he : P.underlying e = some (.int .u8)) (d : Nat) (a b : List UInt8) : ∀ is : List Nat, (∀ i ∈ is, i < a.length ∧ i < b.length) →
    (Op.eqItems (d + 1) e 1 (u8s a).toArray (u8s b).toArray is).run P w = .ok (is.all fun i => a[i]? == b[i]?) w
  | [], _ => by simp [Op.eqItems]
  | i :: is, h => by
    obtain ⟨h1, h2⟩ := h i (by simp)
    have ih := run_eqItems_u8 (w := w) he d a b is (fun j hj => h j (by simp [hj]))
    have k1 : (part e (u8s a).toArray (i * 1)).run P w = .ok (.int .u8 (a[i].toNat : Int)) w := by
      simp [part, isAgg, run_underlying he, u8s, h1]
    have k2 : (part e (u8s b).toArray (i * 1)).run P w = .ok (.int .u8 (b[i].toNat : Int)) w := by
      simp [part, isAgg, run_underlying he, u8s, h2]
    have k3 : (Op.equalIn (d + 1) e (.int .u8 (a[i].toNat : Int)) (.int .u8 (b[i].toNat : Int))).run P w = .ok ((a[i].toNat : Int) == (b[i].toNat : Int)) w := by
      simp [Op.equalIn, run_underlying he]
    have k4 : ((a[i].toNat : Int) == (b[i].toNat : Int)) = (a[i]? == b[i]?) := by
      rw [List.getElem?_eq_getElem h1, List.getElem?_eq_getElem h2]
      by_cases hab : a[i] = b[i]
      · simp [hab]
      · have : ¬ (a[i].toNat = b[i].toNat) := fun hh => hab (UInt8.toNat_inj.1 hh)
        have e1 : ((a[i].toNat : Int) == (b[i].toNat : Int)) = false := by simp; omega
        rw [e1]; simp [hab]
    simp only [Op.eqItems, Sem.run_bind, k1, k2, k3, Result.andThen_ok, k4, List.all_cons]
    cases hq : (a[i]? == b[i]?)
    · simp
    · simp [ih]
theorem all_range_eq (a b : List UInt8) (h : a.length = b.length) : ((List.range a.length).all fun i => a[i]? == b[i]?) = decide (a = b) := by
  rw [Bool.eq_iff_iff]
  simp only [List.all_eq_true, List.mem_range, beq_iff_eq, decide_eq_true_eq]
  constructor
  · intro hh
    apply List.ext_getElem? 
    intro i
    rcases Nat.lt_or_ge i a.length with hi | hi
    · exact hh i hi
    · rw [List.getElem?_eq_none hi, List.getElem?_eq_none (by omega)]
  · rintro rfl i _; rfl
def neqOf (ops : Array Oper) (nt i : Nat) (fr : Fr) : Option (TypeId × Value × Value × Option Nat) :=
  match opAt ops nt i fr with
  | some o => match o.op with | .binOp .neq t x y _ => some (t, ev fr x, ev fr y, o.dst) | _ => none
  | none => none
def u8Arr (P : Program) (t : TypeId) : Option Nat := match P.underlying t with
  | some (.array n e) => match P.underlying e, P.info? e with
    | some (.int .u8), some i => if i.size = 1 ∧ P.eqGuardType P.depth t = false then some n else none
    | _, _ => none
  | _ => none
theorem sneq {ops : Array Oper} {i : Nat} {t : TypeId} {a b : List UInt8} {n : Nat} {dst : Option Nat} (hc : neqOf ops Γ.nt i s.fr = some (t, .agg (u8s a).toArray, .agg (u8s b).toArray, dst)) (ht : u8Arr Γ.P t = some n) (ha : a.length = n) (hb : b.length = n) :
    Step Γ ops i s (fun s' => s' = ⟨putFr s.fr dst (.bool (!decide (a = b))), s.hp⟩) := by
  unfold neqOf at hc
  split at hc
  case h_2 => cases hc
  case h_1 o ho =>
    split at hc
    case h_2 => cases hc
    case h_1 t' x y r hop =>
      simp only [Option.some.injEq, Prod.mk.injEq] at hc
      obtain ⟨rfl, hx, hy, rfl⟩ := hc
      unfold u8Arr at ht
      split at ht
      case h_2 => cases ht
      case h_1 n' e hu =>
        split at ht
        case h_2 => cases ht
        case h_1 inf hue hi =>
          split at ht
          case isFalse => cases ht
          case isTrue hz =>
            simp only [Option.some.injEq] at ht
            subst ht
            have hcell : Γ.P.cellsOf e = 1 := by simp [Program.cellsOf, hi, hz.1]
            refine fun Q b' w hS K hK => step_sem ho (fun v hp' => v = .bool (!decide (a = b)) ∧ hp' = s.hp) (fun w hw => ⟨_, _, _, w, ?_, .inl rfl, ⟨rfl, rfl⟩, hw, Ext.refl _ _, Bd.self _ _⟩) Q b' w hS K
              (fun s' ⟨v, hp', ⟨h1, h2⟩, h3⟩ => hK s' (by rw [h3, h1, h2]))
            have h1 : (Op.equal t' (.agg (u8s a).toArray) (.agg (u8s b).toArray)).run Γ.P w = .ok (decide (a = b)) w := by
              show (Op.equalIn (9999 + 1) t' _ _).run Γ.P w = _
              rw [run_equalIn_array w 9999 _ _ hu hi, hcell]
              rw [show (9999 : Nat) = 9998 + 1 from rfl, run_eqItems_u8 hue 9998 a b _ (fun i hi => by rw [List.mem_range] at hi; omega)]
              rw [← ha, all_range_eq a b (by omega)]
            have h2 : (eqGuard .neq t' x y (.agg (u8s a).toArray) (.agg (u8s b).toArray)).run Γ.P w = .ok () w := by
              simp [eqGuard, hz.2]
            simp [execOp, hop, hx, hy, h2, binOp, h1]
end Go.Sx

/-
  The rules in few words: a list is told by how it comes out of the one before (Up, Uh); what is to be evaluated is filled in.
-/
namespace Go.Sx
open Go

/-- How a frame comes out of another: all, nothing more, kept, dropped, put in. -/
inductive Up : Fr → Fr → Prop
  | a {l : Fr} : Up l l
  | z {l : Fr} : Up l []
  | k {x : Nat × Value} {l m : Fr} : Up l m → Up (x :: l) (x :: m)
  | d {x : Nat × Value} {l m : Fr} : Up l m → Up (x :: l) m
  | i {l m : Fr} (n : Nat) (v : Value) : Up l m → Up l ((n, v) :: m)
/-- A list of numbers: its end. -/
inductive Un : List Nat → List Nat → Prop
  | a {l : List Nat} : Un l l
  | z {l : List Nat} : Un l []
  | d {x : Nat} {l m : List Nat} : Un l m → Un (x :: l) m
/-- Cells. -/
inductive Uv : List Value → List Value → Prop
  | a {l : List Value} : Uv l l
  | z {l : List Value} : Uv l []
  | k {x : Value} {l m : List Value} : Uv l m → Uv (x :: l) (x :: m)
  | d {x : Value} {l m : List Value} : Uv l m → Uv (x :: l) m
  | i {l m : List Value} (v : Value) : Uv l m → Uv l (v :: m)
/-- Chunks; u: cells of a block. -/
inductive Uh : Hp → Hp → Prop
  | a {l : Hp} : Uh l l
  | z {l : Hp} : Uh l []
  | k {x : Ch} {l m : Hp} : Uh l m → Uh (x :: l) (x :: m)
  | d {x : Ch} {l m : Hp} : Uh l m → Uh (x :: l) m
  | i {l m : Hp} (y : Ch) : Uh l m → Uh l (y :: m)
  | u {g : Nat} {T : TypeId} {v v' : List Value} {l m : Hp} : Uv v v' → Uh l m → Uh (.blk g T v :: l) (.blk g T v' :: m)

variable {Γ : Cx} {Q : Exit → Act → World → Prop} {s : St}

def LL (r : Option Rs) (l l₁ l₂ : List Nat) (fr' : Fr) : Option (List (Option Value) × Hp × List Nat × List Prop) × Bool × List Nat :=
  (r.map fun r => (fr'.map (fun p => look r.fr p.1), r.hp, r.gs, r.vc), true, l)
def RL (r : Option Rs) (l₁ l₂ : List Nat) (fr' : Fr) (hp' : Hp) (vc : List Prop) : Option (List (Option Value) × Hp × List Nat × List Prop) × Bool × List Nat :=
  (r.map fun r => (fr'.map (fun p => some p.2), hp', r.ws, vc), r.isSome, l₁ ++ l₂)
def fstOf (l l₂ : List Nat) : List Nat := l.take (l.length - l₂.length)

/-- Operations run, nothing owed. -/
theorem RR {ops : Array Oper} {l l₂ : List Nat} {fr' : Fr} {hp' : Hp} (sc : List Nat) (e : Un l l₂) (f : Up s.fr fr') (u : Uh s.hp hp')
    (h : WpR Γ ops l₂ ⟨fr', hp'⟩ Q)
    (c : LL (sops Γ.P true ops Γ.nt (fstOf l l₂) s.fr s.hp none sc) l (fstOf l l₂) l₂ fr' = RL (sops Γ.P true ops Γ.nt (fstOf l l₂) s.fr s.hp none sc) (fstOf l l₂) l₂ fr' hp' [] := by kernel_rfl) : WpR Γ ops l s Q := by
  simp only [LL, RL, Prod.mk.injEq] at c
  obtain ⟨c1, c2, c3⟩ := c
  rw [c3]
  exact wpr_run true _ sc fr' hp' [] c2.symm c1 trivial h
/-- The same; what is owed is vc. -/
theorem RV {ops : Array Oper} {l l₂ : List Nat} {fr' : Fr} {hp' : Hp} (md : Bool) (sc : List Nat) (e : Un l l₂) (f : Up s.fr fr') (u : Uh s.hp hp') (vc : List Prop) (hv : AllP vc)
    (h : WpR Γ ops l₂ ⟨fr', hp'⟩ Q)
    (c : LL (sops Γ.P md ops Γ.nt (fstOf l l₂) s.fr s.hp none sc) l (fstOf l l₂) l₂ fr' = RL (sops Γ.P md ops Γ.nt (fstOf l l₂) s.fr s.hp none sc) (fstOf l l₂) l₂ fr' hp' vc := by kernel_rfl) : WpR Γ ops l s Q := by
  simp only [LL, RL, Prod.mk.injEq] at c
  obtain ⟨c1, c2, c3⟩ := c
  rw [c3]
  exact wpr_run md _ sc fr' hp' vc c2.symm c1 hv h
/-- One new block, behind the others. -/
theorem RN {ops : Array Oper} {l l₂ : List Nat} {fr' : Fr} {hp' : Hp} (sc : List Nat) (e : Un l l₂) (d : Nat) (V : Nat → Value) (f : Up s.fr fr') (u : Uh s.hp hp') (T : TypeId) (vs : List Value)
    (h : ∀ g, WpR Γ ops l₂ ⟨(d, V g) :: fr', hp' ++ [.blk g T vs]⟩ Q)
    (c : ∀ g, LL (sops Γ.P true ops Γ.nt (fstOf l l₂) s.fr s.hp (some g) sc) l (fstOf l l₂) l₂ ((d, V g) :: fr') = RL (sops Γ.P true ops Γ.nt (fstOf l l₂) s.fr s.hp (some g) sc) (fstOf l l₂) l₂ ((d, V g) :: fr') (hp' ++ [.blk g T vs]) [] := by intro; kernel_rfl) : WpR Γ ops l s Q := by
  simp only [LL, RL, Prod.mk.injEq] at c
  rw [(c 0).2.2]
  exact wpr_new true _ sc (fun g => (d, V g) :: fr') (fun g => hp' ++ [.blk g T vs]) (fun _ => []) (fun g => (c g).2.1.symm) (fun g => (c g).1) (fun _ => trivial) h
theorem RP {ops : Array Oper} {l l₂ : List Nat} {fr' : Fr} {hp' : Hp} (sc : List Nat) (e : Un l l₂) (d : Nat) (f : Up s.fr fr') (u : Uh s.hp hp') (T : TypeId) (vs : List Value)
    (h : ∀ g, WpR Γ ops l₂ ⟨(d, .pointer (some ⟨g, 0, none⟩)) :: fr', hp' ++ [.blk g T vs]⟩ Q)
    (c : ∀ g, LL (sops Γ.P true ops Γ.nt (fstOf l l₂) s.fr s.hp (some g) sc) l (fstOf l l₂) l₂ ((d, .pointer (some ⟨g, 0, none⟩)) :: fr') = RL (sops Γ.P true ops Γ.nt (fstOf l l₂) s.fr s.hp (some g) sc) (fstOf l l₂) l₂ ((d, .pointer (some ⟨g, 0, none⟩)) :: fr') (hp' ++ [.blk g T vs]) [] := by intro; kernel_rfl) : WpR Γ ops l s Q :=
  RN sc e d _ f u T vs h c

theorem RZ {ops : Array Oper} (h : Nx Γ s Q .normal) : WpR Γ ops [] s Q := wpr_nil h
theorem NT {y : Code} (h : WpC Γ y s Q) : Nx Γ s (Exit.then (fun a w => y.wp Γ.P Q a w) Q) .normal := nx_then h
theorem SQ {x y : Code} (h : WpC Γ x s (Exit.then (fun a w => y.wp Γ.P Q a w) Q)) : WpC Γ (.seq x y) s Q := wpc_seq h
theorem RG {id : Nat} {ops : Array Oper} (h : WpR Γ ops (List.range ops.size) s Q) : WpC Γ (.region id ops false) s Q := wpc_region _ rfl h
theorem CT {c : Operand} {x y : Code} (h : WpC Γ x s Q) (hc : (match c with | .tmp t => look s.fr t | c => some (ev [] c)) = some (.bool true) := by kernel_rfl) : WpC Γ (.cond c x y) s Q := wpc_true hc h
theorem CF {c : Operand} {x y : Code} (h : WpC Γ y s Q) (hc : (match c with | .tmp t => look s.fr t | c => some (ev [] c)) = some (.bool false) := by kernel_rfl) : WpC Γ (.cond c x y) s Q := wpc_false hc h

theorem RE (h : Nx Γ s Q .ret) : WpC Γ .ret s Q := wpc_ret h
theorem SK (h : Nx Γ s Q .normal) : WpC Γ .skip s Q := wpc_skip h
theorem EX {id : Nat} (h : Nx Γ s Q (.exit id)) : WpC Γ (.exit id) s Q := wpc_exit h
theorem BK {id : Nat} {c : Code} (h : WpC Γ c s (Exit.inBlock id Q)) : WpC Γ (.block id c) s Q := wpc_block h
theorem BN {id : Nat} (h : Nx Γ s Q .normal) : Nx Γ s (Exit.inBlock id Q) .normal := nx_block h
theorem BR {id : Nat} (h : Nx Γ s Q .ret) : Nx Γ s (Exit.inBlock id Q) .ret := nx_block_ret h
theorem BH {id : Nat} (h : Nx Γ s Q .normal) : Nx Γ s (Exit.inBlock id Q) (.exit id) := nx_block_here h
theorem BF {id id' : Nat} (h : Nx Γ s Q (.exit id')) (hne : (id' == id) = false := by kernel_rfl) : Nx Γ s (Exit.inBlock id Q) (.exit id') := nx_block_far hne h
theorem TE {K : Act → World → Prop} {id : Nat} (h : Nx Γ s Q (.exit id)) : Nx Γ s (Exit.then K Q) (.exit id) := nx_then_exit h
theorem TR {K : Act → World → Prop} (h : Nx Γ s Q .ret) : Nx Γ s (Exit.then K Q) .ret := nx_then_ret h

/-- A truth that is waited for. -/
theorem SR {ops : Array Oper} {l : List Nat} (d : Nat) (b c : Bool) (p : b = c) (h : WpR Γ ops l ⟨(d, .bool c) :: s.fr, s.hp⟩ Q) (hd : look s.fr d = some (.bool b) := by kernel_rfl) : WpR Γ ops l s Q := wpr_ent (fun a w hS => hS.setBool hd p) h
theorem SC {x : Code} (d : Nat) (b c : Bool) (p : b = c) (h : WpC Γ x ⟨(d, .bool c) :: s.fr, s.hp⟩ Q) (hd : look s.fr d = some (.bool b) := by kernel_rfl) : WpC Γ x s Q := wpc_ent (fun a w hS => hS.setBool hd p) h
theorem SA {ops : Array Oper} {hs : Hp} {n : Nat} {li : Array Bool} (d : Nat) (b c : Bool) (p : b = c) (h : WpA Γ ops hs n li ⟨(d, .bool c) :: s.fr, s.hp⟩ Q) (hd : look s.fr d = some (.bool b) := by kernel_rfl) : WpA Γ ops hs n li s Q := wpa_ent (fun a w hS => hS.setBool hd p) h

theorem GV {hp pre rest : Hp} (h : Give hp pre rest) (i : Nat) {c c' : Ch} (v : View c c') (hc : rest[i]? = some c := by rfl) : Give hp (c' :: pre) rest := h.view i hc v
theorem GI {hp pre rest : Hp} (is : List Nat) (h : picks is hp = some (pre, rest) := by kernel_rfl) : Give hp pre rest := give is h
theorem GJ {hp pre rest : Hp} (is : List Nat) (h : picks is hp = some (pre, rest) := by exact rfl) : Give hp pre rest := give is h
theorem GO {hp pre pre' rest : Hp} (g : Give hp pre rest) (is : List Nat) (h : picks is pre = some (pre', []) := by kernel_rfl) : Give hp pre' rest := g.reorder is h
/-- A call; what is left of the heap is told. -/
theorem RC {ops : Array Oper} {i : Nat} {l₂ : List Nat} {f : FuncId} {args : List Value} {dst : Option Nat} {pre rest : Hp} {R : Value → Hp → Prop} (is : List Nat) (u : Uh s.hp rest) (hf : Does Γ.P f args pre R)
    (h : ∀ v hp', R v hp' → WpR Γ ops l₂ ⟨putFr s.fr dst v, hp' ++ rest⟩ Q)
    (hc : callOf Γ.P ops Γ.nt i s.fr = some (f, args, dst) := by kernel_rfl) (g : picks is s.hp = some (pre, rest) := by kernel_rfl) : WpR Γ ops (i :: l₂) s Q := wpr_call hc hf (give is g) h
theorem RCG {ops : Array Oper} {i : Nat} {l₂ : List Nat} {f : FuncId} {args : List Value} {dst : Option Nat} {pre rest : Hp} {R : Value → Hp → Prop} (u : Uh s.hp rest) (hf : Does Γ.P f args pre R) (g : Give s.hp pre rest)
    (h : ∀ v hp', R v hp' → WpR Γ ops l₂ ⟨putFr s.fr dst v, hp' ++ rest⟩ Q)
    (hc : callOf Γ.P ops Γ.nt i s.fr = some (f, args, dst) := by kernel_rfl) : WpR Γ ops (i :: l₂) s Q := wpr_call hc hf g h
theorem RCA {ops : Array Oper} {i : Nat} {l₂ : List Nat} {f : FuncId} {args : List Value} {dst : Option Nat} {R : Value → Hp → Prop} (hf : Does Γ.P f args s.hp R)
    (h : ∀ v hp', R v hp' → WpR Γ ops l₂ ⟨putFr s.fr dst v, hp'⟩ Q) (hc : callOf Γ.P ops Γ.nt i s.fr = some (f, args, dst) := by kernel_rfl) : WpR Γ ops (i :: l₂) s Q := wpr_call_all hc hf give_all h

/-- The end. -/
theorem NE {P : Program} {w0 : World} {pre : Hp} {nt : Nat} {fn : Func} {R : Value → Hp → Prop} {hp' rest : Hp} {e : Exit} (is : List Nat) (u : Uh s.hp hp') (u' : Uh s.hp rest) (sc : List Nat) (v : Value) (hR : R v hp')
    (h1 : (resOf P fn s.fr s.hp sc).isSome = true := by kernel_rfl) (h2 : (resOf P fn s.fr s.hp sc).map (fun r => (r.1, r.2.1)) = (resOf P fn s.fr s.hp sc).map (fun r => (v, r.2.2.1)) := by kernel_rfl)
    (g : picks is s.hp = some (hp', rest) := by kernel_rfl) (hrw : AllRw hp' := by first | ((repeat (first | exact trivial | refine ⟨trivial, ?_⟩)); done) | assumption)
    (he : e = .normal ∨ e = .ret := by first | exact .inl rfl | exact .inr rfl) : Nx ⟨P, w0, foot pre, nt, []⟩ s (bodyPost P fn (Post w0 pre R)) e := nx_end sc v h1 h2 (give is g) hrw hR he

/-! ### regions that draw -/
theorem TK [PanicOk Q] {ops : Array Oper} {hs : Hp} {li : Array Bool} {fr' : Fr} (n : Nat) (l : List (Nat × List Nat)) (f : Up s.fr fr') (li' : Array Bool) {N : Nat} (h : WpA Γ ops hs n li' ⟨fr', s.hp⟩ Q)
    (hns : Region.noSelect ops = true := by kernel_rfl) (h1 : (stake Γ.P true ops Γ.nt hs l s.fr li).isSome = true := by kernel_rfl)
    (h2 : (stake Γ.P true ops Γ.nt hs l s.fr li).map (fun r => (fr'.map (fun p => look r.fr p.1), r.listed, r.gs, r.vc)) = (stake Γ.P true ops Γ.nt hs l s.fr li).map (fun r => (fr'.map (fun p => some p.2), li', r.ws, [])) := by kernel_rfl)
    (hN : n + l.length = N := by kernel_rfl) : WpA Γ ops hs N li s Q := by
  subst hN
  exact wpa_take true l fr' li' [] hns h1 h2 trivial h
theorem AO {ops : Array Oper} {hs : Hp} {li : Array Bool} {fr' : Fr} {hp' : Hp} (n i : Nat) (sc : List Nat) (f : Up s.fr fr') (u : Uh s.hp hp') (is : List Nat) {N : Nat}
    (h : WpA Γ ops hs n (li.setIfInBounds i true) ⟨fr', hp'⟩ Q) (hr : Region.ready .any ops li = [i] := by kernel_rfl)
    (h1 : (sop Γ.P true ops Γ.nt i s.fr s.hp none sc).isSome = true := by kernel_rfl)
    (h2 : (sop Γ.P true ops Γ.nt i s.fr s.hp none sc).map (fun r => (fr'.map (fun p => look r.fr p.1), r.hp, r.gs, r.vc)) = (sop Γ.P true ops Γ.nt i s.fr s.hp none sc).map (fun r => (fr'.map (fun p => some p.2), hp', r.ws, [])) := by kernel_rfl)
    (hsub : is.map (fun i => hp'[i]?) = hs.map some := by kernel_rfl) (hN : n + 1 = N := by kernel_rfl) : WpA Γ ops hs N li s Q := by
  subst hN
  exact wpa_one true i sc fr' hp' [] hr h1 h2 trivial (sub_of is hsub) h
theorem AC {ops : Array Oper} {hs : Hp} {li : Array Bool} {f : FuncId} {args : List Value} {dst : Option Nat} {pre rest : Hp} {R : Value → Hp → Prop} (n i : Nat) (u : Uh s.hp rest) (hf : Does Γ.P f args pre R) (g : Give s.hp pre rest) (is : List Nat) {N : Nat}
    (h : ∀ v hp', R v hp' → WpA Γ ops hs n (li.setIfInBounds i true) ⟨putFr s.fr dst v, hp' ++ rest⟩ Q)
    (hr : Region.ready .any ops li = [i] := by kernel_rfl) (hc : callOf Γ.P ops Γ.nt i s.fr = some (f, args, dst) := by kernel_rfl) (hsub : is.map (fun i => rest[i]?) = hs.map some := by kernel_rfl) (hN : n + 1 = N := by kernel_rfl) : WpA Γ ops hs N li s Q := by
  subst hN
  exact wpa_call hr hc hf g (sub_of is hsub) h

end Go.Sx
