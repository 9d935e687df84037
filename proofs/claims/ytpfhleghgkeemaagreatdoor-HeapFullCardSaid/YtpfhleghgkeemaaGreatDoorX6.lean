import Derived.Test.YtpfhleghgkeemaaGreatDoorX5
import Derived.Lib.AppendStr
import Derived.Laws.IdiomCopy
import Derived.ArgAppend
import Derived.Laws.Cells
/-
  Rows (a slice's own cells), cells that are read alone, append.
-/
namespace Go.Sx
open Go
set_option linter.unusedVariables false
set_option linter.unusedSimpArgs false

/-- These cells lie from the address on. -/
def cellsAt (w : World) (a : Addr) (xs : List Value) : Prop := ∀ j u, xs[j]? = some u → w.cell? (a.add j) = some u
def One (xs : List Value) : Prop := ∀ u ∈ xs, u.oneCell' = true

/-- A slice value (its address a, its length n, its capacity cap) and the row that it alone may write: sz cells an element; the first n elements are xs. -/
def rowH (T sz : Nat) (a : Option Addr) (n cap : Nat) (xs : List Value) (w : World) : Prop :=
  xs.length = n * sz ∧ n ≤ cap ∧ cap ≤ maxLen ∧ One xs ∧
    ((cap = 0 ∧ ∀ ad, a = some ad → ad.spot = none) ∨ ∃ g off cur fz, a = some ⟨g, off, none⟩ ∧ w.heap[g]? = some (.cells cur T fz) ∧ off + cap * sz ≤ cur.size ∧ (cur.toList.drop off).take (n * sz) = xs ∧ ∀ o, o < cur.size → ¬ (fz.1 ≤ o ∧ o < fz.2))

def rowOwn (a : Option Addr) (k : Nat) : Prop := ∃ ad, a = some ad ∧ ad.block = k

def rowQ (T sz : Nat) (a : Option Addr) (n cap : Nat) (xs : List Value) : Oq where
  own := fun k => 0 < cap ∧ rowOwn a k
  rw := True
  holds := rowH T sz a n cap xs
  loc := fun w w' hk ⟨h1, h2, h3, h4, h5⟩ => ⟨h1, h2, h3, h4, by
    rcases Nat.eq_zero_or_pos cap with hc | hc
    · refine .inl ⟨hc, fun ad had => ?_⟩
      rcases h5 with h | ⟨g, off, cur, fz, ha, _⟩
      · exact h.2 ad had
      · rw [ha] at had; cases had; rfl
    · rcases h5 with h | ⟨g, off, cur, fz, ha, hg, hr⟩
      · omega
      · exact .inr ⟨g, off, cur, fz, ha, (hk g ⟨hc, _, ha, rfl⟩).trans hg, hr⟩⟩
  lt := fun w k ⟨h1, h2, h3, h4, h5⟩ ⟨hp, ad, ha, hk⟩ => by
    rcases h5 with ⟨h, _⟩ | ⟨g, off, cur, fz, ha', hg, _⟩
    · omega
    · rw [ha'] at ha; cases ha; rw [← hk]; exact lt_of_get hg
def row (T sz : Nat) (a : Option Addr) (n cap : Nat) (xs : List Value) : Ch := .op (rowQ T sz a n cap xs)

/-- Cells that are read alone. -/
def roH (a : Option Addr) (xs : List Value) (w : World) : Prop := One xs ∧ match a with | none => xs = [] | some ad => cellsAt w ad xs
def roQ (a : Option Addr) (xs : List Value) : Oq where
  own := fun k => rowOwn a k ∧ xs ≠ []
  rw := False
  holds := roH a xs
  loc := fun w w' hk ⟨h1, h2⟩ => ⟨h1, by
    cases a with
    | none => exact h2
    | some ad =>
      intro j u hu
      have hne : xs ≠ [] := by rintro rfl; simp at hu
      have hb : (ad.add j).block = ad.block := by unfold Addr.add; split <;> rfl
      rw [World.cell?_of_block (w := w) (hb ▸ hk ad.block ⟨⟨ad, rfl, rfl⟩, hne⟩)]
      exact h2 j u hu⟩
  lt := fun w k ⟨h1, h2⟩ ⟨⟨ad, ha, hk⟩, hne⟩ => by
    subst ha
    cases xs with
    | nil => exact absurd rfl hne
    | cons u r =>
      have h := h2 0 u rfl
      have e0 : ad.add 0 = ad := rfl
      rw [e0] at h
      rw [← hk]
      unfold World.cell? at h
      split at h
      · rename_i hg; exact lt_of_get hg
      · cases h
def ro (a : Option Addr) (xs : List Value) : Ch := .op (roQ a xs)

theorem row_cells {T sz : Nat} {g off : Nat} {n cap : Nat} {xs : List Value} {w : World} (h : rowH T sz (some ⟨g, off, none⟩) n cap xs w) : cellsAt w ⟨g, off, none⟩ xs := by
  obtain ⟨h1, h2, h3, h4, h5⟩ := h
  rcases h5 with ⟨h, _⟩ | ⟨g', off', cur, fz, ha, hg, hr, hx, hfz⟩
  · intro j u hu
    have hj := (List.getElem?_eq_some_iff.1 hu).1
    have hn : n = 0 := by omega
    subst hn
    rw [h1] at hj; simp at hj
  · cases ha
    intro j u hu
    have hj : j < n * sz := by rw [← h1]; exact (List.getElem?_eq_some_iff.1 hu).1
    rw [← hx, List.getElem?_take, if_pos hj, List.getElem?_drop] at hu
    have hadd : (⟨g, off, none⟩ : Addr).add j = ⟨g, off + j, none⟩ := by unfold Addr.add; split <;> simp_all
    rw [hadd]
    simp only [World.cell?, hg]
    simpa using hu

theorem view_row {T sz : Nat} {a : Option Addr} {n cap : Nat} {xs : List Value} : View (row T sz a n cap xs) (ro a xs) where
  holds := fun w h => by
    obtain ⟨h1, h2, h3, h4, h5⟩ := id h
    refine ⟨h4, ?_⟩
    rcases h5 with ⟨hc, _⟩ | ⟨g, off, cur, fz, rfl, _⟩
    · have hx : xs = [] := List.eq_nil_of_length_eq_zero (by rw [h1]; have : n = 0 := by omega
                                                             subst this; simp)
      subst hx
      cases a with
      | none => rfl
      | some ad => intro j u hu; simp at hu
    · exact row_cells h
  own := fun w h k hk => by
    obtain ⟨h1, h2, h3, h4, h5⟩ := h
    refine ⟨?_, hk.1⟩
    rcases Nat.eq_zero_or_pos cap with hc | hc
    · have hn : n = 0 := by omega
      subst hn
      exact absurd (List.eq_nil_of_length_eq_zero (by rw [h1]; simp)) hk.2
    · exact hc
  ro := fun h => h

theorem view_ro {a : Option Addr} {xs : List Value} : View (ro a xs) (ro a xs) := ⟨fun _ h => h, fun _ _ _ h => h, fun h => h⟩

/-- A whole block seen as a slice over a part of it. -/
theorem view_blk {g T : Nat} {l : List Value} (off k : Nat) (h1 : One ((l.drop off).take k)) : View (.blk g T l) (ro (some ⟨g, off, none⟩) ((l.drop off).take k)) where
  holds := fun w h => ⟨h1, fun j u hu => by
    have hadd : (⟨g, off, none⟩ : Addr).add j = ⟨g, off + j, none⟩ := by unfold Addr.add; split <;> simp_all
    rw [hadd, cell_blk h _ rfl rfl]
    rw [List.getElem?_take] at hu
    split at hu
    · rwa [List.getElem?_drop] at hu
    · cases hu⟩
  own := fun _ _ k ⟨⟨ad, ha, hk⟩, _⟩ => by cases ha; exact hk.symm
  ro := fun h => h

theorem view_part {a : Addr} {xs : List Value} (i k : Nat) : View (ro (some a) xs) (ro (some (a.add i)) ((xs.drop i).take k)) where
  holds := fun w ⟨h1, h2⟩ => ⟨fun u hu => h1 u (List.mem_of_mem_drop (List.mem_of_mem_take hu)), fun j u hu => by
    rw [List.getElem?_take] at hu
    split at hu
    · rw [List.getElem?_drop] at hu
      have := h2 (i + j) u hu
      rw [← this]
      congr 1
      unfold Addr.add
      by_cases hi : i = 0
      · subst hi; simp
      · by_cases hj : j = 0
        · subst hj; simp
        · have : ¬ (i + j = 0) := by omega
          simp [hi, hj, this, Nat.add_assoc]
    · cases hu⟩
  own := fun _ _ k' ⟨⟨ad, ha, hk⟩, hne⟩ => by
    cases ha
    refine ⟨⟨a, rfl, ?_⟩, fun e => hne (by simp [e])⟩
    rw [← hk]; unfold Addr.add; split <;> rfl
  ro := fun h => h

/-! ### append -/
/-- What is appended: m elements, these cells. -/
def srcOk (w : World) (sz : Nat) (x : Value) (m : Nat) (news : List Value) : Prop :=
  One news ∧ match x with
    | .slice (some ad) m' _ => m' = m ∧ news.length = m * sz ∧ cellsAt w ad news
    | .slice none m' _ => m' = 0 ∧ m = 0 ∧ news = []
    | .string s => m = s.size ∧ sz = 1 ∧ news = Lib.strCells s
    | _ => False

variable {P : Program}

theorem src_len {w : World} {sz : Nat} {x : Value} {m : Nat} {news : List Value} (h : srcOk w sz x m news) : news.length = m * sz := by
  obtain ⟨_, h⟩ := h
  split at h
  · exact h.2.1
  · rw [h.2.1, h.2.2]; simp
  · rw [h.1, h.2.1, h.2.2, Lib.strCells_length]; simp
  · exact h.elim
theorem src_lenOf {w : World} {sz : Nat} {x : Value} {m : Nat} {news : List Value} (h : srcOk w sz x m news) (w' : World) : (Builtin.lenOf x).run P w' = .ok m w' := by
  obtain ⟨_, h⟩ := h
  split at h
  · rw [h.1]; rfl
  · rw [h.1, h.2.1]; rfl
  · rw [h.1]; rfl
  · exact h.elim
theorem src_first {w w' : World} {sz : Nat} {x : Value} {m : Nat} {news : List Value} (h : srcOk w sz x m news) (hw : ∀ a, w'.cell? a = w.cell? a) : (Builtin.firstCells sz m x).run P w' = .ok news.toArray w' := by
  obtain ⟨_, h⟩ := h
  split at h
  · rename_i ad m' c
    exact run_firstCells_some (P := P) w' sz m ad m' c news h.2.1 (fun j v hv => by rw [hw]; exact h.2.2 j v hv)
  · rw [h.2.2]; rfl
  · rw [h.1, h.2.2]; exact Lib.run_firstCells_string w' sz _
  · exact h.elim

def putCells (w : World) (a : Option Addr) (k : Nat) (news : List Value) : World := match a with | some ad => w.setCells ad.block (ad.off + k) news | none => w

theorem append_fits {w : World} {t xt ty e : TypeId} {i : TypeInfo} {d : TypeDesc} (ht : P.underlying t = some (.slice e)) (hxt : P.underlying xt = some d) (hd : ∀ k, d ≠ .int k) (hi : P.info? e = some i)
    {g off n cap m : Nat} {x : Value} {news : List Value} (hs : srcOk w i.size x m news) (hf : n + m ≤ cap)
    (hc : ∀ j, j < news.length → (w.cell? ⟨g, off + n * i.size + j, none⟩).isSome = true) (hz : ∀ j, j < news.length → w.frozen? ⟨g, off + n * i.size + j, none⟩ = false) :
    (Builtin.append_ #[t, xt] ty #[.slice (some ⟨g, off, none⟩) n cap, x]).run P w = .ok (.slice (some ⟨g, off, none⟩) (n + m) cap) (w.setCells g (off + n * i.size) news) := by
  have hl := src_lenOf (P := P) hs w
  have hfc := src_first (P := P) hs (w' := w) (fun _ => rfl)
  have hst := run_storeCells_cells (P := P) g (off + n * i.size) news 0 w (by simpa using hc) (by simpa using hz) hs.1
  simp only [Nat.add_zero] at hst
  have hdm : (match d with | .int _ => true | _ => false) = false := by cases d <;> first | rfl | exact absurd rfl (hd _)
  simp [Builtin.append_, run_underlying ht, run_underlying hxt, hdm, sizeOf, typeInfo, hi, hl, hf, hfc, Addr.add_lit, hst]

theorem append_none {w : World} {t xt ty e : TypeId} {i : TypeInfo} {d : TypeDesc} (ht : P.underlying t = some (.slice e)) (hxt : P.underlying xt = some d) (hd : ∀ k, d ≠ .int k) (hi : P.info? e = some i)
    {x : Value} {news : List Value} (hs : srcOk w i.size x 0 news) :
    (Builtin.append_ #[t, xt] ty #[.slice none 0 0, x]).run P w = .ok (.slice none 0 0) w := by
  have hl := src_lenOf (P := P) hs w
  have hfc := src_first (P := P) hs (w' := w) (fun _ => rfl)
  have hn : news = [] := List.eq_nil_of_length_eq_zero (by simpa using src_len hs)
  have hdm : (match d with | .int _ => true | _ => false) = false := by cases d <;> first | rfl | exact absurd rfl (hd _)
  subst hn
  simp [Builtin.append_, run_underlying ht, run_underlying hxt, hdm, sizeOf, typeInfo, hi, hl, hfc]

theorem append_grows {w : World} {t xt ty e : TypeId} {i : TypeInfo} {z : Value} {d : TypeDesc} (ht : P.underlying t = some (.slice e)) (hxt : P.underlying xt = some d) (hd : ∀ k, d ≠ .int k) (hi : P.info? e = some i) (hz : i.zero = some z)
    {a : Option Addr} {n cap m : Nat} {olds : List Value} (hlo : olds.length = n * i.size) (holds : ∀ ad, a = some ad → cellsAt w ad olds) (hnone : a = none → olds = [])
    {x : Value} {news : List Value} (hs : srcOk w i.size x m news) (hf : cap < n + m) (h63 : n + m ≤ maxLen) (hb : (n + m) * i.bytes ≤ 140737488355328) :
    (Builtin.append_ #[t, xt] ty #[.slice a n cap, x]).run P w = .ok (.slice (some ⟨w.heap.size, 0, none⟩) (n + m) (grownCap w (n + m) cap e))
      (w.drew.alloc (.cells (olds.toArray ++ news.toArray ++ Builtin.zeroCells z.cells (grownCap w (n + m) cap e - (n + m))) e)) := by
  have hl := src_lenOf (P := P) hs w
  have hfc := src_first (P := P) hs (w' := w.drew) (fun _ => rfl)
  have hfo : (Builtin.firstCells i.size n (.slice a n cap)).run P w.drew = .ok olds.toArray w.drew := by
    cases a with
    | none => rw [hnone rfl]; rfl
    | some ad => exact run_firstCells_some (P := P) w.drew i.size n ad n cap olds hlo (fun j v hv => holds ad rfl j v hv)
  have hdm : (match d with | .int _ => true | _ => false) = false := by cases d <;> first | rfl | exact absurd rfl (hd _)
  have hn : ¬ (n + m ≤ cap) := by omega
  have h63a : n + m ≤ 9223372036854775807 := by simp only [maxLen] at h63; omega
  have h63' : ¬ (9223372036854775807 < ((n : Int) + (m : Int))) := by omega
  have hfit := growslice_fits hf hb
  have h48' : ¬ (281474976710656 < Builtin.nextslicecap (n + m) cap * i.bytes) := by omega
  simp [Builtin.append_, run_underlying ht, run_underlying hxt, hdm, sizeOf, typeInfo, zeroValue, hi, hz, hl, hn, h63', h48', Question.forced, hfc, hfo, newRow, grownCap]
  congr 2
  apply Array.ext'
  simp [List.append_assoc]

/-- A chunk is put in the place of another: it owns no more than that one and new blocks. -/
theorem HS.put {hp : Hp} {w w' : World} (h : HS hp w) {i : Nat} {c c' : Ch} (hi : hp[i]? = some c) (hc : c.rw) (hown : ∀ k, c'.own k → c.own k ∨ w.heap.size ≤ k) (hholds : c'.holds w')
    (hrest : ∀ k, ¬ c.own k → k < w.heap.size → w'.heap[k]? = w.heap[k]?) : HS (hp.set i c') w' := by
  obtain ⟨hi1, hi2⟩ := List.getElem?_eq_some_iff.1 hi
  have hap : ∀ j, j ≠ i → ∀ d, hp[j]? = some d → ∀ k, c.own k → ¬ d.own k := fun j hj d hd => by
    rcases pairwise_get h.apart (Ne.symm hj) hi hd with ⟨h1, _⟩ | h1
    · exact absurd hc h1
    · exact h1
  have hap' : ∀ j, j ≠ i → ∀ d, hp[j]? = some d → ∀ k, c'.own k → ¬ d.own k := fun j hj d hd k hk hdk => by
    rcases hown k hk with h1 | h1
    · exact hap j hj d hd k h1 hdk
    · have := d.lt (h.holds d (List.mem_of_getElem? hd)) hdk; omega
  constructor
  · intro d hd
    obtain ⟨j, hj1, hj⟩ := List.getElem_of_mem hd
    rw [List.getElem_set] at hj
    split at hj
    · subst hj; exact hholds
    · rename_i hne
      have hjl : j < hp.length := by simpa using hj1
      have hd' : hp[j]? = some d := by rw [List.getElem?_eq_getElem hjl, hj]
      have hdw := h.holds d (List.mem_of_getElem? hd')
      exact d.loc (fun k hk => hrest k (fun hck => hap j (fun e => hne e.symm) d hd' k hck hk) (d.lt hdw hk)) hdw
  · rw [List.pairwise_iff_getElem]
    intro x y hx hy hxy
    have hx' : x < hp.length := by simpa using hx
    have hy' : y < hp.length := by simpa using hy
    have hp' := List.pairwise_iff_getElem.1 h.apart x y hx' hy' hxy
    rw [List.getElem_set, List.getElem_set]
    by_cases hxi : i = x
    · subst hxi
      rw [if_pos rfl, if_neg (by omega)]
      exact .inr fun k hk => hap' y (by omega) _ (List.getElem?_eq_getElem hy') k hk
    · rw [if_neg hxi]
      by_cases hyi : i = y
      · subst hyi
        rw [if_pos rfl]
        exact .inr fun k hk hk' => hap' x (by omega) _ (List.getElem?_eq_getElem hx') k hk' hk
      · rw [if_neg hyi]; exact hp'

theorem Bd.put {hp : Hp} {w : World} {i : Nat} {c c' : Ch} (hi : hp[i]? = some c) (hc : c.rw) (hown : ∀ k, c'.own k → c.own k ∨ w.heap.size ≤ k) : Bd (hp.set i c') (foot hp) w.heap.size := fun d hd hr k hk => by
  rcases List.mem_or_eq_of_mem_set hd with hd | hd
  · exact .inl ⟨d, hd, hr, hk⟩
  · subst hd
    rcases hown k hk with h | h
    · exact .inl ⟨c, List.mem_of_getElem? hi, hc, h⟩
    · exact .inr h

def appOf (ops : Array Oper) (nt : Nat) (i : Nat) (fr : Fr) : Option (Value × Value × TypeId × TypeId × Option Nat) :=
  match ops[i]? with
  | none => none
  | some o =>
    match okDst nt o.dst, wants ops fr o, knownOp fr o, o.op with
    | true, some true, true, .call c =>
      match c.callee, c.args.toList, c.argTypes.toList with
      | .builtin .append, [s, x], [t, xt] => some (ev fr s, ev fr x, t, xt, o.dst)
      | _, _, _ => none
    | _, _, _, _ => none
/-- The element's type, its cells, its bytes. -/
def rowTy (P : Program) (t xt : TypeId) : Option (TypeId × Nat × Nat) :=
  match P.underlying t, P.underlying xt with
  | some (.slice e), some d =>
    match d with
    | .int _ => none
    | _ => match P.info? e with
      | some i => match i.zero with
        | some z => match z.cells.size == i.size, (0).blt i.size with | true, true => some (e, i.size, i.bytes) | _, _ => none
        | none => none
      | none => none
  | _, _ => none

theorem setCells_heap {g T : Nat} {fz : Nat × Nat} {news : List Value} : ∀ {k : Nat} {cur : Array Value} {w : World}, w.heap[g]? = some (.cells cur T fz) → k + news.length ≤ cur.size →
    (w.setCells g k news).heap[g]? = some (.cells (cur.toList.take k ++ news ++ cur.toList.drop (k + news.length)).toArray T fz) := by
  induction news with
  | nil => intro k cur w hg _; simpa [World.setCells] using hg
  | cons v r ih =>
    intro k cur w hg hk
    simp only [List.length_cons] at hk
    have h1 : (w.setCell ⟨g, k, none⟩ v).heap[g]? = some (.cells (cur.setIfInBounds k v) T fz) := by
      simp only [World.setCell, Array.getElem?_modify, hg]; simp
    have h2 := ih (k := k + 1) h1 (by simp; omega)
    rw [World.setCells, h2]
    congr 2
    apply Array.ext'
    have hk' : k < cur.toList.length := by simp; omega
    simp only [Array.toList_setIfInBounds, List.length_cons]
    have hd : (cur.toList.set k v).drop (k + 1 + r.length) = cur.toList.drop (k + (r.length + 1)) := by
      rw [List.drop_set_of_lt (by omega)]; congr 1; omega
    have ht : (cur.toList.set k v).take (k + 1) = cur.toList.take k ++ [v] := by
      rw [List.set_eq_take_append_cons_drop, if_pos hk', List.take_append, List.length_take, Nat.min_eq_left (by omega)]
      simp
      exact List.take_of_length_le (by simp; omega)
    rw [hd, ht]
    simp
theorem setCells_other {g : Nat} {news : List Value} : ∀ {k : Nat} {w : World} {b : Nat}, b ≠ g → (w.setCells g k news).heap[b]? = w.heap[b]? := by
  induction news with
  | nil => intro k w b _; rfl
  | cons v r ih =>
    intro k w b hb
    rw [World.setCells, ih hb]
    exact heap_set_ne _ _ hb
theorem setCells_size {g : Nat} {news : List Value} : ∀ {k : Nat} {w : World}, (w.setCells g k news).heap.size = w.heap.size ∧ (w.setCells g k news).os = w.os ∧ (w.setCells g k news).tape = w.tape ∧ (w.setCells g k news).output = w.output := by
  induction news with
  | nil => intro k w; exact ⟨rfl, rfl, rfl, rfl⟩
  | cons v r ih => intro k w; rw [World.setCells]; obtain ⟨h1, h2, h3, h4⟩ := ih (k := k + 1) (w := w.setCell ⟨g, k, none⟩ v); exact ⟨by rw [h1]; simp [World.setCell], h2, h3, h4⟩

variable {Γ : Cx} {Q : Exit → Act → World → Prop} {s : St}

theorem add_lit' (g off j : Nat) : (⟨g, off, none⟩ : Addr).add j = ⟨g, off + j, none⟩ := by unfold Addr.add; split <;> simp_all

theorem app_run {t xt ty e sz bytes : Nat} (ht : rowTy P t xt = some (e, sz, bytes)) {a : Option Addr} {n cap m : Nat} {xs news : List Value} {x : Value} {w : World}
    (hr : rowH e sz a n cap xs w) (hs : srcOk w sz x m news) (h63 : n + m ≤ maxLen) (hb : (n + m) * bytes ≤ 140737488355328) :
    ∃ a' cap' w', (Builtin.append_ #[t, xt] ty #[.slice a n cap, x]).run P w = .ok (.slice a' (n + m) cap') w' ∧ rowH e sz a' (n + m) cap' (xs ++ news) w' ∧
      (∀ k, 0 < cap' ∧ rowOwn a' k → (0 < cap ∧ rowOwn a k) ∨ w.heap.size ≤ k) ∧ (∀ k, ¬ (0 < cap ∧ rowOwn a k) → k < w.heap.size → w'.heap[k]? = w.heap[k]?) ∧ (a' = none ↔ a = none ∧ m = 0) ∧
      w'.os = w.os ∧ w'.tape = w.tape ∧ w'.output = w.output ∧ w.heap.size ≤ w'.heap.size ∧ (n + m ≤ cap → a' = a ∧ cap' = cap) := by
  unfold rowTy at ht
  split at ht
  case h_2 => cases ht
  case h_1 e' d hu hxu =>
    split at ht
    · cases ht
    · rename_i hd
      split at ht
      case h_2 => cases ht
      case h_1 i hi =>
        split at ht
        case h_2 => cases ht
        case h_1 z hz =>
          split at ht
          case h_2 => cases ht
          case h_1 hzs hsz =>
            simp only [Option.some.injEq, Prod.mk.injEq] at ht
            obtain ⟨rfl, rfl, rfl⟩ := ht
            have hd' : ∀ k, d ≠ .int k := fun k e => hd k e
            have hzs : z.cells.size = i.size := by simpa using hzs
            obtain ⟨h1, h2, h3, h4, h5⟩ := id hr
            have hnl := src_len hs
            have hlen : (xs ++ news).length = (n + m) * i.size := by rw [List.length_append, h1, hnl, Nat.add_mul]
            have hone : One (xs ++ news) := fun u hu => (List.mem_append.1 hu).elim (h4 u) (hs.1 u)
            have grown : cap < n + m → (∀ ad, a = some ad → cellsAt w ad xs) → (a = none → xs = []) → ∃ a' cap' w', (Builtin.append_ #[t, xt] ty #[.slice a n cap, x]).run P w = .ok (.slice a' (n + m) cap') w' ∧ rowH e' i.size a' (n + m) cap' (xs ++ news) w' ∧
                (∀ k, 0 < cap' ∧ rowOwn a' k → (0 < cap ∧ rowOwn a k) ∨ w.heap.size ≤ k) ∧ (∀ k, ¬ (0 < cap ∧ rowOwn a k) → k < w.heap.size → w'.heap[k]? = w.heap[k]?) ∧ (a' = none ↔ a = none ∧ m = 0) ∧
                w'.os = w.os ∧ w'.tape = w.tape ∧ w'.output = w.output ∧ w.heap.size ≤ w'.heap.size ∧ (n + m ≤ cap → a' = a ∧ cap' = cap) := by
              intro hg holds hnone
              have hrun := append_grows (P := P) (ty := ty) hu hxu hd' hi hz (a := a) (cap := cap) h1 holds hnone hs hg h63 hb
              have hge := grownCap_ge w (n + m) cap e'
              refine ⟨_, _, _, hrun, ⟨hlen, hge, grownCap_le_maxLen w (n + m) cap e' h63, hone, .inr ⟨w.heap.size, 0, _, (0, 0), rfl, Array.getElem?_push_size, ?_, ?_, fun o _ h => by simp at h⟩⟩, ?_, ?_, ?_, rfl, rfl, rfl, ?_⟩
              · simp only [Array.size_append, List.size_toArray, size_zeroCells, hzs, h1, hnl, Nat.zero_add]
                rw [← Nat.add_mul, ← Nat.add_mul]
                exact Nat.mul_le_mul_right _ (by omega)
              · simp only [Array.toList_append, List.append_assoc, List.drop_zero]
                rw [← List.append_assoc, ← hlen]
                exact List.take_left
              · rintro k ⟨_, ad, had, hk⟩; cases had; exact .inr (by rw [← hk]; exact Nat.le_refl _)
              · intro k _ hk; show (w.heap.push _)[k]? = _; rw [Array.getElem?_push, if_neg (by omega)]
              · constructor
                · intro h; cases h
                · rintro ⟨rfl, rfl⟩
                  omega
              · exact ⟨by show w.heap.size ≤ (w.heap.push _).size; simp, fun h => absurd h (by omega)⟩
            by_cases hc0 : cap = 0
            · have hsp : ∀ ad, a = some ad → ad.spot = none := by
                rcases h5 with h5 | ⟨g, off, cur, fz, rfl, _⟩
                · exact h5.2
                · intro ad had; cases had; rfl
              subst hc0
              have hn0 : n = 0 := by omega
              subst hn0
              have hx0 : xs = [] := List.eq_nil_of_length_eq_zero (by simpa using h1)
              subst hx0
              by_cases hm : m = 0
              · subst hm
                have hn' : news = [] := List.eq_nil_of_length_eq_zero (by simpa using hnl)
                subst hn'
                cases a with
                | none => exact ⟨none, 0, w, append_none (P := P) hu hxu hd' hi hs, by simpa using hr, fun k h => .inl h, fun _ _ _ => rfl, by simp, rfl, rfl, rfl, Nat.le_refl _, fun _ => ⟨rfl, rfl⟩⟩
                | some ad =>
                  obtain ⟨g, off, sp⟩ := ad
                  have hsp' := hsp _ rfl
                  simp only at hsp'
                  subst hsp'
                  exact ⟨some ⟨g, off, none⟩, 0, w, append_fits (P := P) hu hxu hd' hi (g := g) (off := off) hs (Nat.le_refl _) (fun j hj => absurd hj (by simp)) (fun j hj => absurd hj (by simp)), by simpa using hr, fun k h => .inl h, fun _ _ _ => rfl, by simp, rfl, rfl, rfl, Nat.le_refl _, fun _ => ⟨rfl, rfl⟩⟩
              · exact grown (by omega) (fun ad h j u hu => by simp at hu) (fun _ => rfl)
            rcases h5 with ⟨h, _⟩ | ⟨g, off, cur, fz, rfl, hg, hsz2, hx, hfz⟩
            · exact absurd h hc0
            · by_cases hroom : n + m ≤ cap
              · have hfit : off + n * i.size + news.length ≤ cur.size := by
                  have h6 : (n + m) * i.size ≤ cap * i.size := Nat.mul_le_mul_right _ hroom
                  rw [Nat.add_mul] at h6
                  rw [hnl]; omega
                have hrun := append_fits (P := P) (ty := ty) hu hxu hd' hi (g := g) (off := off) hs hroom
                  (fun j hj => by simp only [World.cell?, hg]; simp [show off + n * i.size + j < cur.size by omega])
                  (fun j hj => by
                    have h9 := hfz (off + n * i.size + j) (by omega)
                    simp only [World.frozen?, hg]
                    simp only [Bool.and_eq_false_iff, decide_eq_false_iff_not]
                    omega)
                have hset := setCells_heap (news := news) hg hfit
                have hs4 := setCells_size (g := g) (news := news) (k := off + n * i.size) (w := w)
                refine ⟨_, _, _, hrun, ⟨hlen, hroom, h3, hone, .inr ⟨g, off, _, fz, rfl, hset, ?_, ?_, ?_⟩⟩, fun k h => .inl h, ?_, by simp, hs4.2.1, hs4.2.2.1, hs4.2.2.2, by rw [hs4.1]; exact Nat.le_refl _, fun _ => ⟨rfl, rfl⟩⟩
                · simp only [List.size_toArray, List.length_append, List.length_take, List.length_drop, Array.length_toList]; omega
                · have e1 : (cur.toList.take (off + n * i.size)).drop off = xs := by rw [List.drop_take, Nat.add_sub_cancel_left]; exact hx
                  have e2 : (cur.toList.take (off + n * i.size) ++ news ++ cur.toList.drop (off + n * i.size + news.length)).drop off = xs ++ news ++ cur.toList.drop (off + n * i.size + news.length) := by
                    rw [List.append_assoc, List.drop_append_of_le_length (by simp; omega), e1, List.append_assoc]
                  simp only [e2]
                  rw [← hlen]
                  exact List.take_left
                · intro o ho
                  refine hfz o ?_
                  simp only [List.size_toArray, List.length_append, List.length_take, List.length_drop, Array.length_toList] at ho
                  omega
                · intro k hk _
                  exact setCells_other (fun e => hk ⟨by omega, _, rfl, e.symm⟩)
              · exact grown (by omega) (fun ad h => by cases h; exact row_cells hr) (fun h => by cases h)

theorem app_wpOp {ops : Array Oper} {i : Nat} {a : Option Addr} {n cap : Nat} {x : Value} {t xt : TypeId} {dst : Option Nat} (ho : appOf ops Γ.nt i s.fr = some (.slice a n cap, x, t, xt, dst))
    {e sz bytes : Nat} (ht : rowTy Γ.P t xt = some (e, sz, bytes)) (p : Nat) {xs : List Value} (hp : s.hp[p]? = some (row e sz a n cap xs)) {m : Nat} {news : List Value}
    (h63 : n + m ≤ maxLen) (hb : (n + m) * bytes ≤ 140737488355328) {b : Act} {w : World} (hS : Sat Γ s b w) (hsrc : srcOk w sz x m news) {K : Act → World → Prop}
    (hK : ∀ a' cap', (a' = none ↔ a = none ∧ m = 0) → (n + m ≤ cap → a' = a ∧ cap' = cap) → ∀ b' w', Sat Γ ⟨putFr s.fr dst (.slice a' (n + m) cap'), s.hp.set p (row e sz a' (n + m) cap' (xs ++ news))⟩ b' w' → K b' w') : wpOp Γ.P ops Q i K b w := by
  unfold appOf at ho
  unfold wpOp
  split at ho
  · cases ho
  · rename_i o hoi
    rw [hoi]
    simp only
    split at ho
    · rename_i c hd hw hk hop
      split at ho
      · rename_i s' x' t' xt' hcal hargs hts
        simp only [Option.some.injEq, Prod.mk.injEq] at ho
        obtain ⟨hes, hex, rfl, rfl, rfl⟩ := ho
        rw [wants_ok hS.fr hw]
        simp only [if_true]
        refine .inl ?_
        unfold Oper.wp
        rw [ev_eq hS.fr hk]
        have hrw := hS.hs.holds _ (List.mem_of_getElem? hp)
        obtain ⟨a', cap', w', hrun, h1, h2, h3, h4, h5, h6, h7, h8, h9⟩ := app_run (P := Γ.P) (ty := o.type) ht hrw hsrc h63 hb
        have e1 : c.args = #[s', x'] := by apply Array.ext'; simpa using hargs
        have e2 : c.argTypes = #[t', xt'] := by apply Array.ext'; simpa using hts
        have hx : (execOp (ev s.fr) o).run Γ.P w = .ok (.value (.slice a' (n + m) cap')) w' := by
          simp only [execOp, hop, resolve, hcal, e1, e2, invoke, builtin, Sem.run_bind, Sem.run_pure, Result.andThen_ok, List.map_toArray, List.map_cons, List.map_nil, hes, hex, hrun]
        rw [hx]
        have hext : Ext w w' (foot s.hp) := ⟨h5, h6, h7, h8, fun k hk hf => h3 k (fun ho => hf ⟨_, List.mem_of_getElem? hp, trivial, ho⟩) hk⟩
        exact hK a' cap' h4 h9 _ _ (hS.step hd (hS.hs.put (c' := row e sz a' (n + m) cap' (xs ++ news)) hp trivial h2 h1 h3) hext (Bd.put (c' := row e sz a' (n + m) cap' (xs ++ news)) hp trivial h2))
      · cases ho
    · cases ho

theorem wpr_app {ops : Array Oper} {i : Nat} {l₂ : List Nat} {a : Option Addr} {n cap : Nat} {x : Value} {t xt : TypeId} {dst : Option Nat} (ho : appOf ops Γ.nt i s.fr = some (.slice a n cap, x, t, xt, dst))
    {e sz bytes : Nat} (ht : rowTy Γ.P t xt = some (e, sz, bytes)) (p : Nat) {xs : List Value} (hp : s.hp[p]? = some (row e sz a n cap xs)) {m : Nat} {news : List Value} (hsrc : ∀ w, HS s.hp w → srcOk w sz x m news)
    (h63 : n + m ≤ maxLen) (hb : (n + m) * bytes ≤ 140737488355328)
    (h : ∀ a' cap', (a' = none ↔ a = none ∧ m = 0) → WpR Γ ops l₂ ⟨putFr s.fr dst (.slice a' (n + m) cap'), s.hp.set p (row e sz a' (n + m) cap' (xs ++ news))⟩ Q) : WpR Γ ops (i :: l₂) s Q := fun b w hS => by
  rw [wpOps_cons]
  exact app_wpOp ho ht p hp h63 hb hS (hsrc w hS.hs) fun a' cap' hn _ b' w' hS' => h a' cap' hn b' w' hS'
theorem wpa_app {ops : Array Oper} {hs : Hp} {li : Array Bool} {i : Nat} {nf : Nat} (hr : Region.ready .any ops li = [i]) {a : Option Addr} {n cap : Nat} {x : Value} {t xt : TypeId} {dst : Option Nat} (ho : appOf ops Γ.nt i s.fr = some (.slice a n cap, x, t, xt, dst))
    {e sz bytes : Nat} (ht : rowTy Γ.P t xt = some (e, sz, bytes)) (p : Nat) {xs : List Value} (hp : s.hp[p]? = some (row e sz a n cap xs)) {m : Nat} {news : List Value} (hsrc : ∀ w, HS s.hp w → srcOk w sz x m news)
    (h63 : n + m ≤ maxLen) (hb : (n + m) * bytes ≤ 140737488355328) (is : List Nat) (hsub : is.map (fun i => (s.hp.eraseIdx p)[i]?) = hs.map some)
    (h : ∀ a' cap', (a' = none ↔ a = none ∧ m = 0) → WpA Γ ops hs nf (li.setIfInBounds i true) ⟨putFr s.fr dst (.slice a' (n + m) cap'), s.hp.set p (row e sz a' (n + m) cap' (xs ++ news))⟩ Q) : WpA Γ ops hs (nf + 1) li s Q := fun b w hS hL => by
  refine wpAnyH_all hr (by simp) fun j hj => ?_
  rw [List.mem_singleton.1 hj]
  refine app_wpOp ho ht p hp h63 hb hS (hsrc w hS.hs) fun a' cap' hn _ b' w' hS' => ?_
  have hL' : HL hs w' := fun c hc => hS'.hs.holds c (by
    have h1 := sub_of is hsub c hc
    obtain ⟨k, hk⟩ := List.getElem?_of_mem h1
    rw [List.getElem?_eraseIdx] at hk
    split at hk
    · rename_i hlt
      refine List.mem_of_getElem? (i := k) ?_
      rw [List.getElem?_set, if_neg (by omega)]; exact hk
    · rename_i hlt
      refine List.mem_of_getElem? (i := k + 1) ?_
      rw [List.getElem?_set, if_neg (by omega)]; exact hk)
  exact ⟨hL', h a' cap' hn b' w' hS' hL'⟩

/-! ### where what is appended lies -/
theorem src_ro {hp : Hp} {w : World} (h : HS hp w) (i : Nat) {a : Option Addr} {xs : List Value} (hi : hp[i]? = some (ro a xs)) {sz m c : Nat} (hl : xs.length = m * sz) (hm : a = none → m = 0) : srcOk w sz (.slice a m c) m xs := by
  obtain ⟨h1, h2⟩ := h.holds _ (List.mem_of_getElem? hi)
  refine ⟨h1, ?_⟩
  cases a with
  | none => have := hm rfl; subst this; exact ⟨rfl, rfl, h2⟩
  | some ad => exact ⟨rfl, hl, h2⟩
theorem src_row {hp : Hp} {w : World} (h : HS hp w) (i : Nat) {T sz n cap c : Nat} {a : Option Addr} {xs : List Value} (hi : hp[i]? = some (row T sz a n cap xs)) : srcOk w sz (.slice a n c) n xs := by
  have hr := h.holds _ (List.mem_of_getElem? hi)
  obtain ⟨h1, h2, h3, h4, h5⟩ := id hr
  refine ⟨h4, ?_⟩
  cases a with
  | none =>
    rcases h5 with ⟨hc, _⟩ | ⟨g, off, cur, fz, ha, _⟩
    · have : n = 0 := by omega
      subst this
      exact ⟨rfl, rfl, List.eq_nil_of_length_eq_zero (by simpa using h1)⟩
    · cases ha
  | some ad =>
    rcases h5 with ⟨hc, _⟩ | ⟨g, off, cur, fz, ha, _⟩
    · have : n = 0 := by omega
      subst this
      have hx : xs = [] := List.eq_nil_of_length_eq_zero (by simpa using h1)
      subst hx
      exact ⟨rfl, h1, fun j u hu => by simp at hu⟩
    · cases ha; exact ⟨rfl, h1, row_cells hr⟩
theorem src_blk {hp : Hp} {w : World} (h : HS hp w) (i : Nat) {g T : Nat} {l : List Value} (hi : hp[i]? = some (.blk g T l)) {sz m c : Nat} (hl : l.length = m * sz) (h1 : One l) : srcOk w sz (.slice (some ⟨g, 0, none⟩) m c) m l :=
  ⟨h1, rfl, hl, fun j u hu => by rw [add_lit', Nat.zero_add, cell_blk (h.blk hi) _ rfl rfl]; exact hu⟩
theorem src_str {w : World} (s : ByteArray) : srcOk w 1 (.string s) s.size (Lib.strCells s) := ⟨Lib.strCells_oneCell s, rfl, rfl, rfl⟩
theorem src_nil {w : World} {sz c : Nat} : srcOk w sz (.slice none 0 c) 0 [] := ⟨(fun u hu => by cases hu), rfl, rfl, rfl⟩

/-! ### other words for a heap -/
/-- An empty row without room may be laid at any time. -/
theorem ent_nila {fr : Fr} {hp : Hp} (T sz : Nat) (ad : Option Addr) (had : ∀ x, ad = some x → x.spot = none) : Ent Γ ⟨fr, hp⟩ ⟨fr, row T sz ad 0 0 [] :: hp⟩ := fun a w h => by
  refine ⟨h.size, h.defers, h.fr, ⟨fun c hc => ?_, List.pairwise_cons.2 ⟨fun d hd => .inr fun k hk => ?_, h.hs.apart⟩⟩, h.ext, fun c hc hr k hk => ?_⟩
  · rcases List.mem_cons.1 hc with rfl | hc
    · exact ⟨by simp, Nat.le_refl _, Nat.zero_le _, fun u hu => (by cases hu), .inl ⟨rfl, had⟩⟩
    · exact h.hs.holds c hc
  · exact absurd hk.1 (by decide)
  · rcases List.mem_cons.1 hc with rfl | hc
    · exact absurd hk.1 (by decide)
    · exact h.bd c hc hr k hk
theorem ent_nil {fr : Fr} {hp : Hp} (T sz : Nat) : Ent Γ ⟨fr, hp⟩ ⟨fr, row T sz none 0 0 [] :: hp⟩ := ent_nila T sz none (fun x h => by cases h)

/-- One chunk said in other words: it owns no more, and says no more. -/
structure Turn (c c' : Ch) : Prop where
  holds : ∀ w, c.holds w → c'.holds w
  own : ∀ w, c.holds w → ∀ k, c'.own k → c.own k
  rw : c'.rw → c.rw
theorem HS.turn {hp : Hp} {w : World} (h : HS hp w) {i : Nat} {c c' : Ch} (hi : hp[i]? = some c) (t : Turn c c') : HS (hp.set i c') w := by
  obtain ⟨hi1, hi2⟩ := List.getElem?_eq_some_iff.1 hi
  have key : ∀ j d, j ≠ i → hp[j]? = some d → Apart c' d := fun j d hj hd => by
    rcases pairwise_get h.apart (Ne.symm hj) hi hd with ⟨h1, h2⟩ | h1
    · exact .inl ⟨fun r => h1 (t.rw r), h2⟩
    · exact .inr fun k hk => h1 k (t.own w (h.holds _ (List.mem_of_getElem? hi)) k hk)
  constructor
  · intro d hd
    rcases List.mem_or_eq_of_mem_set hd with hd | rfl
    · exact h.holds d hd
    · exact t.holds w (h.holds _ (List.mem_of_getElem? hi))
  · rw [List.pairwise_iff_getElem]
    intro x y hx hy hxy
    have hx' : x < hp.length := by simpa using hx
    have hy' : y < hp.length := by simpa using hy
    rw [List.getElem_set, List.getElem_set]
    by_cases hxi : i = x
    · subst hxi
      rw [if_pos rfl, if_neg (by omega)]
      exact key y _ (by omega) (List.getElem?_eq_getElem hy')
    · rw [if_neg hxi]
      by_cases hyi : i = y
      · subst hyi
        rw [if_pos rfl]
        exact (key x _ (by omega) (List.getElem?_eq_getElem hx')).symm
      · rw [if_neg hyi]; exact List.pairwise_iff_getElem.1 h.apart x y hx' hy' hxy
theorem ent_turn {fr : Fr} {hp hp' : Hp} (i : Nat) {c : Ch} (c' : Ch) (hi : hp[i]? = some c) (t : Turn c c') (he : hp.set i c' = hp') : Ent Γ ⟨fr, hp⟩ ⟨fr, hp'⟩ := fun a w h => by
  subst he
  refine ⟨h.size, h.defers, h.fr, h.hs.turn hi t, h.ext, fun d hd hr k hk => ?_⟩
  rcases List.mem_or_eq_of_mem_set hd with hd | rfl
  · exact h.bd d hd hr k hk
  · exact h.bd c (List.mem_of_getElem? hi) (t.rw hr) k (t.own w (h.hs.holds _ (List.mem_of_getElem? hi)) k hk)
/-- Fewer chunks, in another order. -/
theorem ent_hp {fr : Fr} {hp hp' rest : Hp} (is : List Nat) (h : picks is hp = some (hp', rest)) : Ent Γ ⟨fr, hp⟩ ⟨fr, hp'⟩ := fun a w hS =>
  ⟨hS.size, hS.defers, hS.fr, ((give is h).sat w hS.hs).1, hS.ext, fun c hc hr k hk => by
    obtain ⟨d, hd, hdr, hdk⟩ := (give is h).foot k ⟨c, hc, hr, hk⟩
    exact hS.bd d hd hdr k hdk⟩
/-- A row whose elements, or whose capacity, are called otherwise. -/
theorem turn_row {T sz n cap n' cap' : Nat} {a : Option Addr} {xs xs' : List Value} (hn : n' ≤ cap') (hc : cap' ≤ cap) (hx : ∀ w, rowH T sz a n cap xs w → xs'.length = n' * sz ∧ One xs' ∧ (∀ g off cur fz, a = some ⟨g, off, none⟩ → w.heap[g]? = some (.cells cur T fz) → off + cap * sz ≤ cur.size → (cur.toList.drop off).take (n * sz) = xs → (cur.toList.drop off).take (n' * sz) = xs')) : Turn (row T sz a n cap xs) (row T sz a n' cap' xs') where
  holds := fun w h => by
    obtain ⟨k1, k2, k3⟩ := hx w h
    obtain ⟨h1, h2, h3, h4, h5⟩ := h
    refine ⟨k1, hn, by omega, k2, ?_⟩
    rcases h5 with ⟨h5, h6⟩ | ⟨g, off, cur, fz, rfl, hg, hs, hx, hfz⟩
    · exact .inl ⟨by omega, h6⟩
    · refine .inr ⟨g, off, cur, fz, rfl, hg, ?_, k3 g off cur fz rfl hg hs hx, hfz⟩
      have : cap' * sz ≤ cap * sz := Nat.mul_le_mul_right _ hc
      omega
  own := fun _ _ k h => ⟨by have := h.1; omega, h.2⟩
  rw := fun h => h
/-- A row cut off behind its first elements. -/
theorem turn_cut {T sz n cap : Nat} {a : Option Addr} {xs : List Value} (n' cap' : Nat) (h1 : n' ≤ n) (h2 : n' ≤ cap') (h3 : cap' ≤ cap) : Turn (row T sz a n cap xs) (row T sz a n' cap' (xs.take (n' * sz))) :=
  turn_row h2 h3 fun w ⟨k1, k2, k3, k4, k5⟩ => ⟨by rw [List.length_take, k1]; exact Nat.min_eq_left (Nat.mul_le_mul_right _ h1), fun u hu => k4 u (List.mem_of_mem_take hu), fun g off cur fz ha hg hs hx => by
    rw [← hx, List.take_take]; congr 1; exact (Nat.min_eq_left (Nat.mul_le_mul_right _ h1)).symm⟩
/-- A whole block as a row. -/
theorem turn_blk {g T sz n : Nat} {l : List Value} (hl : l.length = n * sz) (h1 : One l) (hn : n ≤ maxLen) : Turn (.blk g T l) (row T sz (some ⟨g, 0, none⟩) n n l) where
  holds := fun w ⟨fz, h, hf⟩ => ⟨hl, Nat.le_refl _, hn, h1, .inr ⟨g, 0, l.toArray, fz, rfl, h, by simp [hl], by simp [← hl], fun o ho h => by unfold FzOk at hf; simp at ho; omega⟩⟩
  own := fun _ _ k ⟨_, ad, ha, hk⟩ => by cases ha; exact hk.symm
  rw := fun _ => trivial

end Go.Sx
