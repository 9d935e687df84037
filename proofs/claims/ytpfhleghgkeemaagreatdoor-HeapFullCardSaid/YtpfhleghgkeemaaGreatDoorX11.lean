import Derived.Test.YtpfhleghgkeemaaGreatDoorX10
import Derived.ChangeArms
import Derived.DataReads
import Derived.DataElems
/-! X11: rows that come in: a slice of elements of one length. -/
namespace Go.Sx
open Go

theorem list_of {α : Type} (p : Nat → α → Prop) : ∀ n, (∀ i, i < n → ∃ x, p i x) → ∃ l : List α, l.length = n ∧ ∀ (i : Nat) x, l[i]? = some x → p i x
  | 0, _ => ⟨[], rfl, fun i x h => by simp at h⟩
  | n + 1, h => by
    obtain ⟨l, hl, hp⟩ := list_of p n (fun i hi => h i (by omega))
    obtain ⟨x, hx⟩ := h n (by omega)
    refine ⟨l ++ [x], by simp [hl], fun i y hy => ?_⟩
    rw [List.getElem?_append] at hy
    split at hy
    · exact hp i y hy
    · rename_i hi
      have : i - l.length = 0 := by
        rcases Nat.eq_zero_or_pos (i - l.length) with h' | h'
        · exact h'
        · rw [List.getElem?_eq_none (by simp; omega)] at hy; cases hy
      rw [this] at hy
      simp at hy
      have e : i = n := by omega
      rw [e, ← hy]; exact hx

theorem slice_in {H : Type} {P : Program} {W : World} {base : Nat} {enc : TypeId × Value → H} {held : Bool} {t e : TypeId} {k : Nat} {α : Type} (C : α → List Value) (hC : ∀ x, (C x).length = k) (hC1 : ∀ x, One (C x))
    (ht : P.underlying t = some (.slice e)) (hk : P.cellsOf e = k) (R : α → DataW H → Prop)
    (hR : ∀ n cs y, DataW.trod enc P W base (fun _ => true) held n e cs = some y → ∃ x, cs = C x ∧ R x y.1)
    {a : Option Addr} {len cap : Nat} {d : DataW H} {p : List MemPlace} {fuel : Nat} (hf : DataW.trod enc P W base (fun _ => true) held fuel t (Value.cells (.slice a len cap)).toList = some (d, p)) :
    ∃ l : List α, len = l.length ∧ (a = none → l = []) ∧ roH a (l.flatMap C) W ∧ ∃ ds sp, ds.length = len ∧ (d = .slice ds sp ∨ (d = .nil ∧ ds = [])) ∧ ∀ (i : Nat) x, l[i]? = some x → ∃ y, ds[i]? = some y ∧ R x y := by
  have hone : ∀ l : List α, One (l.flatMap C) := fun l u hu => by
    obtain ⟨x, _, hx⟩ := List.mem_flatMap.1 hu
    exact hC1 x u hx
  rcases DataW.trod_slice ht hf with ⟨hcs, hx⟩ | ⟨ad, l, c, elems, rest, n, _, hcs, hx, hb, hl, hm, hlen, hel, hsp, hns⟩
  · simp [Value.cells] at hcs
    obtain ⟨rfl, rfl, rfl⟩ := hcs
    cases hx
    exact ⟨[], rfl, fun _ => rfl, ⟨hone [], rfl⟩, [], [], rfl, .inr ⟨rfl, rfl⟩, fun i x h => by simp at h⟩
  · simp [Value.cells] at hcs
    obtain ⟨rfl, rfl, rfl⟩ := hcs
    simp only [Prod.mk.injEq] at hx
    obtain ⟨rfl, _⟩ := hx
    obtain ⟨xs, hxl, hxs⟩ := list_of (fun i x => W.cells? base (ad.add (i * k)) k = some (C x) ∧ ∃ y, (elems.map (·.1))[i]? = some y ∧ R x y) len (fun i hi => by
      have h1 := hel i hi
      obtain ⟨y, hy⟩ : ∃ y, elems[i]? = some y := ⟨elems[i]'(by omega), List.getElem?_eq_getElem _⟩
      rw [hy, Option.bind_eq_some_iff] at h1
      obtain ⟨cs, hcs, hyt⟩ := h1
      obtain ⟨x, rfl, hr⟩ := hR n cs y hyt
      rw [hk] at hcs
      exact ⟨x, hcs, y.1, by rw [List.getElem?_map, hy]; rfl, hr⟩)
    refine ⟨xs, hxl.symm, (fun h => by cases h), ⟨hone xs, ?_⟩, elems.map (·.1), rest.map (·.1), by simp [hlen], .inl rfl, fun i x h => (hxs i x h).2⟩
    intro j u hj
    have hjl : j < (xs.flatMap C).length := (List.getElem?_eq_some_iff.1 hj).1
    rw [fm_len hC] at hjl
    have hk0 : 0 < k := by
      rcases Nat.eq_zero_or_pos k with h | h
      · subst h; simp at hjl
      · exact h
    have hq : j / k < xs.length := Nat.div_lt_of_lt_mul (by rw [Nat.mul_comm]; exact hjl)
    have hr : j % k < k := Nat.mod_lt _ hk0
    have hjk : j = j / k * k + j % k := by rw [Nat.mul_comm]; exact (Nat.div_add_mod j k).symm
    have h1 := (hxs (j / k) xs[j / k] (List.getElem?_eq_getElem hq)).1
    have h2 := (World.cells?_some h1).2.2 (j % k) hr
    have h3 := fm_at hC hq
    rw [Addr.add_add, ← hjk] at h2
    rw [h2, ← h3, List.getElem?_take, if_pos hr, List.getElem?_drop, ← hjk]
    exact hj

/-- What a sum of bulks is at least. -/
theorem one_int (k : IntKind) (n : Int) : One [Value.int k n] := by simp [One, Value.oneCell']
end Go.Sx
