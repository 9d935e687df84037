import Derived.Calls
import Derived.Orders
import Derived.OrdersHeld
import Derived.Below
import Derived.Laws.World
import Derived.Laws.Sem
import Derived.Deep.LoopGhost
import Derived.KernelRfl
import Derived.Laws.AppendOwn
import Derived.Laws.Entries
import Derived.Laws.Strings
import Derived.Tactics
import Derived.Lib.AppendStr
import Derived.Laws.IdiomCopy
import Derived.ArgAppend
import Derived.Laws.Cells
import Derived.Laws.BytesString
import Derived.Lib.ConvBytes
import Derived.ChangeArms
import Derived.DataReads
import Derived.DataElems
import Derived.Test.YtgcfomhlgipllaaGreatDoorRows
import Derived.WideShapes
import Derived.ChangeKeysEq
import Derived.Test.YtgcfomhlgipllaaGreatDoorProg
import Derived.Lib.Strings
import Derived.Lib.Walk
import Derived.Lib.BufferWrite
import Derived.Lib.UnsafeStr
import Derived.Lib.Hide
import Derived.Laws.MakeOwn
import Derived.WalkKit
set_option linter.unusedVariables false
set_option linter.unusedSimpArgs false
namespace Go.Sx
open Go
structure Oq where
  own : Nat → Prop
  rw : Prop
  holds : World → Prop
  loc : ∀ w w' : World, (∀ k, own k → w'.heap[k]? = w.heap[k]?) → holds w → holds w'
  lt : ∀ (w : World) k, holds w → own k → k < w.heap.size
inductive Ch where
  | blk (g : Nat) (T : TypeId) (l : List Value)
  | op (c : Oq)
def Ch.own : Ch → Nat → Prop
  | .blk g _ _ => fun k => k = g
  | .op c => c.own
def Ch.rw : Ch → Prop
  | .blk _ _ _ => True
  | .op c => c.rw
def FzOk (n : Nat) (fz : Nat × Nat) : Prop := fz.1 = fz.2 ∨ n ≤ fz.1
def blkH (w : World) (g T : Nat) (l : List Value) : Prop := ∃ fz, w.heap[g]? = some (.cells l.toArray T fz) ∧ FzOk l.length fz
def Ch.holds : Ch → World → Prop
  | .blk g T l => fun w => blkH w g T l
  | .op c => c.holds
theorem lt_of_get {w : World} {g : Nat} {o : Obj} (h : w.heap[g]? = some o) : g < w.heap.size := by
  rcases Nat.lt_or_ge g w.heap.size with h' | h'
  · exact h'
  · rw [Array.getElem?_eq_none h'] at h; cases h
theorem Ch.lt {c : Ch} {w : World} {k : Nat} (h : c.holds w) (ho : c.own k) : k < w.heap.size := by
  cases c with
  | blk g T l => cases ho; obtain ⟨fz, h, _⟩ := h; exact lt_of_get h
  | op c => exact c.lt w k h ho
theorem Ch.loc {c : Ch} {w w' : World} (hk : ∀ k, c.own k → w'.heap[k]? = w.heap[k]?) (h : c.holds w) : c.holds w' := by
  cases c with
  | blk g T l => obtain ⟨fz, h, hf⟩ := h; exact ⟨fz, (hk g rfl).trans h, hf⟩
  | op c => exact c.loc w w' hk h
def Apart (c d : Ch) : Prop := (¬ c.rw ∧ ¬ d.rw) ∨ ∀ k, c.own k → ¬ d.own k
theorem Apart.symm {c d : Ch} (h : Apart c d) : Apart d c := h.imp (fun ⟨a, b⟩ => ⟨b, a⟩) fun h k hd hc => h k hc hd
abbrev Hp := List Ch
structure HS (hp : Hp) (w : World) : Prop where
  holds : ∀ c ∈ hp, c.holds w
  apart : hp.Pairwise Apart
def foot (hp : Hp) (k : Nat) : Prop := ∃ c ∈ hp, c.rw ∧ c.own k
structure Ext (w w' : World) (F : Nat → Prop) : Prop where
  os : w'.os = w.os
  tape : w'.tape = w.tape
  output : w'.output = w.output
  size : w.heap.size ≤ w'.heap.size
  block : ∀ k, k < w.heap.size → ¬ F k → w'.heap[k]? = w.heap[k]?
theorem Ext.refl (w : World) (F : Nat → Prop) : Ext w w F := ⟨rfl, rfl, rfl, Nat.le_refl _, fun _ _ _ => rfl⟩
def Bd (hp : Hp) (F : Nat → Prop) (n : Nat) : Prop := ∀ c ∈ hp, c.rw → ∀ k, c.own k → F k ∨ n ≤ k
theorem Ext.trans {a b c : World} {F G : Nat → Prop} (h : Ext a b F) (k : Ext b c G) (hG : ∀ x, G x → F x ∨ a.heap.size ≤ x) : Ext a c F :=
  ⟨k.os.trans h.os, k.tape.trans h.tape, k.output.trans h.output, Nat.le_trans h.size k.size, fun x hx hF =>
    (k.block x (Nat.lt_of_lt_of_le hx h.size) (fun g => (hG x g).elim hF (by omega))).trans (h.block x hx hF)⟩
structure Cx where
  P : Program
  w0 : World
  F : Nat → Prop
  nt : Nat
  ds : List Deferred
abbrev Fr := List (Nat × Value)
def look : Fr → Nat → Option Value
  | [], _ => none
  | (i, v) :: r, j => if i = j then some v else look r j
structure St where
  fr : Fr
  hp : Hp
structure Sat (Γ : Cx) (s : St) (a : Act) (w : World) : Prop where
  size : a.tmps.size = Γ.nt
  defers : a.defers = Γ.ds
  fr : ∀ i v, look s.fr i = some v → a.tmps.getD i undef = v
  hs : HS s.hp w
  ext : Ext Γ.w0 w Γ.F
  bd : Bd s.hp Γ.F Γ.w0.heap.size
/-! ### Running one operation -/
def srun {α : Type} (P : Program) : Sem α → List Nat → Option Nat → Hp → Option (α × Hp × List Nat × List Nat × Option Nat × List Nat)
  | .pure a, sc, n, hp => some (a, hp, [], [], n, sc)
  | .load _ a k, i :: sc, n, hp =>
    match hp[i]?, a.spot with
    | some (.blk b _ l), none =>
      match l[a.off]? with
      | some v => match srun P (k v) sc n hp with
        | some (x, hp', gs, ws, n') => some (x, hp', a.block :: gs, b :: ws, n')
        | none => none
      | none => none
    | _, _ => none
  | .store _ a v k, i :: sc, n, hp =>
    match hp[i]?, a.spot with
    | some (.blk b T l), none =>
      match v with
      | .agg _ | .tuple _ => none
      | v => match l[a.off]? with
        | some _ => match srun P k sc n (hp.set i (.blk b T (l.set a.off v))) with
          | some (x, hp', gs, ws, n') => some (x, hp', a.block :: gs, b :: ws, n')
          | none => none
        | none => none
    | _, _ => none
  | .new o k, sc, some m, hp =>
    match o with
    | .cells c T (0, 0) => srun P (k m) sc none (hp ++ [.blk m T c.toList])
    | _ => none
  | .shape r k, i :: sc, n, hp =>
    match hp[i]? with
    | some (.blk b T l) => match srun P (k (some (T, l.length))) sc n hp with
      | some (x, hp', gs, ws, n') => some (x, hp', r :: gs, b :: ws, n')
      | none => none
    | _ => none
  | .frozen a k, i :: sc, n, hp =>
    match hp[i]? with
    | some (.blk b _ l) => match l[a.off]? with
      | some _ => match srun P (k false) sc n hp with
        | some (x, hp', gs, ws, n') => some (x, hp', a.block :: gs, b :: ws, n')
        | none => none
      | none => none
    | _ => none
  | .freeze a z k, i :: sc, n, hp =>
    match hp[i]? with
    | some (.blk b _ l) => match l.length.ble a.off with
      | true => match srun P k sc n hp with
        | some (x, hp', gs, ws, n') => some (x, hp', a.block :: gs, b :: ws, n')
        | none => none
      | false => none
    | _ => none
  | .program k, sc, n, hp => srun P (k P) sc n hp
  | .mark _ k, sc, n, hp => srun P k sc n hp
  | _, _, _, _ => none
theorem HS.blk {hp : Hp} {w : World} (h : HS hp w) {i b : Nat} {T : TypeId} {l : List Value} (hi : hp[i]? = some (.blk b T l)) : blkH w b T l :=
  h.holds _ (List.mem_of_getElem? hi)
theorem cell_blk {w : World} {b T : Nat} {l : List Value} (h : blkH w b T l) (a : Addr) (ha : a.block = b) (hs : a.spot = none) : w.cell? a = l[a.off]? := by
  obtain ⟨fz, h, _⟩ := h
  unfold World.cell?
  rw [ha, h]
  simp [hs]
theorem frozen_blk {w : World} {b T : Nat} {l : List Value} (h : blkH w b T l) (a : Addr) (ha : a.block = b) (hl : a.off < l.length) : w.frozen? a = false := by
  obtain ⟨fz, h, hf⟩ := h
  unfold World.frozen?
  rw [ha, h]
  simp only [Bool.and_eq_false_iff, decide_eq_false_iff_not]
  unfold FzOk at hf
  omega
theorem shape_blk {w : World} {b T : Nat} {l : List Value} (h : blkH w b T l) : w.shape? b = some (T, l.length) := by
  obtain ⟨fz, h, _⟩ := h
  unfold World.shape?
  rw [h]
  simp
theorem heap_set {w : World} {b T : Nat} {l : List Value} (h : blkH w b T l) (a : Addr) (v : Value) (ha : a.block = b) (hs : a.spot = none) :
    blkH (w.setCell a v) b T (l.set a.off v) := by
  obtain ⟨fz, h, hf⟩ := h
  refine ⟨fz, ?_, by rwa [List.length_set]⟩
  simp only [World.setCell, Array.getElem?_modify, ha, h]
  simp [hs]
theorem heap_freeze {w : World} {b T : Nat} {l : List Value} (h : blkH w b T l) (a : Addr) (n : Nat) (ha : a.block = b) (hl : l.length ≤ a.off) : blkH (w.freeze a n) b T l := by
  obtain ⟨fz, h, hf⟩ := h
  unfold World.freeze
  split
  · exact ⟨fz, h, hf⟩
  · refine ⟨if fz.1 == fz.2 then (a.off, a.off + n) else (min fz.1 a.off, max fz.2 (a.off + n)), ?_, ?_⟩
    · simp only [Array.getElem?_modify, ha, h]
      simp
    · unfold FzOk at *
      split
      · exact .inr hl
      · rename_i hne
        have : fz.1 ≠ fz.2 := by simpa using hne
        right
        simp only
        omega
theorem heap_freeze_ne {w : World} (a : Addr) (n : Nat) {k : Nat} (hk : k ≠ a.block) : (w.freeze a n).heap[k]? = w.heap[k]? := by
  unfold World.freeze
  split
  · rfl
  · simp only [Array.getElem?_modify]
    rw [if_neg (fun e => hk e.symm)]
theorem heap_set_ne {w : World} (a : Addr) (v : Value) {k : Nat} (hk : k ≠ a.block) : (w.setCell a v).heap[k]? = w.heap[k]? := by
  simp only [World.setCell, Array.getElem?_modify]
  rw [if_neg (fun e => hk e.symm)]
theorem pairwise_get {hp : Hp} (h : hp.Pairwise Apart) {i j : Nat} (hij : i ≠ j) {c d : Ch} (hi : hp[i]? = some c) (hj : hp[j]? = some d) : Apart c d := by
  rw [List.pairwise_iff_getElem] at h
  obtain ⟨hi1, rfl⟩ := List.getElem?_eq_some_iff.1 hi
  obtain ⟨hj1, rfl⟩ := List.getElem?_eq_some_iff.1 hj
  rcases Nat.lt_or_gt_of_ne hij with hlt | hlt
  · exact h i j hi1 hj1 hlt
  · exact (h j i hj1 hi1 hlt).symm
theorem HS.set {hp : Hp} {w w' : World} (h : HS hp w) {i : Nat} {c c' : Ch} (hi : hp[i]? = some c) (hc : c.rw) (hown : ∀ k, c'.own k → c.own k) (hholds : c'.holds w')
    (hrest : ∀ k, ¬ c.own k → k < w.heap.size → w'.heap[k]? = w.heap[k]?) : HS (hp.set i c') w' := by
  obtain ⟨hi1, hi2⟩ := List.getElem?_eq_some_iff.1 hi
  have hap : ∀ j, j ≠ i → ∀ d, hp[j]? = some d → ∀ k, c.own k → ¬ d.own k := fun j hj d hd => by
    rcases pairwise_get h.apart (Ne.symm hj) hi hd with ⟨h1, _⟩ | h1
    · exact absurd hc h1
    · exact h1
  constructor
  · intro d hd
    obtain ⟨j, hj1, hj⟩ := List.getElem_of_mem hd
    rw [List.getElem_set] at hj
    split at hj
    · subst hj; exact hholds
    · rename_i hne
      have hjl : j < hp.length := by simpa using hj1
      have hd' : hp[j]? = some d := by rw [List.getElem?_eq_getElem hjl, hj]
      have hdw := h.holds d (List.mem_of_getElem? hd')
      exact d.loc (fun k hk => hrest k (fun hck => hap j (fun e => hne e.symm) d hd' k hck hk) (d.lt hdw hk)) hdw
  · rw [List.pairwise_iff_getElem]
    intro x y hx hy hxy
    have hx' : x < hp.length := by simpa using hx
    have hy' : y < hp.length := by simpa using hy
    have hp' := List.pairwise_iff_getElem.1 h.apart x y hx' hy' hxy
    rw [List.getElem_set, List.getElem_set]
    by_cases hxi : i = x
    · subst hxi
      rw [if_pos rfl, if_neg (by omega)]
      exact .inr fun k hk => hap y (by omega) _ (List.getElem?_eq_getElem hy') k (hown k hk)
    · rw [if_neg hxi]
      by_cases hyi : i = y
      · subst hyi
        rw [if_pos rfl]
        exact .inr fun k hk hk' => hap x (by omega) _ (List.getElem?_eq_getElem hx') k (hown k hk') hk
      · rw [if_neg hyi]; exact hp'
theorem HS.append {hp : Hp} {w w' : World} (h : HS hp w) (hsame : ∀ k, k < w.heap.size → w'.heap[k]? = w.heap[k]?) {c : Ch} (hc : c.holds w') (hnew : ∀ k, c.own k → w.heap.size ≤ k) : HS (hp ++ [c]) w' := by
  constructor
  · intro d hd
    rcases List.mem_append.1 hd with hd | hd
    · exact d.loc (fun k hk => hsame k (d.lt (h.holds d hd) hk)) (h.holds d hd)
    · rw [List.mem_singleton.1 hd]; exact hc
  · rw [List.pairwise_append]
    refine ⟨h.apart, List.pairwise_singleton _ _, fun d hd e he => ?_⟩
    rw [List.mem_singleton.1 he]
    exact .inr fun k hk hk' => absurd (d.lt (h.holds d hd) hk) (by have := hnew k hk'; omega)
theorem Bd.self (hp : Hp) (n : Nat) : Bd hp (foot hp) n := fun c hc hr k hk => .inl ⟨c, hc, hr, hk⟩
theorem foot_set {hp : Hp} {i : Nat} {c c' : Ch} (hi : hp[i]? = some c) (hc : c.rw) (hown : ∀ k, c'.own k → c.own k) (k : Nat) (h : foot (hp.set i c') k) : foot hp k := by
  obtain ⟨d, hd, hr, hk⟩ := h
  rcases List.mem_or_eq_of_mem_set hd with hd | hd
  · exact ⟨d, hd, hr, hk⟩
  · subst hd; exact ⟨c, List.mem_of_getElem? hi, hc, hown k hk⟩
theorem run_load_some {α : Type} {P : Program} {m : Mode} {a : Addr} {k : Value → Sem α} {w : World} {v : Value} (h : w.cell? a = some v) : (Sem.load m a k).run P w = (k v).run P w := by
  simp only [Sem.run, h]
theorem run_store_some {α : Type} {P : Program} {m : Mode} {a : Addr} {v : Value} {k : Sem α} {w : World} {u : Value} (h : w.cell? a = some u) (hf : w.frozen? a = false)
    (h1 : ∀ c, v ≠ .agg c) (h2 : ∀ c, v ≠ .tuple c) : (Sem.store m a v k).run P w = k.run P (w.setCell a v) := by
  cases v <;> first | exact absurd rfl (h1 _) | exact absurd rfl (h2 _) | (simp only [Sem.run, h, hf]; rfl)
def sread {α : Type} (P : Program) : Sem α → List Nat → Hp → Option (α × List Nat × List Nat × List Nat)
  | .pure a, sc, hp => some (a, [], [], sc)
  | .load _ a k, i :: sc, hp =>
    match hp[i]?, a.spot with
    | some (.blk b _ l), none =>
      match l[a.off]? with
      | some v => match sread P (k v) sc hp with
        | some (x, gs, ws, sc') => some (x, a.block :: gs, b :: ws, sc')
        | none => none
      | none => none
    | _, _ => none
  | .shape r k, i :: sc, hp =>
    match hp[i]? with
    | some (.blk b T l) => match sread P (k (some (T, l.length))) sc hp with
      | some (x, gs, ws, sc') => some (x, r :: gs, b :: ws, sc')
      | none => none
    | _ => none
  | .frozen a k, i :: sc, hp =>
    match hp[i]? with
    | some (.blk b _ l) => match l[a.off]? with
      | some _ => match sread P (k false) sc hp with
        | some (x, gs, ws, sc') => some (x, a.block :: gs, b :: ws, sc')
        | none => none
      | none => none
    | _ => none
  | .program k, sc, hp => sread P (k P) sc hp
  | .mark _ k, sc, hp => sread P k sc hp
  | _, _, _ => none
def HL (hp : Hp) (w : World) : Prop := ∀ c ∈ hp, c.holds w
theorem sread_sound {α : Type} {P : Program} (s : Sem α) : ∀ (sc : List Nat) (hp : Hp) (x : α) (gs ws sc' : List Nat),
    sread P s sc hp = some (x, gs, ws, sc') → gs = ws → ∀ w, HL hp w → s.run P w = .ok x w := by
  induction s with
  | pure a =>
    intro sc hp x gs ws sc' h _ w hw
    simp only [sread, Option.some.injEq, Prod.mk.injEq] at h
    obtain ⟨rfl, rfl, rfl, rfl⟩ := h
    rfl
  | load m a k ih =>
    intro sc hp x gs ws sc' h he w hw
    cases sc with
    | nil => simp [sread] at h
    | cons i sc =>
      simp only [sread] at h
      split at h
      case h_2 => cases h
      case h_1 b T l hi hs =>
        split at h
        case h_2 => cases h
        case h_1 v hv =>
          split at h
          case h_2 => cases h
          case h_1 x1 gs1 ws1 sc1 hr =>
            simp only [Option.some.injEq, Prod.mk.injEq] at h
            obtain ⟨rfl, rfl, rfl, rfl⟩ := h
            injection he with he1 he2
            exact (run_load_some ((cell_blk (hw _ (List.mem_of_getElem? hi)) a he1 hs).trans hv)).trans (ih v sc hp _ _ _ _ hr he2 w hw)
  | shape r k ih =>
    intro sc hp x gs ws sc' h he w hw
    cases sc with
    | nil => simp [sread] at h
    | cons i sc =>
      simp only [sread] at h
      split at h
      case h_2 => cases h
      case h_1 b T l hi =>
        split at h
        case h_2 => cases h
        case h_1 x1 gs1 ws1 sc1 hr =>
          simp only [Option.some.injEq, Prod.mk.injEq] at h
          obtain ⟨rfl, rfl, rfl, rfl⟩ := h
          injection he with he1 he2
          show (k (w.shape? r)).run P w = _
          rw [he1, shape_blk (hw _ (List.mem_of_getElem? hi))]
          exact ih _ sc hp _ _ _ _ hr he2 w hw
  | frozen a k ih =>
    intro sc hp x gs ws sc' h he w hw
    cases sc with
    | nil => simp [sread] at h
    | cons i sc =>
      simp only [sread] at h
      split at h
      case h_2 => cases h
      case h_1 b T l hi =>
        split at h
        case h_2 => cases h
        case h_1 u hu =>
          split at h
          case h_2 => cases h
          case h_1 x1 gs1 ws1 sc1 hr =>
            simp only [Option.some.injEq, Prod.mk.injEq] at h
            obtain ⟨rfl, rfl, rfl, rfl⟩ := h
            injection he with he1 he2
            show (k (w.frozen? a)).run P w = _
            rw [frozen_blk (hw _ (List.mem_of_getElem? hi)) a he1 (List.getElem?_eq_some_iff.1 hu).1]
            exact ih _ sc hp _ _ _ _ hr he2 w hw
  | program k ih =>
    intro sc hp x gs ws sc' h he w hw
    have h' : sread P (k P) sc hp = some (x, gs, ws, sc') := by cases sc <;> exact h
    exact ih P sc hp _ _ _ _ h' he w hw
  | mark m k ih =>
    intro sc hp x gs ws sc' h he w hw
    have h' : sread P k sc hp = some (x, gs, ws, sc') := by cases sc <;> exact h
    exact ih sc hp _ _ _ _ h' he w hw
  | store m a v k ih => intro sc hp x gs ws sc' h; cases sc <;> simp [sread] at h
  | new o k ih => intro sc hp x gs ws sc' h; cases sc <;> simp [sread] at h
  | freeze a n k ih => intro sc hp x gs ws sc' h; cases sc <;> simp [sread] at h
  | getObj r k ih => intro sc hp x gs ws sc' h; cases sc <;> simp [sread] at h
  | setObj r o k ih => intro sc hp x gs ws sc' h; cases sc <;> simp [sread] at h
  | choose q k ih => intro sc hp x gs ws sc' h; cases sc <;> simp [sread] at h
  | sys c k ih => intro sc hp x gs ws sc' h; cases sc <;> simp [sread] at h
  | halt h => intro sc hp x gs ws sc' h; cases sc <;> simp [sread] at h
theorem srun_sound {α : Type} {P : Program} (s : Sem α) : ∀ (sc : List Nat) (n : Option Nat) (hp : Hp) (x : α) (hp' : Hp) (gs ws : List Nat) (n' : Option Nat) (sc' : List Nat),
    srun P s sc n hp = some (x, hp', gs, ws, n', sc') → gs = ws → ∀ w, HS hp w → (∀ m, n = some m → m = w.heap.size) →
    ∃ w', s.run P w = .ok x w' ∧ HS hp' w' ∧ Ext w w' (foot hp) ∧ Bd hp' (foot hp) w.heap.size ∧ (∀ m, n' = some m → m = w'.heap.size) := by
  induction s with
  | pure a =>
    intro sc n hp x hp' gs ws n' sc' h _ w hw hn
    simp only [srun, Option.some.injEq, Prod.mk.injEq] at h
    obtain ⟨rfl, rfl, rfl, rfl, rfl, rfl⟩ := h
    exact ⟨w, rfl, hw, Ext.refl _ _, Bd.self _ _, hn⟩
  | load m a k ih =>
    intro sc n hp x hp' gs ws n' sc' h he w hw hn
    cases sc with
    | nil => simp [srun] at h
    | cons i sc =>
      simp only [srun] at h
      split at h
      case h_2 => cases h
      case h_1 b T l hi hs =>
        split at h
        case h_2 => cases h
        case h_1 v hv =>
          split at h
          case h_2 => cases h
          case h_1 x1 hp1 gs1 ws1 n1 hr =>
            simp only [Option.some.injEq, Prod.mk.injEq] at h
            obtain ⟨rfl, rfl, rfl, rfl, rfl⟩ := h
            injection he with he1 he2
            obtain ⟨w', h1, h2⟩ := ih v sc n hp _ _ _ _ _ _ hr he2 w hw hn
            exact ⟨w', (run_load_some ((cell_blk (hw.blk hi) a he1 hs).trans hv)).trans h1, h2⟩
  | store m a v k ih =>
    intro sc n hp x hp' gs ws n' sc' h he w hw hn
    cases sc with
    | nil => simp [srun] at h
    | cons i sc =>
      simp only [srun] at h
      split at h
      case h_2 => cases h
      case h_1 b T l hi hs =>
        split at h
        case h_1 => cases h
        case h_2 => cases h
        case h_3 hna hnt =>
          split at h
          case h_2 => cases h
          case h_1 u hu =>
            split at h
            case h_2 => cases h
            case h_1 x1 hp1 gs1 ws1 n1 hr =>
              simp only [Option.some.injEq, Prod.mk.injEq] at h
              obtain ⟨rfl, rfl, rfl, rfl, rfl⟩ := h
              injection he with he1 he2
              have hb := hw.blk hi
              have hset := heap_set hb a v he1 hs
              have hrest : ∀ k, k ≠ b → k < w.heap.size → (w.setCell a v).heap[k]? = w.heap[k]? := fun k hk _ => heap_set_ne a v (by rw [he1]; exact hk)
              have hsz : (w.setCell a v).heap.size = w.heap.size := by simp [World.setCell]
              obtain ⟨w', h1, h2, h3, h4, h5⟩ := ih sc n _ _ _ _ _ _ _ hr he2 (w.setCell a v) (hw.set hi trivial (fun _ h => h) hset hrest) (fun m hm => by rw [hsz]; exact hn m hm)
              have hfoot := fun k h => foot_set (c' := .blk b T (l.set a.off v)) hi trivial (fun _ h => h) k h
              refine ⟨w', (run_store_some ((cell_blk hb a he1 hs).trans hu) (frozen_blk hb a he1 (List.getElem?_eq_some_iff.1 hu).1) (fun c e => hna c e) (fun c e => hnt c e)).trans h1, h2, ?_, ?_, h5⟩
              · refine Ext.trans (b := w.setCell a v) ⟨rfl, rfl, rfl, by omega, fun k hk hF => hrest k (fun e => hF ⟨_, List.mem_of_getElem? hi, trivial, e⟩) hk⟩ h3 (fun k hk => .inl (hfoot k hk))
              · intro c hc hr k hk
                rcases h4 c hc hr k hk with h | h
                · exact .inl (hfoot k h)
                · exact .inr (by omega)
  | new o k ih =>
    intro sc n hp x hp' gs ws n' sc' h he w hw hn
    cases n with
    | none => simp [srun] at h
    | some m =>
      simp only [srun] at h
      split at h
      case h_2 => cases h
      case h_1 c T =>
        have hm := hn m rfl
        subst hm
        obtain ⟨w', h1, h2, h3, h4, h5⟩ := ih _ sc none _ _ _ _ _ _ _ h he { w with heap := w.heap.push (.cells c T (0, 0)) }
          (hw.append (fun k hk => by show (w.heap.push _)[k]? = _; rw [Array.getElem?_push, if_neg (by omega)]) ⟨(0, 0), (by show (w.heap.push _)[_]? = _; simp), .inl rfl⟩ (fun k hk => by cases hk; exact Nat.le_refl _)) (fun m hm => by cases hm)
        refine ⟨w', h1, h2, ?_, ?_, h5⟩
        · refine Ext.trans (b := { w with heap := w.heap.push (.cells c T (0, 0)) }) ⟨rfl, rfl, rfl, by simp, fun k hk hF => by show (w.heap.push _)[k]? = _; rw [Array.getElem?_push, if_neg (by omega)]⟩ h3 ?_
          rintro x ⟨d, hd, hr, hx⟩
          rcases List.mem_append.1 hd with hd | hd
          · exact .inl ⟨d, hd, hr, hx⟩
          · rw [List.mem_singleton.1 hd] at hx; cases hx; exact .inr (Nat.le_refl _)
        · intro d hd hr k hk
          rcases h4 d hd hr k hk with ⟨e, he, her, hek⟩ | h
          · rcases List.mem_append.1 he with he | he
            · exact .inl ⟨e, he, her, hek⟩
            · rw [List.mem_singleton.1 he] at hek; cases hek; exact .inr (Nat.le_refl _)
          · exact .inr (by simp at h; omega)
  | shape r k ih =>
    intro sc n hp x hp' gs ws n' sc' h he w hw hn
    cases sc with
    | nil => simp [srun] at h
    | cons i sc =>
      simp only [srun] at h
      split at h
      case h_2 => cases h
      case h_1 b T l hi =>
        split at h
        case h_2 => cases h
        case h_1 x1 hp1 gs1 ws1 n1 hr =>
          simp only [Option.some.injEq, Prod.mk.injEq] at h
          obtain ⟨rfl, rfl, rfl, rfl, rfl⟩ := h
          injection he with he1 he2
          obtain ⟨w', h1, h2⟩ := ih _ sc n hp _ _ _ _ _ _ hr he2 w hw hn
          refine ⟨w', ?_, h2⟩
          show (k (w.shape? r)).run P w = _
          rw [he1, shape_blk (hw.blk hi)]; exact h1
  | frozen a k ih =>
    intro sc n hp x hp' gs ws n' sc' h he w hw hn
    cases sc with
    | nil => simp [srun] at h
    | cons i sc =>
      simp only [srun] at h
      split at h
      case h_2 => cases h
      case h_1 b T l hi =>
        split at h
        case h_2 => cases h
        case h_1 u hu =>
          split at h
          case h_2 => cases h
          case h_1 x1 hp1 gs1 ws1 n1 hr =>
            simp only [Option.some.injEq, Prod.mk.injEq] at h
            obtain ⟨rfl, rfl, rfl, rfl, rfl⟩ := h
            injection he with he1 he2
            obtain ⟨w', h1, h2⟩ := ih _ sc n hp _ _ _ _ _ _ hr he2 w hw hn
            refine ⟨w', ?_, h2⟩
            show (k (w.frozen? a)).run P w = _
            rw [frozen_blk (hw.blk hi) a he1 (List.getElem?_eq_some_iff.1 hu).1]; exact h1
  | freeze a z k ih =>
    intro sc n hp x hp' gs ws n' sc' h he w hw hn
    cases sc with
    | nil => simp [srun] at h
    | cons i sc =>
      simp only [srun] at h
      split at h
      case h_2 => cases h
      case h_1 b T l hi =>
        split at h
        case h_2 => cases h
        case h_1 hle =>
          split at h
          case h_2 => cases h
          case h_1 x1 hp1 gs1 ws1 n1 hr =>
            simp only [Option.some.injEq, Prod.mk.injEq] at h
            obtain ⟨rfl, rfl, rfl, rfl, rfl⟩ := h
            injection he with he1 he2
            have hz : (w.freeze a z).heap.size = w.heap.size ∧ (w.freeze a z).os = w.os ∧ (w.freeze a z).tape = w.tape ∧ (w.freeze a z).output = w.output := by
              unfold World.freeze; split <;> simp
            have hrest : ∀ k, k ≠ b → (w.freeze a z).heap[k]? = w.heap[k]? := fun k hk => heap_freeze_ne a z (by rw [he1]; exact hk)
            have hset : HS hp (w.freeze a z) := by
              have h9 := hw.set (w' := w.freeze a z) hi trivial (fun _ h => h) (heap_freeze (hw.blk hi) a z he1 (Nat.le_of_ble_eq_true hle)) (fun k hk _ => hrest k hk)
              have e : hp.set i (.blk b T l) = hp := by
                obtain ⟨hi1, hi2⟩ := List.getElem?_eq_some_iff.1 hi
                rw [← hi2]; exact List.set_getElem_self hi1
              rwa [e] at h9
            obtain ⟨w', h1, h2, h3, h4, h5⟩ := ih sc n hp _ _ _ _ _ _ hr he2 (w.freeze a z) hset (fun m hm => by rw [hz.1]; exact hn m hm)
            refine ⟨w', h1, h2, ?_, ?_, h5⟩
            · exact Ext.trans (b := w.freeze a z) ⟨hz.2.1, hz.2.2.1, hz.2.2.2, by rw [hz.1]; exact Nat.le_refl _, fun k hk hF => hrest k (fun e => hF ⟨_, List.mem_of_getElem? hi, trivial, e⟩)⟩ h3 (fun k hk => .inl hk)
            · intro c hc hr k hk
              rcases h4 c hc hr k hk with h | h
              · exact .inl h
              · exact .inr (by rw [← hz.1]; exact h)
  | program k ih =>
    intro sc n hp x hp' gs ws n' sc' h he w hw hn
    have h' : srun P (k P) sc n hp = some (x, hp', gs, ws, n', sc') := by cases sc <;> cases n <;> exact h
    obtain ⟨w', h1, h2⟩ := ih P sc n hp _ _ _ _ _ _ h' he w hw hn
    exact ⟨w', h1, h2⟩
  | mark m k ih =>
    intro sc n hp x hp' gs ws n' sc' h he w hw hn
    have h' : srun P k sc n hp = some (x, hp', gs, ws, n', sc') := by cases sc <;> cases n <;> exact h
    obtain ⟨w', h1, h2⟩ := ih sc n hp _ _ _ _ _ _ h' he w hw hn
    exact ⟨w', h1, h2⟩
  | getObj r k ih => intro sc n hp x hp' gs ws n' sc' h; cases sc <;> cases n <;> simp [srun] at h
  | setObj r o k ih => intro sc n hp x hp' gs ws n' sc' h; cases sc <;> cases n <;> simp [srun] at h
  | choose q k ih => intro sc n hp x hp' gs ws n' sc' h; cases sc <;> cases n <;> simp [srun] at h
  | sys c k ih => intro sc n hp x hp' gs ws n' sc' h; cases sc <;> cases n <;> simp [srun] at h
  | halt h => intro sc n hp x hp' gs ws n' sc' h; cases sc <;> cases n <;> simp [srun] at h
end Go.Sx
namespace Go.Sx
open Go
def ev (fr : Fr) : Operand → Value
  | .tmp t => (look fr t).getD undef
  | .const v => v
  | .global g => .pointer (some ⟨g, 0, none⟩)
  | .func f => .func (.func f) #[] #[]
def knownOp (fr : Fr) (o : Oper) : Bool :=
  (o.op.operands.toList.all fun | .tmp t => (look fr t).isSome | _ => true) && (match o.op with | .select _ _ => false | _ => true)
def FrOk (fr : Fr) (a : Act) : Prop := ∀ i v, look fr i = some v → a.tmps.getD i undef = v
theorem ev_eq {fr : Fr} {a : Act} (h : FrOk fr a) {o : Oper} (hk : knownOp fr o = true) : execOp a.eval o = execOp (ev fr) o := by
  simp only [knownOp, Bool.and_eq_true] at hk
  refine execOp_congr o (fun cs b e => by rw [e] at hk; simp at hk) fun x hx => ?_
  cases x with
  | tmp t =>
    have := List.all_eq_true.1 hk.1 (.tmp t) (by simpa using hx)
    obtain ⟨v, hv⟩ := Option.isSome_iff_exists.1 this
    show a.tmps.getD t undef = (look fr t).getD undef
    rw [h t v hv, hv]; rfl
  | const v => rfl
  | global g => rfl
  | func f => rfl
def wants (ops : Array Oper) (fr : Fr) (o : Oper) : Option Bool :=
  match o.guard with
  | none => some true
  | some (j, want) =>
    match (ops[j]?).bind (·.dst) with
    | none => none
    | some d => match look fr d with
      | some (.bool b) => some (b == want)
      | some (.tuple _) => some false
      | _ => none
theorem wants_ok {ops : Array Oper} {fr : Fr} {a : Act} (h : FrOk fr a) {o : Oper} {b : Bool} (hw : wants ops fr o = some b) :
    Region.wanted o (yielded ops a.tmps) = b := by
  unfold wants at hw
  unfold Region.wanted
  cases hg : o.guard with
  | none => rw [hg] at hw; simpa using hw
  | some p =>
    obtain ⟨j, want⟩ := p
    rw [hg] at hw
    simp only at hw ⊢
    cases hj : (ops[j]?).bind (·.dst) with
    | none => rw [hj] at hw; cases hw
    | some d =>
      rw [hj] at hw
      simp only at hw
      cases hl : look fr d with
      | none => rw [hl] at hw; cases hw
      | some v =>
        rw [hl] at hw
        cases v <;> simp only [Option.some.injEq] at hw <;> try cases hw
        case tuple.refl t =>
          have h1 := h d _ hl
          have hy : yielded ops a.tmps j = none := by
            unfold yielded
            cases hoj : ops[j]? with
            | none => rw [hoj] at hj; cases hj
            | some oj =>
              rw [hoj] at hj
              simp only [Option.bind_some] at hj
              simp only [Option.bind_some, hj]
              cases ht : a.tmps[d]? with
              | none => rfl
              | some u => simp [Array.getD_eq_getD_getElem?, ht] at h1; subst h1; rfl
          rw [hy]; cases want <;> rfl
        rename_i x
        have hy : yielded ops a.tmps j = some x := by
          have h1 := h d _ hl
          unfold yielded
          cases hoj : ops[j]? with
          | none => rw [hoj] at hj; cases hj
          | some oj =>
            rw [hoj] at hj
            simp only [Option.bind_some] at hj
            simp only [Option.bind_some, hj]
            cases ht : a.tmps[d]? with
            | none => simp [Array.getD_eq_getD_getElem?, ht, undef] at h1
            | some u => simp [Array.getD_eq_getD_getElem?, ht] at h1; subst h1; rfl
        rw [hy]
        cases x <;> cases want <;> rfl
theorem FrOk.put {fr : Fr} {a : Act} (h : FrOk fr a) {d : Nat} (hd : d < a.tmps.size) (v : Value) : FrOk ((d, v) :: fr) (a.put (some d) v) := by
  intro i u hi
  show ((a.tmps.setIfInBounds d v).getD i undef) = u
  unfold look at hi
  split at hi
  · rename_i e
    subst e
    simp only [Option.some.injEq] at hi
    subst hi
    simp [Array.getD, hd]
  · rename_i e
    have h1 := h i u hi
    rw [← h1]
    simp only [Array.getD_eq_getD_getElem?, Array.getElem?_setIfInBounds]
    rw [if_neg e]
def putFr (fr : Fr) (dst : Option Nat) (v : Value) : Fr := match dst with | some d => (d, v) :: fr | none => fr
/-! ### operations with a condition of their own -/
def AllP : List Prop → Prop
  | [] => True
  | p :: r => p ∧ AllP r
theorem allP_append {l r : List Prop} : AllP (l ++ r) ↔ AllP l ∧ AllP r := by
  induction l with
  | nil => simp [AllP]
  | cons p l ih => simp [AllP, ih, and_assoc]
def bt (s : ByteArray) (i : Int) : Int := ((s.data.toList.getD i.toNat 0).toNat : Int)
def mkS (l : List UInt8) : ByteArray := ⟨l.toArray⟩
theorem mkS_size (l : List UInt8) : (mkS l).size = l.length := rfl
def sOff (off : Nat) (l m : Int) (sz : Nat) : Nat := if m = l then off else off + l.toNat * sz
def inI64 (x : Int) : Prop := -9223372036854775808 ≤ x ∧ x ≤ 9223372036854775807
def mxB (ρ : Operand → Value) (cap : Nat) (mx : Option Operand) : Option (Int × List Prop) :=
  match mx with | none => some ((cap : Int), ([] : List Prop)) | some x => match ρ x with | .int _ n => some (n, [0 ≤ n ∧ n ≤ (cap : Int)]) | _ => none
def hiB (ρ : Operand → Value) (len : Nat) (m : Int) (hi mx : Option Operand) : Option (Int × List Prop) :=
  match hi with | none => (match mx with | none => some ((len : Int), ([] : List Prop)) | some _ => none) | some x => match ρ x with | .int _ n => some (n, [0 ≤ n ∧ n ≤ m]) | _ => none
def loB (ρ : Operand → Value) (h m : Int) (pm ph : List Prop) (lo : Option Operand) : Option (Int × Int × Int × List Prop) :=
  match lo with | none => some ((0 : Int), h, m, pm ++ ph) | some x => match ρ x with | .int _ n => some (n, h, m, pm ++ ph ++ [0 ≤ n ∧ n ≤ h]) | _ => none
def bnds (ρ : Operand → Value) (len cap : Nat) (lo hi mx : Option Operand) : Option (Int × Int × Int × List Prop) :=
  match mxB ρ cap mx with
  | none => none
  | some (m, pm) =>
    match hiB ρ len m hi mx with
    | none => none
    | some (h, ph) => loB ρ h m pm ph lo
def special (P : Program) (md : Bool) (ρ : Operand → Value) (o : Go.Op) : Option (Value × List Prop) :=
  match o with
  | .index t x ix => match P.underlying t, ρ x, ρ ix with
    | some .string, .string s, .int _ i => some (.int .u8 (bt s i), [0 ≤ i ∧ i < (s.size : Int)])
    | _, _, _ => none
  | .indexAddr t x ix => match P.underlying t, ρ x, ρ ix with
    | some (.slice e), .slice (some a) len _, .int _ i =>
      match P.info? e, a.spot with
      | some inf, none => some (.pointer (some ⟨a.block, a.off + i.toNat * inf.size, none⟩), [0 ≤ i ∧ i < (len : Int)])
      | _, _ => none
    | some (.array n e), .pointer (some a), .int _ i =>
      match P.info? e, a.spot with
      | some inf, none => some (.pointer (some ⟨a.block, a.off + i.toNat * inf.size, none⟩), [0 ≤ i ∧ i < (n : Int)])
      | _, _ => none
    | _, _, _ => none
  | .slice t x lo hi mx => match P.underlying t, ρ x with
    | some .string, .string s => match mx, bnds ρ s.size s.size lo hi none with
      | none, some (l, h, _, ps) => some (.string (mkS ((s.data.toList.drop l.toNat).take (h - l).toNat)), ps)
      | _, _ => none
    | some (.slice e), .slice a len cap => match P.info? e, bnds ρ len cap lo hi mx with
      | some inf, some (l, h, m, ps) =>
        match lo with
        | none => some (.slice a h.toNat m.toNat, ps)
        | some _ => match a with
          | some a => match a.spot with
            | none => some (.slice (some ⟨a.block, sOff a.off l m inf.size, none⟩) (h - l).toNat (m - l).toNat, ps)
            | _ => none
          | none => some (.slice none (h - l).toNat (m - l).toNat, ps)
      | _, _ => none
    | some (.array n e), .pointer (some a) => match P.info? e, bnds ρ n n lo hi mx, a.spot with
      | some inf, some (l, h, m, ps), none => some (.slice (some ⟨a.block, sOff a.off l m inf.size, none⟩) (h - l).toNat (m - l).toNat, ps)
      | _, _, _ => none
    | _, _ => none
  | .binOp op t x y _ => match op, ρ x, ρ y with
    | .add, .int .i64 a, .int .i64 b => if md then some (.int .i64 (a + b), [inI64 (a + b)]) else none
    | .sub, .int .i64 a, .int .i64 b => if md then some (.int .i64 (a - b), [inI64 (a - b)]) else none
    | .mul, .int .i64 a, .int .i64 b => if md then some (.int .i64 (a * b), [inI64 (a * b)]) else none
    | .add, .string a, .string b => some (.string (mkS (a.data.toList ++ b.data.toList)), [a.size + b.size ≤ 9223372036854775807])
    | .quo, .int .i64 a, .int .i64 b => if md then some (.int .i64 (a.tdiv b), [b ≠ 0 ∧ inI64 (a.tdiv b)]) else some (.int .i64 (IntKind.wrap .i64 (a.tdiv b)), [b ≠ 0])
    | .quo, .int .u64 a, .int .u64 b => if md then some (.int .u64 (a.tdiv b), [b ≠ 0 ∧ 0 ≤ a.tdiv b ∧ a.tdiv b < 18446744073709551616]) else some (.int .u64 (IntKind.wrap .u64 (a.tdiv b)), [b ≠ 0])
    | .rem, .int k a, .int k' b => match k, k' with
      | .i64, .i64 => some (.int .i64 (a.tmod b), [b ≠ 0])
      | .u64, .u64 => some (.int .u64 (a.tmod b), [b ≠ 0])
      | .u32, .u32 => some (.int .u32 (a.tmod b), [b ≠ 0])
      | _, _ => none
    | .eql, .string a, .string b => some (.bool (decide (a.data.toList = b.data.toList)), [])
    | .neq, .string a, .string b => some (.bool (!decide (a.data.toList = b.data.toList)), [])
    | .shl, .int k a, .int _ b => some (.int k (k.wrap (a * 2 ^ (min b.toNat k.bits))), [0 ≤ b])
    | .shr, .int k a, .int _ b => some (.int k (a.fdiv (2 ^ (min b.toNat k.bits))), [0 ≤ b])
    | _, _, _ => none
  | .pick c x y => match ρ c, ρ x, ρ y with
    | .bool c, .bool x, .bool y => some (.bool (cond c x y), [])
    | .bool c, .int k x, .int k' y => match k, k' with
      | .i64, .i64 => some (.int .i64 (cond c x y), [])
      | _, _ => none
    | _, _, _ => none
  | .call c => match c.callee, c.args.toList, c.argTypes.toList with
    | .builtin .len, [x], [t] => match ρ x, P.underlying t with
      | .string s, some .string => some (.int .i64 (s.data.toList.length : Int), [])
      | _, _ => none
    | _, _, _ => none
  | .convert s d x => match P.underlying d, ρ x with
    | some (.int .i64), .int .i64 n => match P.underlying s with | some _ => (if md then some (.int .i64 n, [inI64 n]) else none) | none => none
    | some (.int .i64), .int .u8 n => match P.underlying s with | some _ => (if md then some (.int .i64 n, [inI64 n]) else none) | none => none
    | _, _ => none
  | _ => none
end Go.Sx
namespace Go.Sx
open Go
variable {P : Program} {md : Bool} {ρ : Operand → Value} {w : World}
theorem run_sliceBound {k : IntKind} {n : Int} {y : Nat} {code : BoundsCode} (h0 : 0 ≤ n) (h1 : n ≤ (y : Int)) : (Instr.sliceBound (.int k n) y code).run P w = .ok n.toNat w := by
  simp [Instr.sliceBound, asIntOf, h0, h1]
theorem bnds_ok {sl : Bool} {len cap : Nat} {lo hi mx : Option Operand} {l h m : Int} {ps : List Prop} (e : bnds ρ len cap lo hi mx = some (l, h, m, ps)) (hp : AllP ps) :
    (Instr.sliceBounds sl len cap (lo.map ρ) (hi.map ρ) (mx.map ρ)).run P w = .ok (l.toNat, h.toNat, m.toNat) w ∧ 0 ≤ l ∧ 0 ≤ h ∧ 0 ≤ m ∧ (lo = none → l = 0) ∧ (hi = none → h = len) ∧ (mx = none → m = cap) ∧ (hi ≠ none → h ≤ m) ∧ (lo ≠ none → l ≤ h) := by
  unfold bnds at e
  have key : ∀ (m : Int) (pm : List Prop) (h : Int) (ph : List Prop) (l : Int) (ps : List Prop), AllP ps →
      mxB ρ cap mx = some (m, pm) → hiB ρ len m hi mx = some (h, ph) → loB ρ h m pm ph lo = some (l, h, m, ps) →
      (Instr.sliceBounds sl len cap (lo.map ρ) (hi.map ρ) (mx.map ρ)).run P w = .ok (l.toNat, h.toNat, m.toNat) w ∧ 0 ≤ l ∧ 0 ≤ h ∧ 0 ≤ m ∧ (lo = none → l = 0) ∧ (hi = none → h = len) ∧ (mx = none → m = cap) ∧ (hi ≠ none → h ≤ m) ∧ (lo ≠ none → l ≤ h) := by
    intro m pm h ph l ps hp e1 e2 e3
    unfold mxB at e1
    unfold hiB at e2
    unfold loB at e3
    have hall : AllP pm ∧ AllP ph ∧ (lo ≠ none → 0 ≤ l ∧ l ≤ h) ∧ (lo = none → l = 0) := by
      cases lo with
      | none =>
        simp only [Option.some.injEq, Prod.mk.injEq] at e3
        obtain ⟨rfl, _, _, rfl⟩ := e3
        rw [allP_append] at hp
        exact ⟨hp.1, hp.2, fun h => absurd rfl h, fun _ => rfl⟩
      | some x =>
        simp only at e3
        split at e3
        case h_2 => cases e3
        case h_1 k n hx =>
          simp only [Option.some.injEq, Prod.mk.injEq] at e3
          obtain ⟨rfl, _, _, rfl⟩ := e3
          rw [allP_append, allP_append] at hp
          exact ⟨hp.1.1, hp.1.2, fun _ => hp.2.1, fun h => by cases h⟩
    obtain ⟨hpm, hph, hl1, hl0⟩ := hall
    have hm : 0 ≤ m ∧ (mx = none → m = cap) ∧ (mx ≠ none → m ≤ cap) := by
      cases mx with
      | none => simp only [Option.some.injEq, Prod.mk.injEq] at e1; obtain ⟨rfl, rfl⟩ := e1; exact ⟨by omega, fun _ => rfl, fun h => absurd rfl h⟩
      | some x =>
        simp only at e1
        split at e1
        case h_2 => cases e1
        case h_1 k n hx => simp only [Option.some.injEq, Prod.mk.injEq] at e1; obtain ⟨rfl, rfl⟩ := e1; exact ⟨hpm.1.1, fun h => (by cases h), fun _ => hpm.1.2⟩
    have hh : 0 ≤ h ∧ (hi = none → h = len) ∧ (hi ≠ none → h ≤ m) := by
      cases hi with
      | none =>
        cases mx with
        | none => simp only [Option.some.injEq, Prod.mk.injEq] at e2; obtain ⟨rfl, rfl⟩ := e2; exact ⟨by omega, fun _ => rfl, fun h => absurd rfl h⟩
        | some x => simp at e2
      | some x =>
        simp only at e2
        split at e2
        case h_2 => cases e2
        case h_1 k n hx => simp only [Option.some.injEq, Prod.mk.injEq] at e2; obtain ⟨rfl, rfl⟩ := e2; exact ⟨hph.1.1, fun h => (by cases h), fun _ => hph.1.2⟩
    have hl : 0 ≤ l := by
      by_cases hlo : lo = none
      · rw [hl0 hlo]; omega
      · exact (hl1 hlo).1
    refine ⟨?_, hl, hh.1, hm.1, hl0, hh.2.1, hm.2.1, hh.2.2, fun h => (hl1 h).2⟩
    have hcap : (m.toNat : Int) = m := Int.toNat_of_nonneg hm.1
    have hhN : (h.toNat : Int) = h := Int.toNat_of_nonneg hh.1
    unfold Instr.sliceBounds
    cases mx with
    | none =>
      have := hm.2.1 rfl
      subst this
      cases hi with
      | none =>
        have := hh.2.1 rfl
        subst this
        cases lo with
        | none => have := hl0 rfl; subst this; simp
        | some z =>
          simp only at e3
          split at e3
          case h_2 => cases e3
          case h_1 k n hx =>
            simp only [Option.some.injEq, Prod.mk.injEq] at e3
            obtain ⟨rfl, _⟩ := e3
            have h2 := hl1 (by simp)
            simp [hx, run_sliceBound h2.1 h2.2]
      | some y =>
        simp only at e2
        split at e2
        case h_2 => cases e2
        case h_1 k n hx =>
          simp only [Option.some.injEq, Prod.mk.injEq] at e2
          obtain ⟨rfl, _⟩ := e2
          have h3 := hh.2.2 (by simp)
          cases lo with
          | none => have := hl0 rfl; subst this; simp [hx, run_sliceBound hh.1 h3]
          | some z =>
            simp only at e3
            split at e3
            case h_2 => cases e3
            case h_1 k' n' hx' =>
              simp only [Option.some.injEq, Prod.mk.injEq] at e3
              obtain ⟨rfl, _⟩ := e3
              have h2 := hl1 (by simp)
              simp [hx, hx', run_sliceBound hh.1 h3, run_sliceBound h2.1 (by rw [hhN]; exact h2.2)]
    | some q =>
      simp only at e1
      split at e1
      case h_2 => cases e1
      case h_1 kq nq hq =>
        simp only [Option.some.injEq, Prod.mk.injEq] at e1
        obtain ⟨rfl, _⟩ := e1
        have h4 := hm.2.2 (by simp)
        cases hi with
        | none => simp at e2
        | some y =>
          simp only at e2
          split at e2
          case h_2 => cases e2
          case h_1 k n hx =>
            simp only [Option.some.injEq, Prod.mk.injEq] at e2
            obtain ⟨rfl, _⟩ := e2
            have h3 := hh.2.2 (by simp)
            cases lo with
            | none => have := hl0 rfl; subst this; simp [hq, hx, run_sliceBound hm.1 h4, run_sliceBound hh.1 (by rw [hcap]; exact h3)]
            | some z =>
              simp only at e3
              split at e3
              case h_2 => cases e3
              case h_1 k' n' hx' =>
                simp only [Option.some.injEq, Prod.mk.injEq] at e3
                obtain ⟨rfl, _⟩ := e3
                have h2 := hl1 (by simp)
                simp [hq, hx, hx', run_sliceBound hm.1 h4, run_sliceBound hh.1 (by rw [hcap]; exact h3), run_sliceBound h2.1 (by rw [hhN]; exact h2.2)]
  split at e
  case h_1 => cases e
  case h_2 m' pm e1 =>
    split at e
    case h_1 => cases e
    case h_2 h' ph e2 =>
      have : h' = h ∧ m' = m := by
        unfold loB at e
        split at e
        · simp only [Option.some.injEq, Prod.mk.injEq] at e; exact ⟨e.2.1, e.2.2.1⟩
        · split at e
          · simp only [Option.some.injEq, Prod.mk.injEq] at e; exact ⟨e.2.1, e.2.2.1⟩
          · cases e
      obtain ⟨rfl, rfl⟩ := this
      exact key m' pm h' ph l ps hp e1 e2 e
theorem byte_at {s : ByteArray} {i : Int} (h0 : 0 ≤ i) (h1 : i < (s.size : Int)) : ∃ b, s[i.toNat]? = some b ∧ ((b.toNat : Int)) = bt s i := by
  have h : i.toNat < s.size := by omega
  refine ⟨s[i.toNat], by simp [getElem?_pos, h], ?_⟩
  unfold bt
  have h' : i.toNat < s.data.toList.length := by simpa using h
  rw [List.getD_eq_getElem?_getD, List.getElem?_eq_getElem h']
  rfl
theorem extract_mkS (s : ByteArray) (i j : Nat) : s.extract i j = mkS ((s.data.toList.drop i).take (j - i)) := by
  apply ByteArray.ext
  simp only [mkS, ByteArray.data_extract]
  apply Array.ext'
  simp [Array.toList_extract, List.extract_eq_take_drop]
theorem append_mkS (a b : ByteArray) : a ++ b = mkS (a.data.toList ++ b.data.toList) := by
  apply ByteArray.ext
  simp [mkS]
theorem wrap_in {x : Int} (h : inI64 x) : IntKind.wrap .i64 x = x := by
  unfold IntKind.wrap inI64 at *
  simp only [IntKind.bits, IntKind.signed]
  obtain ⟨h1, h2⟩ := h
  by_cases h0 : 0 ≤ x
  · have : x % 2 ^ 64 = x := Int.emod_eq_of_lt h0 (by omega)
    simp only [this]
    rw [if_neg (by simp; omega)]
  · have : x % 2 ^ 64 = x + 2 ^ 64 := by omega
    simp only [this]
    rw [if_pos (by simp; omega)]
    omega
theorem eqGuard_int {op : BinOp} {t : TypeId} {x y : Operand} {k k' : IntKind} {a b : Int} : (eqGuard op t x y (.int k a) (.int k' b)).run P w = .ok () w := by
  cases op <;> simp [eqGuard]
theorem eqGuard_str {op : BinOp} {t : TypeId} {x y : Operand} {a b : ByteArray} : (eqGuard op t x y (.string a) (.string b)).run P w = .ok () w := by
  cases op <;> simp [eqGuard]
theorem toList_data (s : ByteArray) : s.toList = s.data.toList := Go.ByteArray.toList_eq s
theorem beq_decide (a b : List UInt8) : (a == b) = decide (a = b) := by
  rw [Bool.eq_iff_iff]; simp
theorem special_sound {o : Oper} {v : Value} {ps : List Prop} (h : special P md ρ o.op = some (v, ps)) (hp : AllP ps) (w : World) : (execOp ρ o).run P w = .ok (.value v) w := by
  obtain ⟨dst, op, ty, pos, after, guard⟩ := o
  simp only at h
  unfold special at h
  split at h
  · -- index
    split at h
    · rename_i t x ix s k i ht hx hi
      simp only [Option.some.injEq, Prod.mk.injEq] at h
      obtain ⟨rfl, rfl⟩ := h
      obtain ⟨b, hb1, hb2⟩ := byte_at hp.1.1 hp.1.2
      simp [execOp, Instr.index, hx, hi, asIntOf, run_underlying ht, hp.1.1, hb1, hb2]
    · cases h
  · -- indexAddr
    split at h
    · rename_i t x ix e a len cap k i ht hx hi
      split at h
      · rename_i inf hinf hsp
        simp only [Option.some.injEq, Prod.mk.injEq] at h
        obtain ⟨rfl, rfl⟩ := h
        have h2 := hp.1
        have hadd : ∀ n, a.add n = ⟨a.block, a.off + n, none⟩ := fun n => by
          obtain ⟨ab, ao, asp⟩ := a
          simp only at hsp
          subst hsp
          unfold Addr.add
          split <;> simp_all
        simp [execOp, Instr.indexAt, hx, hi, asIntOf, run_underlying ht, h2.1, h2.2, sizeOf, typeInfo, hinf, hadd]
      · cases h
    · rename_i t x ix n e a k i ht hx hi
      split at h
      · rename_i inf hinf hsp
        simp only [Option.some.injEq, Prod.mk.injEq] at h
        obtain ⟨rfl, rfl⟩ := h
        have h2 := hp.1
        have hadd : ∀ n, a.add n = ⟨a.block, a.off + n, none⟩ := fun n => by
          obtain ⟨ab, ao, asp⟩ := a
          simp only at hsp
          subst hsp
          unfold Addr.add
          split <;> simp_all
        simp [execOp, Instr.indexAt, Instr.sureAddr, hx, hi, asIntOf, run_underlying ht, h2.1, h2.2, sizeOf, typeInfo, hinf, hadd]
      · cases h
    · cases h
  · -- slice
    rename_i t x lo hi mx
    have hsz : ∀ (sl : Bool) (n : Nat) (e : TypeDesc), P.underlying t = some e → (∀ n m, e ≠ .array n m) → (execOp ρ { dst := dst, op := Go.Op.slice t x lo hi mx, type := ty, pos := pos, after := after, guard := guard }).run P w = ((fun v => Next.value v) <$> Instr.slice t (ρ x) (lo.map ρ) (hi.map ρ) (mx.map ρ)).run P w := by
      intro sl n e ht hne
      cases e <;> first | exact absurd rfl (hne _ _) | (simp [execOp, Instr.sliceAt, run_underlying ht])
    split at h
    · rename_i s ht hx
      split at h
      · rename_i l hh m ps' hmx hb
        simp only [Option.some.injEq, Prod.mk.injEq] at h
        obtain ⟨rfl, rfl⟩ := h
        have e1 := bnds_ok (P := P) (w := w) (sl := false) hb hp
        rw [hsz false 0 _ ht (by intro n m e; cases e)]
        have h1 := e1.1
        simp only [Option.map_none] at h1
        have hm : (h : Int) → True := fun _ => trivial
        simp [Instr.slice, run_underlying ht, hx, h1, extract_mkS]
        have := e1.2.1; have := e1.2.2.1
        congr 2
        omega
      · cases h
    · rename_i e a len cap ht hx
      split at h
      · rename_i inf l hh m ps' hinf hb
        have hrun : ∀ ps', bnds ρ len cap lo hi mx = some (l, hh, m, ps') → AllP ps' → (execOp ρ { dst := dst, op := Go.Op.slice t x lo hi mx, type := ty, pos := pos, after := after, guard := guard }).run P w =
            .ok (.value (.slice (if m = l then a else a.map (·.add (l.toNat * inf.size))) (hh - l).toNat (m - l).toNat)) w ∧ (lo = none → l = 0) := by
          intro ps' hb hp'
          have e1 := bnds_ok (P := P) (w := w) (sl := true) hb hp'
          have := e1.2.1; have := e1.2.2.1; have := e1.2.2.2.1
          refine ⟨?_, e1.2.2.2.2.1⟩
          rw [hsz false 0 _ ht (by intro n m e; cases e)]
          have e2 : (m.toNat = l.toNat) = (m = l) := by apply propext; constructor <;> intro <;> omega
          simp [Instr.slice, run_underlying ht, hx, e1.1, sizeOf, typeInfo, hinf, e2]
          constructor <;> omega
        split at h
        · simp only [Option.some.injEq, Prod.mk.injEq] at h
          obtain ⟨rfl, rfl⟩ := h
          obtain ⟨h1, h2⟩ := hrun _ hb hp
          have := h2 rfl
          subst this
          rw [h1]
          have hadd0 : a.map (fun x => x.add (Int.toNat 0 * inf.size)) = a := by cases a <;> simp [Addr.add]
          rw [hadd0]
          simp
        · split at h
          · split at h
            · rename_i a' _ hsp
              simp only [Option.some.injEq, Prod.mk.injEq] at h
              obtain ⟨rfl, rfl⟩ := h
              obtain ⟨h1, h2⟩ := hrun _ hb hp
              rw [h1]
              have hadd : ∀ n, a'.add n = ⟨a'.block, a'.off + n, none⟩ := fun n => by
                obtain ⟨ab, ao, asp⟩ := a'
                simp only at hsp
                subst hsp
                unfold Addr.add
                split <;> simp_all
              have ha' : a' = ⟨a'.block, a'.off, none⟩ := by
                obtain ⟨ab, ao, asp⟩ := a'
                simp only at hsp
                subst hsp; rfl
              unfold sOff
              by_cases hml : m = l
              · rw [if_pos hml, if_pos hml, ← ha']
              · rw [if_neg hml, if_neg hml]; simp [hadd]
            · cases h
          · simp only [Option.some.injEq, Prod.mk.injEq] at h
            obtain ⟨rfl, rfl⟩ := h
            obtain ⟨h1, h2⟩ := hrun _ hb hp
            rw [h1]
            simp
      · cases h
    · rename_i n e a ht hx
      split at h
      · rename_i inf l hh m ps' hinf hb hsp
        simp only [Option.some.injEq, Prod.mk.injEq] at h
        obtain ⟨rfl, rfl⟩ := h
        have e1 := bnds_ok (P := P) (w := w) (sl := false) hb hp
        have := e1.2.1; have := e1.2.2.1; have := e1.2.2.2.1
        have hadd : ∀ n, a.add n = ⟨a.block, a.off + n, none⟩ := fun n => by
          obtain ⟨ab, ao, asp⟩ := a
          simp only at hsp
          subst hsp
          unfold Addr.add
          split <;> simp_all
        have ha' : a = ⟨a.block, a.off, none⟩ := by
          obtain ⟨ab, ao, asp⟩ := a
          simp only at hsp
          subst hsp; rfl
        have e2 : (m.toNat = l.toNat) = (m = l) := by apply propext; constructor <;> intro <;> omega
        have e3 : (if m = l then a else a.add (l.toNat * inf.size)) = ⟨a.block, sOff a.off l m inf.size, none⟩ := by
          unfold sOff
          by_cases hml : m = l
          · rw [if_pos hml, if_pos hml]; exact ha'
          · rw [if_neg hml, if_neg hml]; exact hadd _
        simp only [execOp, Instr.sliceAt, Sem.run_bind, Sem.run_map, run_underlying ht, Result.andThen_ok, hx, Instr.sureAddr, Sem.run_pure, e1.1, sizeOf, typeInfo, run_program, hinf, e2, e3]
        simp
        constructor <;> omega
      · cases h
    · cases h
  · -- binOp
    rename_i op t x y yt
    split at h
    · split at h
      · rename_i hx hy _; simp only [Option.some.injEq, Prod.mk.injEq] at h; obtain ⟨rfl, rfl⟩ := h
        simp [execOp, binOp, hx, hy, eqGuard_int, Op.intArith, wrap_in hp.1]
      · cases h
    · split at h
      · rename_i hx hy _; simp only [Option.some.injEq, Prod.mk.injEq] at h; obtain ⟨rfl, rfl⟩ := h
        simp [execOp, binOp, hx, hy, eqGuard_int, Op.intArith, wrap_in hp.1]
      · cases h
    · split at h
      · rename_i hx hy _; simp only [Option.some.injEq, Prod.mk.injEq] at h; obtain ⟨rfl, rfl⟩ := h
        simp [execOp, binOp, hx, hy, eqGuard_int, Op.intArith, wrap_in hp.1]
      · cases h
    · rename_i a b hx hy; simp only [Option.some.injEq, Prod.mk.injEq] at h; obtain ⟨rfl, rfl⟩ := h
      have h1 := hp.1
      have h2 : ¬ (((a.size + b.size : Nat) : Int) > IntKind.i64.max) := by
        have : IntKind.i64.max = 9223372036854775807 := by decide
        rw [this]; omega
      have h3 : ¬ (IntKind.i64.max < (a.size : Int) + (b.size : Int)) := by simpa using h2
      simp [execOp, binOp, hx, hy, eqGuard_str, Op.stringOp, h3, append_mkS a b]
      omega
    · split at h
      · rename_i hx hy _; simp only [Option.some.injEq, Prod.mk.injEq] at h; obtain ⟨rfl, rfl⟩ := h
        simp [execOp, binOp, hx, hy, eqGuard_int, Op.intDiv, hp.1.1, wrap_in hp.1.2]
      · rename_i hx hy _; simp only [Option.some.injEq, Prod.mk.injEq] at h; obtain ⟨rfl, rfl⟩ := h
        simp [execOp, binOp, hx, hy, eqGuard_int, Op.intDiv, hp.1]
    · split at h
      · rename_i a b hx hy _; simp only [Option.some.injEq, Prod.mk.injEq] at h; obtain ⟨rfl, rfl⟩ := h
        have e : IntKind.wrap .u64 (a.tdiv b) = a.tdiv b := by
          unfold IntKind.wrap
          simp only [IntKind.bits, IntKind.signed]
          have := hp.1.2
          simp
          omega
        simp [execOp, binOp, hx, hy, eqGuard_int, Op.intDiv, hp.1.1, e]
      · rename_i hx hy _; simp only [Option.some.injEq, Prod.mk.injEq] at h; obtain ⟨rfl, rfl⟩ := h
        simp [execOp, binOp, hx, hy, eqGuard_int, Op.intDiv, hp.1]
    · rename_i hx hy
      split at h
      all_goals first | (cases h; done) | (simp only [Option.some.injEq, Prod.mk.injEq] at h; obtain ⟨rfl, rfl⟩ := h; simp [execOp, binOp, hx, hy, eqGuard_int, Op.intDiv, hp.1])
    · rename_i a b hx hy; simp only [Option.some.injEq, Prod.mk.injEq] at h; obtain ⟨rfl, rfl⟩ := h
      simp only [execOp, binOp, hx, hy, eqGuard_str, Op.stringOp, toList_data, beq_decide, Sem.run_bind, Sem.run_pure, Result.andThen_ok]
    · rename_i a b hx hy; simp only [Option.some.injEq, Prod.mk.injEq] at h; obtain ⟨rfl, rfl⟩ := h
      simp only [execOp, binOp, hx, hy, eqGuard_str, Op.stringOp, toList_data, beq_decide, Sem.run_bind, Sem.run_pure, Result.andThen_ok]
    · rename_i hx hy; simp only [Option.some.injEq, Prod.mk.injEq] at h; obtain ⟨rfl, rfl⟩ := h
      simp [execOp, binOp, hx, hy, eqGuard_int, Op.shift, Int.not_lt.2 hp.1]
    · rename_i hx hy; simp only [Option.some.injEq, Prod.mk.injEq] at h; obtain ⟨rfl, rfl⟩ := h
      simp [execOp, binOp, hx, hy, eqGuard_int, Op.shift, Int.not_lt.2 hp.1]
    · cases h
  · -- pick
    split at h
    · rename_i hc hx hy
      simp only [Option.some.injEq, Prod.mk.injEq] at h
      obtain ⟨rfl, rfl⟩ := h
      rename_i c _ _
      cases c <;> simp [execOp, asBool, hc, hx, hy]
    · rename_i hc hx hy
      split at h
      · simp only [Option.some.injEq, Prod.mk.injEq] at h
        obtain ⟨rfl, rfl⟩ := h
        simp only [execOp, asBool, hc, hx, hy]
        simp
        split <;> simp_all
      · cases h
    · cases h
  · -- len
    rename_i c
    split at h
    · rename_i x t hcal hargs hts
      split at h
      · rename_i s hx ht
        simp only [Option.some.injEq, Prod.mk.injEq] at h
        obtain ⟨rfl, rfl⟩ := h
        have e1 : c.args = #[x] := by apply Array.ext'; simpa using hargs
        have e2 : c.argTypes = #[t] := by apply Array.ext'; simpa using hts
        simp [execOp, resolve, hcal, e1, e2, invoke, builtin, Builtin.len_, hx, run_underlying ht, goInt]
      · cases h
    · cases h
  · -- convert
    rename_i s d x
    have hs : ∀ (k : IntKind) (n : Int) (k' : IntKind), P.underlying d = some (.int k') → ρ x = .int k n → (∃ ds, P.underlying s = some ds) →
      (execOp ρ { dst := dst, op := Go.Op.convert s d x, type := ty, pos := pos, after := after, guard := guard }).run P w = .ok (.value (.int k' (k'.wrap n))) w := by
      intro k n k' hd hx ⟨ds, hds⟩
      simp [execOp, hx, convert, run_underlying hd, run_underlying hds, Conv.intToInt]
    split at h
    · rename_i hd hx
      split at h
      · split at h
        · simp only [Option.some.injEq, Prod.mk.injEq] at h; obtain ⟨rfl, rfl⟩ := h
          rename_i hds _
          rw [hs _ _ _ hd hx ⟨_, hds⟩, wrap_in hp.1]
        · cases h
      · cases h
    · rename_i hd hx
      split at h
      · split at h
        · simp only [Option.some.injEq, Prod.mk.injEq] at h; obtain ⟨rfl, rfl⟩ := h
          rename_i hds _
          rw [hs _ _ _ hd hx ⟨_, hds⟩, wrap_in hp.1]
        · cases h
      · cases h
    · cases h
  · cases h
end Go.Sx
namespace Go.Sx
open Go
structure Rs where
  fr : Fr
  hp : Hp
  gs : List Nat
  ws : List Nat
  vc : List Prop
  n : Option Nat
  sc : List Nat
def okDst (nt : Nat) : Option Nat → Bool
  | none => true
  | some d => d.blt nt
def sop (P : Program) (md : Bool) (ops : Array Oper) (nt : Nat) (i : Nat) (fr : Fr) (hp : Hp) (n : Option Nat) (sc : List Nat) : Option Rs :=
  match ops[i]? with
  | none => none
  | some o =>
    match okDst nt o.dst, wants ops fr o with
    | true, some false => some ⟨putFr fr o.dst undef, hp, [], [], [], n, sc⟩
    | true, some true =>
      match knownOp fr o with
      | false => none
      | true =>
        match special P md (ev fr) o.op with
        | some (v, ps) => some ⟨putFr fr o.dst v, hp, [], [], ps, n, sc⟩
        | none => match srun P (execOp (ev fr) o) sc n hp with
          | some (.value v, hp', gs, ws, n', sc') => some ⟨putFr fr o.dst v, hp', gs, ws, [], n', sc'⟩
          | some (.skip, hp', gs, ws, n', sc') => some ⟨putFr fr o.dst undef, hp', gs, ws, [], n', sc'⟩
          | _ => none
    | _, _ => none
theorem FrOk.putFr {fr : Fr} {a : Act} (h : FrOk fr a) {nt : Nat} {d : Option Nat} (hs : a.tmps.size = nt) (hd : okDst nt d = true) (v : Value) : FrOk (putFr fr d v) (a.put d v) := by
  cases d with
  | none => exact h
  | some d => exact FrOk.put h (by rw [hs]; exact Nat.le_of_ble_eq_true hd) v
theorem size_put {a : Act} (d : Option Nat) (v : Value) : (a.put d v).tmps.size = a.tmps.size := by cases d <;> simp [Act.put]
theorem defers_put {a : Act} (d : Option Nat) (v : Value) : (a.put d v).defers = a.defers := by cases d <;> rfl
def Fresh (n : Option Nat) (w : World) : Prop := ∀ m, n = some m → m = w.heap.size
theorem Sat.step {Γ : Cx} {fr : Fr} {hp hp' : Hp} {a : Act} {w w' : World} {d : Option Nat} {v : Value} (h : Sat Γ ⟨fr, hp⟩ a w) (hd : okDst Γ.nt d = true)
    (hs : HS hp' w') (he : Ext w w' (foot hp)) (hb : Bd hp' (foot hp) w.heap.size) : Sat Γ ⟨putFr fr d v, hp'⟩ (a.put d v) w' where
  size := (size_put d v).trans h.size
  defers := (defers_put d v).trans h.defers
  fr := FrOk.putFr h.fr h.size hd v
  hs := hs
  ext := h.ext.trans he fun x ⟨c, hc, hr, hx⟩ => h.bd c hc hr x hx
  bd := fun c hc hr k hk => by
    rcases hb c hc hr k hk with ⟨d, hd, hdr, hdk⟩ | h1
    · exact h.bd d hd hdr k hdk
    · exact .inr (Nat.le_trans h.ext.size h1)
theorem sop_sound {Γ : Cx} {md : Bool} {ops : Array Oper} {i : Nat} {fr : Fr} {hp : Hp} {n : Option Nat} {sc : List Nat} {r : Rs} {Q : Exit → Act → World → Prop}
    (h : sop Γ.P md ops Γ.nt i fr hp n sc = some r) (he : r.gs = r.ws) (hv : AllP r.vc) {a : Act} {w : World} (hS : Sat Γ ⟨fr, hp⟩ a w) (hn : Fresh n w)
    {K : Act → World → Prop} (hK : ∀ a' w', Sat Γ ⟨r.fr, r.hp⟩ a' w' → Fresh r.n w' → K a' w') : wpOp Γ.P ops Q i K a w := by
  unfold sop at h
  unfold wpOp
  cases ho : ops[i]? with
  | none => rw [ho] at h; cases h
  | some o =>
    rw [ho] at h
    simp only at h ⊢
    split at h
    · rename_i hd hw
      simp only [Option.some.injEq] at h
      subst h
      rw [wants_ok hS.fr hw]
      simp only [Bool.false_eq_true, if_false]
      exact hK _ _ (hS.step hd hS.hs (Ext.refl _ _) (Bd.self _ _)) hn
    · rename_i hd hw
      rw [wants_ok hS.fr hw]
      simp only [if_true]
      refine .inl ?_
      split at h
      · cases h
      · rename_i hk
        unfold Oper.wp
        rw [ev_eq hS.fr hk]
        split at h
        · rename_i v ps hsp
          simp only [Option.some.injEq] at h
          subst h
          rw [special_sound hsp hv]
          exact hK _ _ (hS.step hd hS.hs (Ext.refl _ _) (Bd.self _ _)) hn
        · split at h
          · rename_i v hp' gs ws n' sc' hr
            simp only [Option.some.injEq] at h
            subst h
            obtain ⟨w', h1, h2, h3, h4, h5⟩ := srun_sound _ _ _ _ _ _ _ _ _ _ hr he w hS.hs hn
            rw [h1]
            exact hK _ _ (hS.step hd h2 h3 h4) h5
          · rename_i hp' gs ws n' sc' hr
            simp only [Option.some.injEq] at h
            subst h
            obtain ⟨w', h1, h2, h3, h4, h5⟩ := srun_sound _ _ _ _ _ _ _ _ _ _ hr he w hS.hs hn
            rw [h1]
            exact hK _ _ (hS.step hd h2 h3 h4) h5
          · cases h
    · cases h
def sops (P : Program) (md : Bool) (ops : Array Oper) (nt : Nat) : List Nat → Fr → Hp → Option Nat → List Nat → Option Rs
  | [], fr, hp, n, sc => some ⟨fr, hp, [], [], [], n, sc⟩
  | i :: l, fr, hp, n, sc =>
    match sop P md ops nt i fr hp n sc with
    | none => none
    | some r => match sops P md ops nt l r.fr r.hp r.n r.sc with
      | none => none
      | some q => some ⟨q.fr, q.hp, r.gs ++ q.gs, r.ws ++ q.ws, r.vc ++ q.vc, q.n, q.sc⟩
theorem sop_len {P : Program} {md : Bool} {ops : Array Oper} {nt i : Nat} {fr : Fr} {hp : Hp} {n : Option Nat} {sc : List Nat} {r : Rs} (h : sop P md ops nt i fr hp n sc = some r) : r.gs.length = r.ws.length := by
  have key : ∀ {α : Type} (s : Sem α) (sc : List Nat) (n : Option Nat) (hp : Hp) (x : α) (hp' : Hp) (gs ws : List Nat) (n' : Option Nat) (sc' : List Nat),
      srun P s sc n hp = some (x, hp', gs, ws, n', sc') → gs.length = ws.length := by
    intro α s
    induction s with
    | pure a => intro sc n hp x hp' gs ws n' sc' h; simp only [srun, Option.some.injEq, Prod.mk.injEq] at h; obtain ⟨_, _, rfl, rfl, _⟩ := h; rfl
    | load m a k ih =>
      intro sc n hp x hp' gs ws n' sc' h
      cases sc with
      | nil => simp [srun] at h
      | cons i sc =>
        simp only [srun] at h
        split at h <;> try cases h
        split at h <;> try cases h
        split at h <;> try cases h
        rename_i hr
        simpa using ih _ _ _ _ _ _ _ _ _ _ hr
    | store m a v k ih =>
      intro sc n hp x hp' gs ws n' sc' h
      cases sc with
      | nil => simp [srun] at h
      | cons i sc =>
        simp only [srun] at h
        split at h <;> try cases h
        split at h <;> try cases h
        split at h <;> try cases h
        split at h <;> try cases h
        rename_i hr
        simpa using ih _ _ _ _ _ _ _ _ _ hr
    | new o k ih =>
      intro sc n hp x hp' gs ws n' sc' h
      cases n with
      | none => simp [srun] at h
      | some m =>
        simp only [srun] at h
        split at h <;> try cases h
        exact ih _ _ _ _ _ _ _ _ _ _ h
    | shape r k ih =>
      intro sc n hp x hp' gs ws n' sc' h
      cases sc with
      | nil => simp [srun] at h
      | cons i sc =>
        simp only [srun] at h
        split at h <;> try cases h
        split at h <;> try cases h
        rename_i hr
        simpa using ih _ _ _ _ _ _ _ _ _ _ hr
    | frozen a k ih =>
      intro sc n hp x hp' gs ws n' sc' h
      cases sc with
      | nil => simp [srun] at h
      | cons i sc =>
        simp only [srun] at h
        split at h <;> try cases h
        split at h <;> try cases h
        split at h <;> try cases h
        rename_i hr
        simpa using ih _ _ _ _ _ _ _ _ _ _ hr
    | freeze a z k ih =>
      intro sc n hp x hp' gs ws n' sc' h
      cases sc with
      | nil => simp [srun] at h
      | cons i sc =>
        simp only [srun] at h
        split at h <;> try cases h
        split at h <;> try cases h
        split at h <;> try cases h
        rename_i hr
        simpa using ih _ _ _ _ _ _ _ _ _ hr
    | program k ih =>
      intro sc n hp x hp' gs ws n' sc' h
      have h' : srun P (k P) sc n hp = some (x, hp', gs, ws, n', sc') := by cases sc <;> cases n <;> exact h
      exact ih _ _ _ _ _ _ _ _ _ _ h'
    | mark m k ih =>
      intro sc n hp x hp' gs ws n' sc' h
      have h' : srun P k sc n hp = some (x, hp', gs, ws, n', sc') := by cases sc <;> cases n <;> exact h
      exact ih _ _ _ _ _ _ _ _ _ h'
    | getObj r k ih => intro sc n hp x hp' gs ws n' sc' h; cases sc <;> cases n <;> simp [srun] at h
    | setObj r o k ih => intro sc n hp x hp' gs ws n' sc' h; cases sc <;> cases n <;> simp [srun] at h
    | choose q k ih => intro sc n hp x hp' gs ws n' sc' h; cases sc <;> cases n <;> simp [srun] at h
    | sys c k ih => intro sc n hp x hp' gs ws n' sc' h; cases sc <;> cases n <;> simp [srun] at h
    | halt h => intro sc n hp x hp' gs ws n' sc' h; cases sc <;> cases n <;> simp [srun] at h
  unfold sop at h
  split at h
  · cases h
  · split at h
    · cases h; rfl
    · split at h
      · cases h
      · split at h
        · cases h; rfl
        · split at h
          · cases h; rename_i hr; exact key _ _ _ _ _ _ _ _ _ _ hr
          · cases h; rename_i hr; exact key _ _ _ _ _ _ _ _ _ _ hr
          · cases h
    · cases h
theorem sops_sound {Γ : Cx} {md : Bool} {ops : Array Oper} {Q : Exit → Act → World → Prop} (l : List Nat) : ∀ {fr : Fr} {hp : Hp} {n : Option Nat} {sc : List Nat} {r : Rs},
    sops Γ.P md ops Γ.nt l fr hp n sc = some r → r.gs = r.ws → AllP r.vc → ∀ {a : Act} {w : World}, Sat Γ ⟨fr, hp⟩ a w → Fresh n w →
    ∀ {rest : List Nat}, (∀ a' w', Sat Γ ⟨r.fr, r.hp⟩ a' w' → Fresh r.n w' → wpOps Γ.P ops Q rest a' w') → wpOps Γ.P ops Q (l ++ rest) a w := by
  induction l with
  | nil =>
    intro fr hp n sc r h _ _ a w hS hn rest hK
    simp only [sops, Option.some.injEq] at h
    subst h
    exact hK a w hS hn
  | cons i l ih =>
    intro fr hp n sc r h he hv a w hS hn rest hK
    simp only [sops] at h
    split at h
    · cases h
    · rename_i r1 h1
      split at h
      · cases h
      · rename_i q h2
        simp only [Option.some.injEq] at h
        subst h
        obtain ⟨e1, e2⟩ := List.append_inj he (sop_len h1)
        obtain ⟨v1, v2⟩ := allP_append.1 hv
        rw [List.cons_append, wpOps_cons]
        exact sop_sound h1 e1 v1 hS hn fun a' w' hS' hn' => ih h2 e2 v2 hS' hn' hK
end Go.Sx
namespace Go.Sx
open Go
class PanicOk (Q : Exit → Act → World → Prop) : Prop where
  ok : ∀ c (a a' : Act) w, a.defers = a'.defers → Q (.panic c) a w → Q (.panic c) a' w
instance {P : Program} {fn : Func} {R : Ending → World → Prop} : PanicOk (bodyPost P fn R) := ⟨fun c a a' w h q => ⟨h ▸ q.1, q.2⟩⟩
instance {K : Act → World → Prop} {Q : Exit → Act → World → Prop} [PanicOk Q] : PanicOk (Exit.then K Q) := ⟨fun c a a' w h q => PanicOk.ok (Q := Q) c a a' w h q⟩
instance {id : Nat} {Q : Exit → Act → World → Prop} [PanicOk Q] : PanicOk (Exit.inBlock id Q) := ⟨fun c a a' w h q => PanicOk.ok (Q := Q) c a a' w h q⟩
def WpC (Γ : Cx) (c : Code) (s : St) (Q : Exit → Act → World → Prop) : Prop := ∀ a w, Sat Γ s a w → c.wp Γ.P Q a w
def WpR (Γ : Cx) (ops : Array Oper) (l : List Nat) (s : St) (Q : Exit → Act → World → Prop) : Prop := ∀ a w, Sat Γ s a w → wpOps Γ.P ops Q l a w
def WpA (Γ : Cx) (ops : Array Oper) (hs : Hp) (fuel : Nat) (listed : Array Bool) (s : St) (Q : Exit → Act → World → Prop) : Prop :=
  ∀ a w, Sat Γ s a w → HL hs w → wpAnyH Γ.P .any ops Q (HL hs) fuel listed a w
def Nx (Γ : Cx) (s : St) (Q : Exit → Act → World → Prop) (e : Exit) : Prop := ∀ a w, Sat Γ s a w → Q e a w
variable {Γ : Cx} {Q : Exit → Act → World → Prop} {s : St}
/-! ### code -/
theorem wpc_seq {x y : Code} (h : WpC Γ x s (Exit.then (fun a w => y.wp Γ.P Q a w) Q)) : WpC Γ (.seq x y) s Q := fun a w hS => wp_seq (h a w hS)
theorem wpc_skip (h : Nx Γ s Q .normal) : WpC Γ .skip s Q := fun a w hS => wp_skip (h a w hS)
theorem wpc_ret (h : Nx Γ s Q .ret) : WpC Γ .ret s Q := fun a w hS => wp_ret (h a w hS)
theorem wpc_exit {id : Nat} (h : Nx Γ s Q (.exit id)) : WpC Γ (.exit id) s Q := fun a w hS => wp_exit (h a w hS)
theorem wpc_block {id : Nat} {c : Code} (h : WpC Γ c s (Exit.inBlock id Q)) : WpC Γ (.block id c) s Q := fun a w hS => wp_block (h a w hS)
theorem wpc_region {id : Nat} {ops : Array Oper} (l : List Nat) (hl : List.range ops.size = l) (h : WpR Γ ops l s Q) : WpC Γ (.region id ops false) s Q :=
  fun a w hS => wp_region (by rw [hl]; exact h a w hS)
theorem wpr_nil {ops : Array Oper} (h : Nx Γ s Q .normal) : WpR Γ ops [] s Q := fun a w hS => h a w hS
theorem nx_then {y : Code} (h : WpC Γ y s Q) : Nx Γ s (Exit.then (fun a w => y.wp Γ.P Q a w) Q) .normal := fun a w hS => h a w hS
theorem nx_then_exit {K : Act → World → Prop} {id : Nat} (h : Nx Γ s Q (.exit id)) : Nx Γ s (Exit.then K Q) (.exit id) := fun a w hS => h a w hS
theorem nx_then_ret {K : Act → World → Prop} (h : Nx Γ s Q .ret) : Nx Γ s (Exit.then K Q) .ret := fun a w hS => h a w hS
theorem nx_block {id : Nat} (h : Nx Γ s Q .normal) : Nx Γ s (Exit.inBlock id Q) .normal := fun a w hS => h a w hS
theorem nx_block_ret {id : Nat} (h : Nx Γ s Q .ret) : Nx Γ s (Exit.inBlock id Q) .ret := fun a w hS => h a w hS
theorem nx_block_here {id : Nat} (h : Nx Γ s Q .normal) : Nx Γ s (Exit.inBlock id Q) (.exit id) := fun a w hS => by simpa [Exit.inBlock] using h a w hS
theorem nx_block_far {id id' : Nat} (hne : (id' == id) = false) (h : Nx Γ s Q (.exit id')) : Nx Γ s (Exit.inBlock id Q) (.exit id') := fun a w hS => by
  have : id' ≠ id := by simpa using hne
  simpa [Exit.inBlock, this] using h a w hS
/-! ### knowing less, or the same in other words -/
theorem Sat.weaken {s' : St} {a : Act} {w : World} (h : Sat Γ s a w) (hf : s'.fr.map (fun p => look s.fr p.1) = s'.fr.map (fun p => some p.2)) (hh : HS s'.hp w) (hb : Bd s'.hp Γ.F Γ.w0.heap.size) : Sat Γ s' a w where
  size := h.size
  defers := h.defers
  fr := fun i v hi => by
    have key : ∀ l : Fr, l.map (fun p => look s.fr p.1) = l.map (fun p => some p.2) → look l i = some v → look s.fr i = some v := by
      intro l
      induction l with
      | nil => intro _ h; cases h
      | cons p l ih =>
        obtain ⟨j, u⟩ := p
        intro he hl
        simp only [List.map_cons, List.cons.injEq] at he
        simp only [look] at hl
        split at hl
        · rename_i e; subst e; rw [← hl]; exact he.1
        · exact ih he.2 hl
    exact h.fr i v (key _ hf hi)
  hs := hh
  ext := h.ext
  bd := hb
theorem Sat.frames {fr' : Fr} {a : Act} {w : World} (h : Sat Γ s a w) (hf : fr'.map (fun p => look s.fr p.1) = fr'.map (fun p => some p.2)) : Sat Γ ⟨fr', s.hp⟩ a w :=
  h.weaken hf h.hs h.bd
def Ent (Γ : Cx) (s s' : St) : Prop := ∀ a w, Sat Γ s a w → Sat Γ s' a w
theorem wpc_ent {s' : St} {c : Code} (e : Ent Γ s s') (h : WpC Γ c s' Q) : WpC Γ c s Q := fun a w hS => h a w (e a w hS)
theorem wpr_ent {s' : St} {ops : Array Oper} {l : List Nat} (e : Ent Γ s s') (h : WpR Γ ops l s' Q) : WpR Γ ops l s Q := fun a w hS => h a w (e a w hS)
theorem nx_ent {s' : St} {x : Exit} (e : Ent Γ s s') (h : Nx Γ s' Q x) : Nx Γ s Q x := fun a w hS => h a w (e a w hS)
theorem ent_fr {fr fr' : Fr} {hp : Hp} (hf : fr'.map (fun p => look fr p.1) = fr'.map (fun p => some p.2)) : Ent Γ ⟨fr, hp⟩ ⟨fr', hp⟩ := fun a w hS => hS.frames hf
theorem Ent.trans {s₁ s₂ s₃ : St} (h : Ent Γ s₁ s₂) (k : Ent Γ s₂ s₃) : Ent Γ s₁ s₃ := fun a w hS => k a w (h a w hS)
theorem wpc_fact {c : Code} {p : Prop} (hp : ∀ w, HS s.hp w → p) (h : p → WpC Γ c s Q) : WpC Γ c s Q := fun a w hS => h (hp w hS.hs) a w hS
theorem wpr_fact {ops : Array Oper} {l : List Nat} {p : Prop} (hp : ∀ w, HS s.hp w → p) (h : p → WpR Γ ops l s Q) : WpR Γ ops l s Q := fun a w hS => h (hp w hS.hs) a w hS
/-! ### a test -/
theorem wpc_cond {c : Operand} {x y : Code} (b : Bool) (hc : (match c with | .tmp t => look s.fr t | c => some (ev [] c)) = some (.bool b)) (ht : b = true → WpC Γ x s Q) (hf : b = false → WpC Γ y s Q) : WpC Γ (.cond c x y) s Q := fun a w hS => by
  have hev : a.eval c = .bool b := by
    cases c with
    | tmp t => exact hS.fr t _ hc
    | const v => exact Option.some.inj hc
    | global g => simp [ev] at hc
    | func f => simp [ev] at hc
  exact wp_cond_split hev (fun h => ht h a w hS) (fun h => hf h a w hS)
theorem wpc_true {c : Operand} {x y : Code} (hc : (match c with | .tmp t => look s.fr t | c => some (ev [] c)) = some (.bool true)) (h : WpC Γ x s Q) : WpC Γ (.cond c x y) s Q :=
  wpc_cond true hc (fun _ => h) (fun h => by cases h)
theorem wpc_false {c : Operand} {x y : Code} (hc : (match c with | .tmp t => look s.fr t | c => some (ev [] c)) = some (.bool false)) (h : WpC Γ y s Q) : WpC Γ (.cond c x y) s Q :=
  wpc_cond false hc (fun h => by cases h) (fun _ => h)
theorem Sat.setBool {a : Act} {w : World} (h : Sat Γ s a w) {d : Nat} {b c : Bool} (hd : look s.fr d = some (.bool b)) (hb : b = c) : Sat Γ ⟨(d, .bool c) :: s.fr, s.hp⟩ a w := by
  subst hb
  refine ⟨h.size, h.defers, fun i v hi => ?_, h.hs, h.ext, h.bd⟩
  simp only [look] at hi
  split at hi
  · rename_i e; subst e; rw [← Option.some.inj hi]; exact h.fr _ _ hd
  · exact h.fr _ _ hi
theorem ent_set {fr : Fr} {hp : Hp} (d : Nat) (v v' : Value) (hd : look fr d = some v) (h : v = v') : Ent Γ ⟨fr, hp⟩ ⟨(d, v') :: fr, hp⟩ := fun a w hS => by
  subst h
  refine ⟨hS.size, hS.defers, fun i u hi => ?_, hS.hs, hS.ext, hS.bd⟩
  simp only [look] at hi
  split at hi
  · rename_i e; subst e; rw [← Option.some.inj hi]; exact hS.fr _ _ hd
  · exact hS.fr _ _ hi
theorem wpa_ent {s' : St} {ops : Array Oper} {hs : Hp} {n : Nat} {li : Array Bool} (e : Ent Γ s s') (h : WpA Γ ops hs n li s' Q) : WpA Γ ops hs n li s Q := fun a w hS hL => h a w (e a w hS) hL
theorem wpc_join {c : Code} (s' : St) (h1 : ∀ Q', PanicOk Q' → Nx Γ s' Q' .normal → WpC Γ c s Q') [hQ : PanicOk Q] (h2 : Nx Γ s' Q .normal) : WpC Γ c s Q := h1 Q hQ h2
theorem wpr_run {ops : Array Oper} (md : Bool) (l₁ : List Nat) {l₂ : List Nat} (sc : List Nat) (fr' : Fr) (hp' : Hp) (vc : List Prop)
    (h1 : (sops Γ.P md ops Γ.nt l₁ s.fr s.hp none sc).isSome = true)
    (h2 : (sops Γ.P md ops Γ.nt l₁ s.fr s.hp none sc).map (fun r => (fr'.map (fun p => look r.fr p.1), r.hp, r.gs, r.vc)) = (sops Γ.P md ops Γ.nt l₁ s.fr s.hp none sc).map (fun r => (fr'.map (fun p => some p.2), hp', r.ws, vc)))
    (hv : AllP vc) (h : WpR Γ ops l₂ ⟨fr', hp'⟩ Q) : WpR Γ ops (l₁ ++ l₂) s Q := fun a w hS => by
  obtain ⟨r, hr⟩ := Option.isSome_iff_exists.1 h1
  rw [hr] at h2
  simp only [Option.map_some, Option.some.injEq, Prod.mk.injEq] at h2
  obtain ⟨h3, h4, h5, h6⟩ := h2
  refine sops_sound l₁ hr h5 (h6 ▸ hv) hS (fun m hm => by cases hm) fun a' w' hS' _ => ?_
  rw [h4] at hS'
  exact h a' w' (hS'.frames h3)
theorem wpr_new {ops : Array Oper} (md : Bool) (l₁ : List Nat) {l₂ : List Nat} (sc : List Nat) (fr' : Nat → Fr) (hp' : Nat → Hp) (vc : Nat → List Prop)
    (h1 : ∀ g, (sops Γ.P md ops Γ.nt l₁ s.fr s.hp (some g) sc).isSome = true)
    (h2 : ∀ g, (sops Γ.P md ops Γ.nt l₁ s.fr s.hp (some g) sc).map (fun r => ((fr' g).map (fun p => look r.fr p.1), r.hp, r.gs, r.vc)) = (sops Γ.P md ops Γ.nt l₁ s.fr s.hp (some g) sc).map (fun r => ((fr' g).map (fun p => some p.2), hp' g, r.ws, vc g)))
    (hv : ∀ g, AllP (vc g)) (h : ∀ g, WpR Γ ops l₂ ⟨fr' g, hp' g⟩ Q) : WpR Γ ops (l₁ ++ l₂) s Q := fun a w hS => by
  obtain ⟨r, hr⟩ := Option.isSome_iff_exists.1 (h1 w.heap.size)
  have h2 := h2 w.heap.size
  rw [hr] at h2
  simp only [Option.map_some, Option.some.injEq, Prod.mk.injEq] at h2
  obtain ⟨h3, h4, h5, h6⟩ := h2
  refine sops_sound l₁ hr h5 (h6 ▸ hv _) hS (fun m hm => by cases hm; rfl) fun a' w' hS' _ => ?_
  rw [h4] at hS'
  exact h _ a' w' (hS'.frames h3)
/-! ### handing a part of the heap over -/
structure Give (hp pre rest : Hp) : Prop where
  sat : ∀ w, HS hp w → HS pre w ∧ HS rest w ∧ ∀ c ∈ rest, ∀ d ∈ pre, d.rw → ∀ k, c.own k → ¬ d.own k
  foot : ∀ k, Sx.foot pre k → Sx.foot hp k
  sub : ∀ c ∈ rest, c ∈ hp
theorem HS.perm {hp hp' : Hp} {w : World} (h : HS hp w) (e : hp.Perm hp') : HS hp' w :=
  ⟨fun c hc => h.holds c (e.mem_iff.2 hc), (e.pairwise_iff (fun h => Apart.symm h)).1 h.apart⟩
theorem HS.split {hp hp' : Hp} {w : World} (h : HS (hp ++ hp') w) : HS hp w ∧ HS hp' w ∧ ∀ c ∈ hp, ∀ d ∈ hp', Apart c d := by
  obtain ⟨h1, h2⟩ := h
  rw [List.pairwise_append] at h2
  exact ⟨⟨fun c hc => h1 c (List.mem_append.2 (.inl hc)), h2.1⟩, ⟨fun c hc => h1 c (List.mem_append.2 (.inr hc)), h2.2.1⟩, h2.2.2⟩
theorem HS.join {hp hp' : Hp} {w : World} (h : HS hp w) (h' : HS hp' w) (ha : ∀ c ∈ hp, ∀ d ∈ hp', Apart c d) : HS (hp ++ hp') w :=
  ⟨fun c hc => (List.mem_append.1 hc).elim (h.holds c) (h'.holds c), List.pairwise_append.2 ⟨h.apart, h'.apart, ha⟩⟩
def picks : List Nat → Hp → Option (Hp × Hp)
  | [], hp => some ([], hp)
  | i :: is, hp => match hp[i]? with
    | none => none
    | some c => match picks is (hp.eraseIdx i) with
      | none => none
      | some (pre, rest) => some (c :: pre, rest)
theorem perm_erase {α : Type _} : ∀ (l : List α) (i : Nat) (h : i < l.length), l.Perm (l[i] :: l.eraseIdx i)
  | a :: l, 0, _ => List.Perm.refl _
  | a :: l, i + 1, h => ((perm_erase l i (by simpa using h)).cons a).trans (List.Perm.swap _ _ _)
theorem picks_perm (is : List Nat) : ∀ {hp pre rest : Hp}, picks is hp = some (pre, rest) → hp.Perm (pre ++ rest) := by
  induction is with
  | nil => intro hp pre rest h; simp only [picks, Option.some.injEq, Prod.mk.injEq] at h; obtain ⟨rfl, rfl⟩ := h; exact List.Perm.refl _
  | cons i is ih =>
    intro hp pre rest h
    simp only [picks] at h
    split at h
    · cases h
    · rename_i c hc
      split at h
      · cases h
      · rename_i pre' rest' h'
        simp only [Option.some.injEq, Prod.mk.injEq] at h
        obtain ⟨rfl, rfl⟩ := h
        obtain ⟨hlt, rfl⟩ := List.getElem?_eq_some_iff.1 hc
        exact (perm_erase _ _ hlt).trans ((ih h').cons _)
theorem Give.of_perm {hp pre rest : Hp} (e : hp.Perm (pre ++ rest)) : Give hp pre rest where
  sat := fun w h => by
    obtain ⟨h1, h2, h3⟩ := (h.perm e).split
    refine ⟨h1, h2, fun c hc d hd hr k hk hk' => ?_⟩
    rcases h3 d hd c hc with ⟨h4, _⟩ | h4
    · exact h4 hr
    · exact h4 k hk' hk
  foot := fun k ⟨c, hc, hr, hk⟩ => ⟨c, e.mem_iff.2 (List.mem_append.2 (.inl hc)), hr, hk⟩
  sub := fun c hc => e.mem_iff.2 (List.mem_append.2 (.inr hc))
theorem give {hp : Hp} (is : List Nat) {pre rest : Hp} (h : picks is hp = some (pre, rest)) : Give hp pre rest := .of_perm (picks_perm is h)
theorem give_all {hp : Hp} : Give hp hp [] := .of_perm (by simp)
structure View (c c' : Ch) : Prop where
  holds : ∀ w, c.holds w → c'.holds w
  own : ∀ w, c.holds w → ∀ k, c'.own k → c.own k
  ro : ¬ c'.rw
theorem Give.view {hp pre rest : Hp} (h : Give hp pre rest) (i : Nat) {c c' : Ch} (hc : rest[i]? = some c) (v : View c c') : Give hp (c' :: pre) rest where
  sat := fun w hw => by
    obtain ⟨h1, h2, h3⟩ := h.sat w hw
    have hm := List.mem_of_getElem? hc
    refine ⟨⟨fun d hd => ?_, List.pairwise_cons.2 ⟨fun d hd => ?_, h1.apart⟩⟩, h2, fun d hd e he hr k hk => ?_⟩
    · rcases List.mem_cons.1 hd with rfl | hd
      · exact v.holds w (h2.holds c hm)
      · exact h1.holds d hd
    · by_cases hr : d.rw
      · exact .inr fun k hk => h3 c hm d hd hr k (v.own w (h2.holds c hm) k hk)
      · exact .inl ⟨v.ro, hr⟩
    · rcases List.mem_cons.1 he with rfl | he
      · exact absurd hr v.ro
      · exact h3 d hd e he hr k hk
  foot := fun k ⟨d, hd, hr, hk⟩ => by
    rcases List.mem_cons.1 hd with rfl | hd
    · exact absurd hr v.ro
    · exact h.foot k ⟨d, hd, hr, hk⟩
  sub := h.sub
theorem Give.reorder {hp pre pre' rest : Hp} (g : Give hp pre rest) (is : List Nat) (h : picks is pre = some (pre', [])) : Give hp pre' rest where
  sat := fun w hw => by
    obtain ⟨h1, h2, h3⟩ := g.sat w hw
    have e := picks_perm is h
    rw [List.append_nil] at e
    exact ⟨h1.perm e, h2, fun c hc d hd => h3 c hc d (e.mem_iff.2 hd)⟩
  foot := fun k ⟨c, hc, hr, hk⟩ => by
    have e := picks_perm is h
    rw [List.append_nil] at e
    exact g.foot k ⟨c, e.mem_iff.2 hc, hr, hk⟩
  sub := g.sub
/-! ### calls -/
def Post (w : World) (pre : Hp) (R : Value → Hp → Prop) (e : Ending) (w' : World) : Prop :=
  ∃ v hp', R v hp' ∧ e = .returned v ∧ HS hp' w' ∧ Ext w w' (foot pre) ∧ Bd hp' (foot pre) w.heap.size ∧ ∀ c ∈ hp', c.rw
def Does (P : Program) (f : FuncId) (args : List Value) (pre : Hp) (R : Value → Hp → Prop) : Prop :=
  ∀ w, HS pre w → Calls P f args.toArray w (Post w pre R)
theorem Does.mono {P : Program} {f : FuncId} {args : List Value} {pre : Hp} {R R' : Value → Hp → Prop} (h : Does P f args pre R) (k : ∀ v hp', R v hp' → R' v hp') : Does P f args pre R' :=
  fun w hw => (h w hw).mono fun e w' ⟨v, hp', hR, r⟩ => ⟨v, hp', k _ _ hR, r⟩
theorem Sat.behind {a : Act} {w w' : World} {pre rest hp' : Hp} (hS : Sat Γ s a w) (g : Give s.hp pre rest) (hhs : HS hp' w') (he : Ext w w' (foot pre)) (hb : Bd hp' (foot pre) w.heap.size) (hr : ∀ c ∈ hp', c.rw) :
    HS (hp' ++ rest) w' ∧ Ext Γ.w0 w' Γ.F ∧ Bd (hp' ++ rest) Γ.F Γ.w0.heap.size := by
  obtain ⟨h1, h2, h3⟩ := g.sat w hS.hs
  have hkeep : ∀ c ∈ rest, ∀ k, c.own k → k < w.heap.size ∧ ¬ foot pre k := fun c hc k hk =>
    ⟨c.lt (h2.holds c hc) hk, fun ⟨d, hd, hdr, hdk⟩ => h3 c hc d hd hdr k hk hdk⟩
  have hrest : HS rest w' := ⟨fun c hc => c.loc (fun k hk => he.block k (hkeep c hc k hk).1 (hkeep c hc k hk).2) (h2.holds c hc), h2.apart⟩
  have hF : ∀ k, foot pre k → Γ.F k ∨ Γ.w0.heap.size ≤ k := fun k hk => by
    obtain ⟨c, hc, hcr, hck⟩ := g.foot k hk
    exact hS.bd c hc hcr k hck
  refine ⟨hhs.join hrest fun c hc d hd => .inr fun k hk hk' => ?_, hS.ext.trans he hF, ?_⟩
  · rcases hb c hc (hr c hc) k hk with h | h
    · exact (hkeep d hd k hk').2 h
    · have := (hkeep d hd k hk').1; omega
  · intro c hc hcr k hk
    rcases List.mem_append.1 hc with hc | hc
    · rcases hb c hc hcr k hk with h | h
      · exact hF k h
      · exact .inr (Nat.le_trans hS.ext.size h)
    · exact hS.bd c (g.sub c hc) hcr k hk
def callOf (P : Program) (ops : Array Oper) (nt : Nat) (i : Nat) (fr : Fr) : Option (FuncId × List Value × Option Nat) :=
  match ops[i]? with
  | none => none
  | some o =>
    match okDst nt o.dst, wants ops fr o, knownOp fr o with
    | true, some true, true => match sread P (execOp (ev fr) o) [] [] with
      | some (.enter f args, [], [], []) => some (f, args.toList, o.dst)
      | _ => none
    | _, _, _ => none
theorem callOf_sound {ops : Array Oper} {i : Nat} {f : FuncId} {args : List Value} {dst : Option Nat} (hc : callOf Γ.P ops Γ.nt i s.fr = some (f, args, dst))
    {pre rest : Hp} {R : Value → Hp → Prop} (hf : Does Γ.P f args pre R) (g : Give s.hp pre rest) {a : Act} {w : World} (hS : Sat Γ s a w) {K : Act → World → Prop}
    (hK : ∀ v hp', R v hp' → ∀ a' w', Sat Γ ⟨putFr s.fr dst v, hp' ++ rest⟩ a' w' → K a' w') : wpOp Γ.P ops Q i K a w := by
  unfold callOf at hc
  unfold wpOp
  split at hc
  · cases hc
  · rename_i o ho
    rw [ho]
    simp only
    split at hc
    · rename_i hd hw hk
      split at hc
      · rename_i f' args' hr
        simp only [Option.some.injEq, Prod.mk.injEq] at hc
        obtain ⟨rfl, rfl, rfl⟩ := hc
        rw [wants_ok hS.fr hw]
        simp only [if_true]
        refine .inl ?_
        unfold Oper.wp
        rw [ev_eq hS.fr hk, sread_sound _ _ _ _ _ _ _ hr rfl w (fun c hc => by cases hc)]
        refine Calls.mono (hf w (g.sat w hS.hs).1) ?_
        rintro e w' ⟨v, hp', hR, rfl, h1, h2, h3, h4⟩
        obtain ⟨k1, k2, k3⟩ := hS.behind g h1 h2 h3 h4
        exact hK v hp' hR _ _ ⟨(size_put _ _).trans hS.size, (defers_put _ _).trans hS.defers, FrOk.putFr hS.fr hS.size hd v, k1, k2, k3⟩
      · cases hc
    · cases hc
theorem wpr_call {ops : Array Oper} {i : Nat} {l₂ : List Nat} {f : FuncId} {args : List Value} {dst : Option Nat} (hc : callOf Γ.P ops Γ.nt i s.fr = some (f, args, dst))
    {pre rest : Hp} {R : Value → Hp → Prop} (hf : Does Γ.P f args pre R) (g : Give s.hp pre rest)
    (h : ∀ v hp', R v hp' → WpR Γ ops l₂ ⟨putFr s.fr dst v, hp' ++ rest⟩ Q) : WpR Γ ops (i :: l₂) s Q := fun a w hS => by
  rw [wpOps_cons]
  exact callOf_sound hc hf g hS fun v hp' hR a' w' hS' => h v hp' hR a' w' hS'
theorem wpr_call_all {ops : Array Oper} {i : Nat} {l₂ : List Nat} {f : FuncId} {args : List Value} {dst : Option Nat} (hc : callOf Γ.P ops Γ.nt i s.fr = some (f, args, dst))
    {pre : Hp} {R : Value → Hp → Prop} (hf : Does Γ.P f args pre R) (g : Give s.hp pre [])
    (h : ∀ v hp', R v hp' → WpR Γ ops l₂ ⟨putFr s.fr dst v, hp'⟩ Q) : WpR Γ ops (i :: l₂) s Q :=
  wpr_call hc hf g fun v hp' hR => by rw [List.append_nil]; exact h v hp' hR
/-! ### regions that draw their order -/
theorem Sat.drawn {a : Act} {w : World} (h : Sat Γ s a w) : Sat Γ s a { w with drawn := w.drawn + 1 } where
  size := h.size
  defers := h.defers
  fr := h.fr
  hs := ⟨fun c hc => c.loc (w := w) (fun _ _ => rfl) (h.hs.holds c hc), h.hs.apart⟩
  ext := ⟨h.ext.os, h.ext.tape, h.ext.output, h.ext.size, h.ext.block⟩
  bd := h.bd
def Sub (hs hp : Hp) : Prop := ∀ c ∈ hs, c ∈ hp
theorem sub_of {hs hp : Hp} (is : List Nat) (h : is.map (fun i => hp[i]?) = hs.map some) : Sub hs hp := fun c hc => by
  have h1 : some c ∈ hs.map some := List.mem_map.2 ⟨c, hc, rfl⟩
  rw [← h] at h1
  obtain ⟨i, _, hi⟩ := List.mem_map.1 h1
  exact List.mem_of_getElem? hi
theorem wpc_draw {id : Nat} {ops : Array Oper} (hm : Γ.P.follows .mixedOrders = true) (hs : Hp) (hsub : Sub hs s.hp) (n : Nat) (hn : ops.size = n) (h : WpA Γ ops hs n (Array.replicate n false) s Q) : WpC Γ (.region id ops true) s Q :=
  fun a w hS => wp_region_held hm (by rw [hn]; exact h a _ hS.drawn fun c hc => hS.drawn.hs.holds c (hsub c hc))
theorem wpa_done {ops : Array Oper} {hs : Hp} {listed : Array Bool} (n : Nat) (hr : Region.ready .any ops listed = []) (h : Nx Γ s Q .normal) : WpA Γ ops hs n listed s Q :=
  fun a w hS _ => wpAnyH_done hr (h a w hS) n
structure Qs where
  fr : Fr
  listed : Array Bool
  gs : List Nat
  ws : List Nat
  vc : List Prop
def stake (P : Program) (md : Bool) (ops : Array Oper) (nt : Nat) (hs : Hp) : List (Nat × List Nat) → Fr → Array Bool → Option Qs
  | [], fr, li => some ⟨fr, li, [], [], []⟩
  | (i, sc) :: l, fr, li =>
    match ops[i]? with
    | none => none
    | some o =>
      match okDst nt o.dst, (Region.ready .any ops li).contains i, Region.free .any ops li i with
      | true, true, true =>
        match wants ops fr o with
        | some false => stake P md ops nt hs l (putFr fr o.dst undef) (li.setIfInBounds i true)
        | some true =>
          match knownOp fr o with
          | false => none
          | true =>
            match special P md (ev fr) o.op with
            | some (v, ps) => match stake P md ops nt hs l (putFr fr o.dst v) (li.setIfInBounds i true) with
              | some q => some ⟨q.fr, q.listed, q.gs, q.ws, ps ++ q.vc⟩
              | none => none
            | none => match sread P (execOp (ev fr) o) sc hs with
              | some (.value v, gs, ws, _) => match stake P md ops nt hs l (putFr fr o.dst v) (li.setIfInBounds i true) with
                | some q => some ⟨q.fr, q.listed, gs ++ q.gs, ws ++ q.ws, q.vc⟩
                | none => none
              | _ => none
        | none => none
      | _, _, _ => none
theorem sread_len {α : Type} {P : Program} (s : Sem α) : ∀ (sc : List Nat) (hp : Hp) (x : α) (gs ws sc' : List Nat), sread P s sc hp = some (x, gs, ws, sc') → gs.length = ws.length := by
  induction s with
  | pure a => intro sc hp x gs ws sc' h; simp only [sread, Option.some.injEq, Prod.mk.injEq] at h; obtain ⟨_, rfl, rfl, _⟩ := h; rfl
  | load m a k ih =>
    intro sc hp x gs ws sc' h
    cases sc with
    | nil => simp [sread] at h
    | cons i sc =>
      simp only [sread] at h
      split at h <;> try cases h
      split at h <;> try cases h
      split at h <;> try cases h
      rename_i hr
      simpa using ih _ _ _ _ _ _ _ hr
  | shape r k ih =>
    intro sc hp x gs ws sc' h
    cases sc with
    | nil => simp [sread] at h
    | cons i sc =>
      simp only [sread] at h
      split at h <;> try cases h
      split at h <;> try cases h
      rename_i hr
      simpa using ih _ _ _ _ _ _ _ hr
  | frozen a k ih =>
    intro sc hp x gs ws sc' h
    cases sc with
    | nil => simp [sread] at h
    | cons i sc =>
      simp only [sread] at h
      split at h <;> try cases h
      split at h <;> try cases h
      split at h <;> try cases h
      rename_i hr
      simpa using ih _ _ _ _ _ _ _ hr
  | program k ih =>
    intro sc hp x gs ws sc' h
    have h' : sread P (k P) sc hp = some (x, gs, ws, sc') := by cases sc <;> exact h
    exact ih _ _ _ _ _ _ _ h'
  | mark m k ih =>
    intro sc hp x gs ws sc' h
    have h' : sread P k sc hp = some (x, gs, ws, sc') := by cases sc <;> exact h
    exact ih _ _ _ _ _ _ h'
  | store m a v k ih => intro sc hp x gs ws sc' h; cases sc <;> simp [sread] at h
  | new o k ih => intro sc hp x gs ws sc' h; cases sc <;> simp [sread] at h
  | freeze a n k ih => intro sc hp x gs ws sc' h; cases sc <;> simp [sread] at h
  | getObj r k ih => intro sc hp x gs ws sc' h; cases sc <;> simp [sread] at h
  | setObj r o k ih => intro sc hp x gs ws sc' h; cases sc <;> simp [sread] at h
  | choose q k ih => intro sc hp x gs ws sc' h; cases sc <;> simp [sread] at h
  | sys c k ih => intro sc hp x gs ws sc' h; cases sc <;> simp [sread] at h
  | halt h => intro sc hp x gs ws sc' h; cases sc <;> simp [sread] at h
theorem Sat.put {a : Act} {w : World} (h : Sat Γ s a w) {d : Option Nat} (hd : okDst Γ.nt d = true) (v : Value) : Sat Γ ⟨putFr s.fr d v, s.hp⟩ (a.put d v) w where
  size := (size_put d v).trans h.size
  defers := (defers_put d v).trans h.defers
  fr := FrOk.putFr h.fr h.size hd v
  hs := h.hs
  ext := h.ext
  bd := h.bd
theorem stake_sound [PanicOk Q] {md : Bool} {ops : Array Oper} {hs : Hp} (hns : Region.noSelect ops = true) (l : List (Nat × List Nat)) : ∀ {fr : Fr} {hp : Hp} {li : Array Bool} {q : Qs} {n : Nat},
    stake Γ.P md ops Γ.nt hs l fr li = some q → q.gs = q.ws → AllP q.vc → WpA Γ ops hs n q.listed ⟨q.fr, hp⟩ Q → WpA Γ ops hs (n + l.length) li ⟨fr, hp⟩ Q := by
  induction l with
  | nil =>
    intro fr hp li q n h _ _ hK
    simp only [stake, Option.some.injEq] at h
    subst h
    exact hK
  | cons p l ih =>
    obtain ⟨i, sc⟩ := p
    intro fr hp li q n h he hv hK a w hS hL
    simp only [stake] at h
    split at h
    · cases h
    · rename_i o ho
      split at h
      · rename_i hd hr hf
        have hQ : ∀ (v : Value) c (a : Act) w, Q (.panic c) (a.put o.dst v) w → Q (.panic c) a w := fun v c a w h => PanicOk.ok (Q := Q) c _ a w (defers_put _ _) h
        split at h
        · rename_i hw
          exact wpAnyH_take ho hns hf hr (hQ undef) (.inr ⟨wants_ok hS.fr hw, rfl⟩) hL (ih h he hv hK _ _ (hS.put hd undef) hL)
        · rename_i hw
          split at h
          · cases h
          · rename_i hk
            split at h
            · rename_i v ps hsp
              split at h
              · rename_i q1 h1
                simp only [Option.some.injEq] at h
                subst h
                obtain ⟨v1, v2⟩ := allP_append.1 hv
                exact wpAnyH_take ho hns hf hr (hQ v) (.inl ⟨wants_ok hS.fr hw, fun w' hw' => by rw [ev_eq hS.fr hk]; exact special_sound hsp v1 w'⟩) hL (ih h1 he v2 hK _ _ (hS.put hd v) hL)
              · cases h
            · split at h
              · rename_i v gs ws _ hrd
                split at h
                · rename_i q1 h1
                  simp only [Option.some.injEq] at h
                  subst h
                  obtain ⟨e1, e2⟩ := List.append_inj he (sread_len _ _ _ _ _ _ _ hrd)
                  exact wpAnyH_take ho hns hf hr (hQ v) (.inl ⟨wants_ok hS.fr hw, fun w' hw' => by rw [ev_eq hS.fr hk]; exact sread_sound _ _ _ _ _ _ _ hrd e1 w' hw'⟩) hL (ih h1 e2 hv hK _ _ (hS.put hd v) hL)
                · cases h
              · cases h
        · cases h
      · cases h
theorem wpa_take [PanicOk Q] {ops : Array Oper} {hs : Hp} {li : Array Bool} (md : Bool) (l : List (Nat × List Nat)) (fr' : Fr) (li' : Array Bool) (vc : List Prop) {n : Nat}
    (hns : Region.noSelect ops = true) (h1 : (stake Γ.P md ops Γ.nt hs l s.fr li).isSome = true)
    (h2 : (stake Γ.P md ops Γ.nt hs l s.fr li).map (fun r => (fr'.map (fun p => look r.fr p.1), r.listed, r.gs, r.vc)) = (stake Γ.P md ops Γ.nt hs l s.fr li).map (fun r => (fr'.map (fun p => some p.2), li', r.ws, vc)))
    (hv : AllP vc) (h : WpA Γ ops hs n li' ⟨fr', s.hp⟩ Q) : WpA Γ ops hs (n + l.length) li s Q := by
  obtain ⟨r, hr⟩ := Option.isSome_iff_exists.1 h1
  rw [hr] at h2
  simp only [Option.map_some, Option.some.injEq, Prod.mk.injEq] at h2
  obtain ⟨h3, h4, h5, h6⟩ := h2
  refine stake_sound hns l hr h5 (h6 ▸ hv) (fun a w hS hL => ?_)
  rw [h4]
  exact h a w (hS.frames h3) hL
theorem wpa_one {ops : Array Oper} {hs : Hp} {li : Array Bool} (md : Bool) (i : Nat) (sc : List Nat) (fr' : Fr) (hp' : Hp) (vc : List Prop) {n : Nat} (hr : Region.ready .any ops li = [i])
    (h1 : (sop Γ.P md ops Γ.nt i s.fr s.hp none sc).isSome = true)
    (h2 : (sop Γ.P md ops Γ.nt i s.fr s.hp none sc).map (fun r => (fr'.map (fun p => look r.fr p.1), r.hp, r.gs, r.vc)) = (sop Γ.P md ops Γ.nt i s.fr s.hp none sc).map (fun r => (fr'.map (fun p => some p.2), hp', r.ws, vc)))
    (hv : AllP vc) (hsub : Sub hs hp') (h : WpA Γ ops hs n (li.setIfInBounds i true) ⟨fr', hp'⟩ Q) : WpA Γ ops hs (n + 1) li s Q := fun a w hS hL => by
  obtain ⟨r, hrs⟩ := Option.isSome_iff_exists.1 h1
  rw [hrs] at h2
  simp only [Option.map_some, Option.some.injEq, Prod.mk.injEq] at h2
  obtain ⟨h3, h4, h5, h6⟩ := h2
  refine wpAnyH_all hr (by simp) fun j hj => ?_
  rw [List.mem_singleton.1 hj]
  refine sop_sound hrs h5 (h6 ▸ hv) hS (fun m hm => by cases hm) fun a' w' hS' _ => ?_
  rw [h4] at hS'
  have hL' : HL hs w' := fun c hc => hS'.hs.holds c (hsub c hc)
  exact ⟨hL', h a' w' (hS'.frames h3) hL'⟩
theorem wpa_new {ops : Array Oper} {hs : Hp} {li : Array Bool} (md : Bool) (i : Nat) (sc : List Nat) (fr' : Nat → Fr) (hp' : Nat → Hp) (vc : Nat → List Prop) {n : Nat} (hr : Region.ready .any ops li = [i])
    (h1 : ∀ g, (sop Γ.P md ops Γ.nt i s.fr s.hp (some g) sc).isSome = true)
    (h2 : ∀ g, (sop Γ.P md ops Γ.nt i s.fr s.hp (some g) sc).map (fun r => ((fr' g).map (fun p => look r.fr p.1), r.hp, r.gs, r.vc)) = (sop Γ.P md ops Γ.nt i s.fr s.hp (some g) sc).map (fun r => ((fr' g).map (fun p => some p.2), hp' g, r.ws, vc g)))
    (hv : ∀ g, AllP (vc g)) (hsub : ∀ g, Sub hs (hp' g)) (h : ∀ g, WpA Γ ops hs n (li.setIfInBounds i true) ⟨fr' g, hp' g⟩ Q) : WpA Γ ops hs (n + 1) li s Q := fun a w hS hL => by
  obtain ⟨r, hrs⟩ := Option.isSome_iff_exists.1 (h1 w.heap.size)
  have h2 := h2 w.heap.size
  rw [hrs] at h2
  simp only [Option.map_some, Option.some.injEq, Prod.mk.injEq] at h2
  obtain ⟨h3, h4, h5, h6⟩ := h2
  refine wpAnyH_all hr (by simp) fun j hj => ?_
  rw [List.mem_singleton.1 hj]
  refine sop_sound hrs h5 (h6 ▸ hv _) hS (fun m hm => by cases hm; rfl) fun a' w' hS' _ => ?_
  rw [h4] at hS'
  have hL' : HL hs w' := fun c hc => hS'.hs.holds c (hsub _ c hc)
  exact ⟨hL', h _ a' w' (hS'.frames h3) hL'⟩
theorem wpa_call {ops : Array Oper} {hs : Hp} {li : Array Bool} {i : Nat} {n : Nat} (hr : Region.ready .any ops li = [i]) {f : FuncId} {args : List Value} {dst : Option Nat} (hc : callOf Γ.P ops Γ.nt i s.fr = some (f, args, dst))
    {pre rest : Hp} {R : Value → Hp → Prop} (hf : Does Γ.P f args pre R) (g : Give s.hp pre rest) (hsub : Sub hs rest)
    (h : ∀ v hp', R v hp' → WpA Γ ops hs n (li.setIfInBounds i true) ⟨putFr s.fr dst v, hp' ++ rest⟩ Q) : WpA Γ ops hs (n + 1) li s Q := fun a w hS hL => by
  refine wpAnyH_all hr (by simp) fun j hj => ?_
  rw [List.mem_singleton.1 hj]
  refine callOf_sound hc hf g hS fun v hp' hR a' w' hS' => ?_
  have hL' : HL hs w' := fun c hc => hS'.hs.holds c (List.mem_append.2 (.inr (hsub c hc)))
  exact ⟨hL', h v hp' hR a' w' hS' hL'⟩
/-! ### a function's beginning and end -/
def enum : Nat → List Value → Fr
  | _, [] => []
  | i, v :: l => (i, v) :: enum (i + 1) l
theorem look_enum : ∀ (l : List Value) (k i : Nat) (v : Value), look (enum k l) i = some v → k ≤ i ∧ l[i - k]? = some v := by
  intro l
  induction l with
  | nil => intro k i v h; cases h
  | cons u l ih =>
    intro k i v h
    simp only [enum, look] at h
    split at h
    · rename_i e; subst e; exact ⟨Nat.le_refl _, by simpa using h⟩
    · rename_i e
      obtain ⟨h1, h2⟩ := ih (k + 1) i v h
      refine ⟨by omega, ?_⟩
      have : i - k = (i - (k + 1)) + 1 := by omega
      rw [this]; simpa using h2
theorem fn_enter {P : Program} {f : FuncId} {fn : Func} {c : Code} {args : List Value} {pre : Hp} {R : Value → Hp → Prop} (hf : P.funcs[f]? = some fn) (hb : fn.body = some c)
    (nt : Nat) (hnt : args.length + (fn.ntmps - args.length) = nt) (h : ∀ w0, HS pre w0 → WpC ⟨P, w0, foot pre, nt, []⟩ c ⟨enum 0 args, pre⟩ (bodyPost P fn (Post w0 pre R))) : Does P f args pre R := fun w hw => by
  refine calls_of_wp hf hb (h w hw _ w ⟨by simp [hnt], rfl, fun i v hi => ?_, hw, Ext.refl _ _, Bd.self _ _⟩)
  obtain ⟨_, h1⟩ := look_enum _ _ _ _ hi
  simp only [Nat.sub_zero] at h1
  obtain ⟨hlt, h2⟩ := List.getElem?_eq_some_iff.1 h1
  simp [Array.getD_eq_getD_getElem?, Array.getElem?_append, hlt, h2]
def resL (ρ : Nat → Value) : List ResultVar → Sem (List Value)
  | [] => pure []
  | .tmp t :: r => do let vs ← resL ρ r; pure (ρ t :: vs)
  | .cell a t :: r => do let v ← loadVar t (← asAddr (ρ a)); let vs ← resL ρ r; pure (v :: vs)
def oneOf : List Value → Value
  | [v] => v
  | l => .tuple l.toArray
def resV (ρ : Nat → Value) (l : List ResultVar) : Sem Value := do let vs ← resL ρ l; pure (oneOf vs)
theorem oneOf_eq (l : List Value) : (if h : l.toArray.size = 1 then l.toArray[0] else .tuple l.toArray) = oneOf l := by
  match l with
  | [] => rfl
  | [v] => rfl
  | a :: b :: r => simp [oneOf]
def resOne (tmps : Array Value) : ResultVar → Sem Value
  | .tmp t => pure (tmps.getD t undef)
  | .cell a t => do loadVar t (← asAddr (tmps.getD a undef))
theorem results_eq (fn : Func) (tmps : Array Value) : results fn tmps = resV (fun t => tmps.getD t undef) fn.results.toList := by
  have key : ∀ l : List ResultVar, (l.mapM (resOne tmps)) = resL (fun t => tmps.getD t undef) l := by
    intro l
    induction l with
    | nil => rfl
    | cons x l ih =>
      rw [List.mapM_cons, ih]
      cases x with
      | tmp t => simp [resL, resOne]
      | cell a t => simp [resL, resOne]
  have e : results fn tmps = (do let vs ← fn.results.mapM (resOne tmps); pure (if h : vs.size = 1 then vs[0] else .tuple vs)) := by
    unfold results
    congr 1
  rw [e]
  unfold resV
  obtain ⟨l, hl⟩ : ∃ l : List ResultVar, fn.results = l.toArray := ⟨fn.results.toList, by simp⟩
  rw [hl, List.mapM_toArray, key]
  have hf : (fun a : List Value => if h : a.length = 1 then a[0] else Value.tuple a.toArray) = oneOf := funext fun l => by simpa using oneOf_eq l
  simp [hf]
theorem resL_congr {ρ ρ' : Nat → Value} (l : List ResultVar) (h : ∀ x ∈ l, ρ (match x with | .tmp t => t | .cell a _ => a) = ρ' (match x with | .tmp t => t | .cell a _ => a)) : resL ρ l = resL ρ' l := by
  induction l with
  | nil => rfl
  | cons x l ih =>
    have h1 := h x (by simp)
    have h2 := ih fun y hy => h y (by simp [hy])
    cases x with
    | tmp t => simp only [resL, h2]; rw [show ρ t = ρ' t from h1]
    | cell a t => simp only [resL, h2]; rw [show ρ a = ρ' a from h1]
def knownRes (fr : Fr) (l : List ResultVar) : Bool := l.all fun x => (look fr (match x with | .tmp t => t | .cell a _ => a)).isSome
def resOf (P : Program) (fn : Func) (fr : Fr) (hp : Hp) (sc : List Nat) : Option (Value × List Nat × List Nat × List Nat) :=
  match knownRes fr fn.results.toList with
  | true => sread P (resV (fun t => (look fr t).getD undef) fn.results.toList) sc hp
  | false => none
theorem resOf_sound {fn : Func} {sc : List Nat} {v : Value} {gs ws sc' : List Nat} (h : resOf Γ.P fn s.fr s.hp sc = some (v, gs, ws, sc')) (he : gs = ws) {a : Act} {w : World} (hS : Sat Γ s a w) :
    (results fn a.tmps).run Γ.P w = .ok v w := by
  unfold resOf at h
  split at h
  · rename_i hk
    rw [results_eq]
    have : resV (fun t => a.tmps.getD t undef) fn.results.toList = resV (fun t => (look s.fr t).getD undef) fn.results.toList := by
      unfold resV
      rw [resL_congr]
      intro x hx
      have h1 := List.all_eq_true.1 hk x hx
      obtain ⟨u, hu⟩ := Option.isSome_iff_exists.1 h1
      rw [hu]
      exact hS.fr _ _ hu
    rw [this]
    exact sread_sound _ _ _ _ _ _ _ h he w hS.hs.holds
  · cases h
def AllRw : Hp → Prop
  | [] => True
  | c :: r => c.rw ∧ AllRw r
theorem allRw_mem {hp : Hp} (h : AllRw hp) : ∀ c ∈ hp, c.rw := by
  induction hp with
  | nil => intro c hc; cases hc
  | cons d r ih =>
    intro c hc
    rcases List.mem_cons.1 hc with rfl | hc
    · exact h.1
    · exact ih h.2 c hc
theorem nx_end {P : Program} {w0 : World} {pre : Hp} {nt : Nat} {fn : Func} {R : Value → Hp → Prop} (sc : List Nat) (v : Value)
    (h1 : (resOf P fn s.fr s.hp sc).isSome = true) (h2 : (resOf P fn s.fr s.hp sc).map (fun r => (r.1, r.2.1)) = (resOf P fn s.fr s.hp sc).map (fun r => (v, r.2.2.1)))
    {hp' rest : Hp} (g : Give s.hp hp' rest) (hrw : AllRw hp') (hR : R v hp') {e : Exit} (he : e = .normal ∨ e = .ret) : Nx ⟨P, w0, foot pre, nt, []⟩ s (bodyPost P fn (Post w0 pre R)) e := fun a w hS => by
  obtain ⟨r, hr⟩ := Option.isSome_iff_exists.1 h1
  rw [hr] at h2
  simp only [Option.map_some, Option.some.injEq, Prod.mk.injEq] at h2
  obtain ⟨h3, h4⟩ := h2
  have hres := resOf_sound (Γ := ⟨P, w0, foot pre, nt, []⟩) (s := s) (v := r.1) (gs := r.2.1) (ws := r.2.2.1) (sc' := r.2.2.2) hr h4 hS
  rw [h3] at hres
  have hP : Post w0 pre R (.returned v) w := ⟨v, hp', hR, rfl, (g.sat w hS.hs).1, hS.ext, fun c hc hcr k hk => by
    obtain ⟨d, hd, hdr, hdk⟩ := g.foot k ⟨c, hc, hcr, hk⟩
    exact hS.bd d hd hdr k hdk, allRw_mem hrw⟩
  rcases he with rfl | rfl
  · exact ⟨hS.defers, v, hres, hP⟩
  · exact ⟨hS.defers, v, hres, hP⟩
/-! ### loops -/
theorem wpc_loop {X : Type} {c : Code} (S : X → St) (μ : X → Nat) (x₀ : X) (h0 : Ent Γ s (S x₀))
    (h : ∀ x, WpC Γ c (S x) (Exit.then (fun a w => ∃ y, μ y < μ x ∧ Sat Γ (S y) a w) Q)) : WpC Γ (.loop c) s Q := fun a w hS => by
  refine wp_loop_ghost (fun n a w => ∃ x, μ x = n ∧ Sat Γ (S x) a w) (μ x₀) ⟨x₀, rfl, h0 a w hS⟩ ?_
  rintro n a w ⟨x, rfl, hx⟩
  refine wp_mono (h x a w hx) ?_
  intro e a' w' hq
  cases e with
  | normal => obtain ⟨y, h1, h2⟩ := hq; exact ⟨μ y, h1, y, rfl, h2⟩
  | _ => exact hq
end Go.Sx
namespace Go.Proofs.YtgcfomhlgipllaaGreatDoor
open Go
/-! Heights of instructions, plain: what is reached; when all is fine; two ways to reckon it. -/
structure Gr where
  n : Int
  ok : Int → Int → Bool
  nx : Int → List Int
  lf : Int → Int → Int
inductive Reach (g : Gr) : Int → Int → Prop
  | zero : Reach g 0 0
  | step {i h j : Int} : Reach g i h → j ∈ g.nx i → Reach g j (g.lf i h)
/-! ### a map, and a row of those that are not gone on from -/
def lk : List (Int × Int) → Int → Option Int
  | [], _ => none
  | p :: l, i => if i = p.1 then some p.2 else lk l i
structure InvX (g : Gr) (l : List (Int × Int)) (row : List Int) (x : Int → Prop) : Prop where
  reach : ∀ i h, lk l i = some h → Reach g i h
  rng : ∀ i h, lk l i = some h → 0 ≤ i ∧ i < g.n
  inr : ∀ i ∈ row, ∃ h, lk l i = some h
  closed : ∀ i h, lk l i = some h → i ∉ row → ¬ x i → g.ok i h = true ∧ ∀ j ∈ g.nx i, lk l j = some (g.lf i h)
  zero : lk l 0 = some 0
/-! ### a row of heights, gone through again and again -/
structure RInv (g : Gr) (l : List Int) : Prop where
  len : (l.length : Int) = g.n
  reach : ∀ k, (hk : k < l.length) → 0 ≤ l[k] → Reach g k l[k]
  neg : ∀ k, (hk : k < l.length) → ¬ 0 ≤ l[k] → l[k] = -1
  zero : l[0]? = some 0
end Go.Proofs.YtgcfomhlgipllaaGreatDoor
namespace Go.Sx
open Go
def cellsAt (w : World) (a : Addr) (xs : List Value) : Prop := ∀ j u, xs[j]? = some u → w.cell? (a.add j) = some u
def One (xs : List Value) : Prop := ∀ u ∈ xs, u.oneCell' = true
def rowH (T sz : Nat) (a : Option Addr) (n cap : Nat) (xs : List Value) (w : World) : Prop :=
  xs.length = n * sz ∧ n ≤ cap ∧ cap ≤ maxLen ∧ One xs ∧
    ((cap = 0 ∧ ∀ ad, a = some ad → ad.spot = none) ∨ ∃ g off cur fz, a = some ⟨g, off, none⟩ ∧ w.heap[g]? = some (.cells cur T fz) ∧ off + cap * sz ≤ cur.size ∧ (cur.toList.drop off).take (n * sz) = xs ∧ ∀ o, o < cur.size → ¬ (fz.1 ≤ o ∧ o < fz.2))
def rowOwn (a : Option Addr) (k : Nat) : Prop := ∃ ad, a = some ad ∧ ad.block = k
def rowQ (T sz : Nat) (a : Option Addr) (n cap : Nat) (xs : List Value) : Oq where
  own := fun k => 0 < cap ∧ rowOwn a k
  rw := True
  holds := rowH T sz a n cap xs
  loc := fun w w' hk ⟨h1, h2, h3, h4, h5⟩ => ⟨h1, h2, h3, h4, by
    rcases Nat.eq_zero_or_pos cap with hc | hc
    · refine .inl ⟨hc, fun ad had => ?_⟩
      rcases h5 with h | ⟨g, off, cur, fz, ha, _⟩
      · exact h.2 ad had
      · rw [ha] at had; cases had; rfl
    · rcases h5 with h | ⟨g, off, cur, fz, ha, hg, hr⟩
      · omega
      · exact .inr ⟨g, off, cur, fz, ha, (hk g ⟨hc, _, ha, rfl⟩).trans hg, hr⟩⟩
  lt := fun w k ⟨h1, h2, h3, h4, h5⟩ ⟨hp, ad, ha, hk⟩ => by
    rcases h5 with ⟨h, _⟩ | ⟨g, off, cur, fz, ha', hg, _⟩
    · omega
    · rw [ha'] at ha; cases ha; rw [← hk]; exact lt_of_get hg
def row (T sz : Nat) (a : Option Addr) (n cap : Nat) (xs : List Value) : Ch := .op (rowQ T sz a n cap xs)
def roH (a : Option Addr) (xs : List Value) (w : World) : Prop := One xs ∧ match a with | none => xs = [] | some ad => cellsAt w ad xs
def roQ (a : Option Addr) (xs : List Value) : Oq where
  own := fun k => rowOwn a k ∧ xs ≠ []
  rw := False
  holds := roH a xs
  loc := fun w w' hk ⟨h1, h2⟩ => ⟨h1, by
    cases a with
    | none => exact h2
    | some ad =>
      intro j u hu
      have hne : xs ≠ [] := by rintro rfl; simp at hu
      have hb : (ad.add j).block = ad.block := by unfold Addr.add; split <;> rfl
      rw [World.cell?_of_block (w := w) (hb ▸ hk ad.block ⟨⟨ad, rfl, rfl⟩, hne⟩)]
      exact h2 j u hu⟩
  lt := fun w k ⟨h1, h2⟩ ⟨⟨ad, ha, hk⟩, hne⟩ => by
    subst ha
    cases xs with
    | nil => exact absurd rfl hne
    | cons u r =>
      have h := h2 0 u rfl
      have e0 : ad.add 0 = ad := rfl
      rw [e0] at h
      rw [← hk]
      unfold World.cell? at h
      split at h
      · rename_i hg; exact lt_of_get hg
      · cases h
def ro (a : Option Addr) (xs : List Value) : Ch := .op (roQ a xs)
theorem row_cells {T sz : Nat} {g off : Nat} {n cap : Nat} {xs : List Value} {w : World} (h : rowH T sz (some ⟨g, off, none⟩) n cap xs w) : cellsAt w ⟨g, off, none⟩ xs := by
  obtain ⟨h1, h2, h3, h4, h5⟩ := h
  rcases h5 with ⟨h, _⟩ | ⟨g', off', cur, fz, ha, hg, hr, hx, hfz⟩
  · intro j u hu
    have hj := (List.getElem?_eq_some_iff.1 hu).1
    have hn : n = 0 := by omega
    subst hn
    rw [h1] at hj; simp at hj
  · cases ha
    intro j u hu
    have hj : j < n * sz := by rw [← h1]; exact (List.getElem?_eq_some_iff.1 hu).1
    rw [← hx, List.getElem?_take, if_pos hj, List.getElem?_drop] at hu
    have hadd : (⟨g, off, none⟩ : Addr).add j = ⟨g, off + j, none⟩ := by unfold Addr.add; split <;> simp_all
    rw [hadd]
    simp only [World.cell?, hg]
    simpa using hu
theorem view_row {T sz : Nat} {a : Option Addr} {n cap : Nat} {xs : List Value} : View (row T sz a n cap xs) (ro a xs) where
  holds := fun w h => by
    obtain ⟨h1, h2, h3, h4, h5⟩ := id h
    refine ⟨h4, ?_⟩
    rcases h5 with ⟨hc, _⟩ | ⟨g, off, cur, fz, rfl, _⟩
    · have hx : xs = [] := List.eq_nil_of_length_eq_zero (by rw [h1]; have : n = 0 := (by omega); subst this; simp)
      subst hx
      cases a with
      | none => rfl
      | some ad => intro j u hu; simp at hu
    · exact row_cells h
  own := fun w h k hk => by
    obtain ⟨h1, h2, h3, h4, h5⟩ := h
    refine ⟨?_, hk.1⟩
    rcases Nat.eq_zero_or_pos cap with hc | hc
    · have hn : n = 0 := by omega
      subst hn
      exact absurd (List.eq_nil_of_length_eq_zero (by rw [h1]; simp)) hk.2
    · exact hc
  ro := fun h => h
theorem view_ro {a : Option Addr} {xs : List Value} : View (ro a xs) (ro a xs) := ⟨fun _ h => h, fun _ _ _ h => h, fun h => h⟩
theorem view_blk {g T : Nat} {l : List Value} (off k : Nat) (h1 : One ((l.drop off).take k)) : View (.blk g T l) (ro (some ⟨g, off, none⟩) ((l.drop off).take k)) where
  holds := fun w h => ⟨h1, fun j u hu => by
    have hadd : (⟨g, off, none⟩ : Addr).add j = ⟨g, off + j, none⟩ := by unfold Addr.add; split <;> simp_all
    rw [hadd, cell_blk h _ rfl rfl]
    rw [List.getElem?_take] at hu
    split at hu
    · rwa [List.getElem?_drop] at hu
    · cases hu⟩
  own := fun _ _ k ⟨⟨ad, ha, hk⟩, _⟩ => by cases ha; exact hk.symm
  ro := fun h => h
/-! ### append -/
def srcOk (w : World) (sz : Nat) (x : Value) (m : Nat) (news : List Value) : Prop :=
  One news ∧ match x with
    | .slice (some ad) m' _ => m' = m ∧ news.length = m * sz ∧ cellsAt w ad news
    | .slice none m' _ => m' = 0 ∧ m = 0 ∧ news = []
    | .string s => m = s.size ∧ sz = 1 ∧ news = Lib.strCells s
    | _ => False
variable {P : Program}
theorem src_len {w : World} {sz : Nat} {x : Value} {m : Nat} {news : List Value} (h : srcOk w sz x m news) : news.length = m * sz := by
  obtain ⟨_, h⟩ := h
  split at h
  · exact h.2.1
  · rw [h.2.1, h.2.2]; simp
  · rw [h.1, h.2.1, h.2.2, Lib.strCells_length]; simp
  · exact h.elim
theorem src_lenOf {w : World} {sz : Nat} {x : Value} {m : Nat} {news : List Value} (h : srcOk w sz x m news) (w' : World) : (Builtin.lenOf x).run P w' = .ok m w' := by
  obtain ⟨_, h⟩ := h
  split at h
  · rw [h.1]; rfl
  · rw [h.1, h.2.1]; rfl
  · rw [h.1]; rfl
  · exact h.elim
theorem src_first {w w' : World} {sz : Nat} {x : Value} {m : Nat} {news : List Value} (h : srcOk w sz x m news) (hw : ∀ a, w'.cell? a = w.cell? a) : (Builtin.firstCells sz m x).run P w' = .ok news.toArray w' := by
  obtain ⟨_, h⟩ := h
  split at h
  · rename_i ad m' c
    exact run_firstCells_some (P := P) w' sz m ad m' c news h.2.1 (fun j v hv => by rw [hw]; exact h.2.2 j v hv)
  · rw [h.2.2]; rfl
  · rw [h.1, h.2.2]; exact Lib.run_firstCells_string w' sz _
  · exact h.elim
theorem append_fits {w : World} {t xt ty e : TypeId} {i : TypeInfo} {d : TypeDesc} (ht : P.underlying t = some (.slice e)) (hxt : P.underlying xt = some d) (hd : ∀ k, d ≠ .int k) (hi : P.info? e = some i)
    {g off n cap m : Nat} {x : Value} {news : List Value} (hs : srcOk w i.size x m news) (hf : n + m ≤ cap)
    (hc : ∀ j, j < news.length → (w.cell? ⟨g, off + n * i.size + j, none⟩).isSome = true) (hz : ∀ j, j < news.length → w.frozen? ⟨g, off + n * i.size + j, none⟩ = false) :
    (Builtin.append_ #[t, xt] ty #[.slice (some ⟨g, off, none⟩) n cap, x]).run P w = .ok (.slice (some ⟨g, off, none⟩) (n + m) cap) (w.setCells g (off + n * i.size) news) := by
  have hl := src_lenOf (P := P) hs w
  have hfc := src_first (P := P) hs (w' := w) (fun _ => rfl)
  have hst := run_storeCells_cells (P := P) g (off + n * i.size) news 0 w (by simpa using hc) (by simpa using hz) hs.1
  simp only [Nat.add_zero] at hst
  have hdm : (match d with | .int _ => true | _ => false) = false := by cases d <;> first | rfl | exact absurd rfl (hd _)
  simp [Builtin.append_, run_underlying ht, run_underlying hxt, hdm, sizeOf, typeInfo, hi, hl, hf, hfc, Addr.add_lit, hst]
theorem append_none {w : World} {t xt ty e : TypeId} {i : TypeInfo} {d : TypeDesc} (ht : P.underlying t = some (.slice e)) (hxt : P.underlying xt = some d) (hd : ∀ k, d ≠ .int k) (hi : P.info? e = some i)
    {x : Value} {news : List Value} (hs : srcOk w i.size x 0 news) :
    (Builtin.append_ #[t, xt] ty #[.slice none 0 0, x]).run P w = .ok (.slice none 0 0) w := by
  have hl := src_lenOf (P := P) hs w
  have hfc := src_first (P := P) hs (w' := w) (fun _ => rfl)
  have hn : news = [] := List.eq_nil_of_length_eq_zero (by simpa using src_len hs)
  have hdm : (match d with | .int _ => true | _ => false) = false := by cases d <;> first | rfl | exact absurd rfl (hd _)
  subst hn
  simp [Builtin.append_, run_underlying ht, run_underlying hxt, hdm, sizeOf, typeInfo, hi, hl, hfc]
theorem append_grows {w : World} {t xt ty e : TypeId} {i : TypeInfo} {z : Value} {d : TypeDesc} (ht : P.underlying t = some (.slice e)) (hxt : P.underlying xt = some d) (hd : ∀ k, d ≠ .int k) (hi : P.info? e = some i) (hz : i.zero = some z)
    {a : Option Addr} {n cap m : Nat} {olds : List Value} (hlo : olds.length = n * i.size) (holds : ∀ ad, a = some ad → cellsAt w ad olds) (hnone : a = none → olds = [])
    {x : Value} {news : List Value} (hs : srcOk w i.size x m news) (hf : cap < n + m) (h63 : n + m ≤ maxLen) (hb : (n + m) * i.bytes ≤ 140737488355328) :
    (Builtin.append_ #[t, xt] ty #[.slice a n cap, x]).run P w = .ok (.slice (some ⟨w.heap.size, 0, none⟩) (n + m) (grownCap w (n + m) cap e))
      (w.drew.alloc (.cells (olds.toArray ++ news.toArray ++ Builtin.zeroCells z.cells (grownCap w (n + m) cap e - (n + m))) e)) := by
  have hl := src_lenOf (P := P) hs w
  have hfc := src_first (P := P) hs (w' := w.drew) (fun _ => rfl)
  have hfo : (Builtin.firstCells i.size n (.slice a n cap)).run P w.drew = .ok olds.toArray w.drew := by
    cases a with
    | none => rw [hnone rfl]; rfl
    | some ad => exact run_firstCells_some (P := P) w.drew i.size n ad n cap olds hlo (fun j v hv => holds ad rfl j v hv)
  have hdm : (match d with | .int _ => true | _ => false) = false := by cases d <;> first | rfl | exact absurd rfl (hd _)
  have hn : ¬ (n + m ≤ cap) := by omega
  have h63a : n + m ≤ 9223372036854775807 := by simp only [maxLen] at h63; omega
  have h63' : ¬ (9223372036854775807 < ((n : Int) + (m : Int))) := by omega
  have hfit := growslice_fits hf hb
  have h48' : ¬ (281474976710656 < Builtin.nextslicecap (n + m) cap * i.bytes) := by omega
  simp [Builtin.append_, run_underlying ht, run_underlying hxt, hdm, sizeOf, typeInfo, zeroValue, hi, hz, hl, hn, h63', h48', Question.forced, hfc, hfo, newRow, grownCap]
  congr 2
  apply Array.ext'
  simp [List.append_assoc]
theorem HS.put {hp : Hp} {w w' : World} (h : HS hp w) {i : Nat} {c c' : Ch} (hi : hp[i]? = some c) (hc : c.rw) (hown : ∀ k, c'.own k → c.own k ∨ w.heap.size ≤ k) (hholds : c'.holds w')
    (hrest : ∀ k, ¬ c.own k → k < w.heap.size → w'.heap[k]? = w.heap[k]?) : HS (hp.set i c') w' := by
  obtain ⟨hi1, hi2⟩ := List.getElem?_eq_some_iff.1 hi
  have hap : ∀ j, j ≠ i → ∀ d, hp[j]? = some d → ∀ k, c.own k → ¬ d.own k := fun j hj d hd => by
    rcases pairwise_get h.apart (Ne.symm hj) hi hd with ⟨h1, _⟩ | h1
    · exact absurd hc h1
    · exact h1
  have hap' : ∀ j, j ≠ i → ∀ d, hp[j]? = some d → ∀ k, c'.own k → ¬ d.own k := fun j hj d hd k hk hdk => by
    rcases hown k hk with h1 | h1
    · exact hap j hj d hd k h1 hdk
    · have := d.lt (h.holds d (List.mem_of_getElem? hd)) hdk; omega
  constructor
  · intro d hd
    obtain ⟨j, hj1, hj⟩ := List.getElem_of_mem hd
    rw [List.getElem_set] at hj
    split at hj
    · subst hj; exact hholds
    · rename_i hne
      have hjl : j < hp.length := by simpa using hj1
      have hd' : hp[j]? = some d := by rw [List.getElem?_eq_getElem hjl, hj]
      have hdw := h.holds d (List.mem_of_getElem? hd')
      exact d.loc (fun k hk => hrest k (fun hck => hap j (fun e => hne e.symm) d hd' k hck hk) (d.lt hdw hk)) hdw
  · rw [List.pairwise_iff_getElem]
    intro x y hx hy hxy
    have hx' : x < hp.length := by simpa using hx
    have hy' : y < hp.length := by simpa using hy
    have hp' := List.pairwise_iff_getElem.1 h.apart x y hx' hy' hxy
    rw [List.getElem_set, List.getElem_set]
    by_cases hxi : i = x
    · subst hxi
      rw [if_pos rfl, if_neg (by omega)]
      exact .inr fun k hk => hap' y (by omega) _ (List.getElem?_eq_getElem hy') k hk
    · rw [if_neg hxi]
      by_cases hyi : i = y
      · subst hyi
        rw [if_pos rfl]
        exact .inr fun k hk hk' => hap' x (by omega) _ (List.getElem?_eq_getElem hx') k hk' hk
      · rw [if_neg hyi]; exact hp'
theorem Bd.put {hp : Hp} {w : World} {i : Nat} {c c' : Ch} (hi : hp[i]? = some c) (hc : c.rw) (hown : ∀ k, c'.own k → c.own k ∨ w.heap.size ≤ k) : Bd (hp.set i c') (foot hp) w.heap.size := fun d hd hr k hk => by
  rcases List.mem_or_eq_of_mem_set hd with hd | hd
  · exact .inl ⟨d, hd, hr, hk⟩
  · subst hd
    rcases hown k hk with h | h
    · exact .inl ⟨c, List.mem_of_getElem? hi, hc, h⟩
    · exact .inr h
def appOf (ops : Array Oper) (nt : Nat) (i : Nat) (fr : Fr) : Option (Value × Value × TypeId × TypeId × Option Nat) :=
  match ops[i]? with
  | none => none
  | some o =>
    match okDst nt o.dst, wants ops fr o, knownOp fr o, o.op with
    | true, some true, true, .call c =>
      match c.callee, c.args.toList, c.argTypes.toList with
      | .builtin .append, [s, x], [t, xt] => some (ev fr s, ev fr x, t, xt, o.dst)
      | _, _, _ => none
    | _, _, _, _ => none
def rowTy (P : Program) (t xt : TypeId) : Option (TypeId × Nat × Nat) :=
  match P.underlying t, P.underlying xt with
  | some (.slice e), some d =>
    match d with
    | .int _ => none
    | _ => match P.info? e with
      | some i => match i.zero with
        | some z => match z.cells.size == i.size, (0).blt i.size with | true, true => some (e, i.size, i.bytes) | _, _ => none
        | none => none
      | none => none
  | _, _ => none
theorem setCells_heap {g T : Nat} {fz : Nat × Nat} {news : List Value} : ∀ {k : Nat} {cur : Array Value} {w : World}, w.heap[g]? = some (.cells cur T fz) → k + news.length ≤ cur.size →
    (w.setCells g k news).heap[g]? = some (.cells (cur.toList.take k ++ news ++ cur.toList.drop (k + news.length)).toArray T fz) := by
  induction news with
  | nil => intro k cur w hg _; simpa [World.setCells] using hg
  | cons v r ih =>
    intro k cur w hg hk
    simp only [List.length_cons] at hk
    have h1 : (w.setCell ⟨g, k, none⟩ v).heap[g]? = some (.cells (cur.setIfInBounds k v) T fz) := by
      simp only [World.setCell, Array.getElem?_modify, hg]; simp
    have h2 := ih (k := k + 1) h1 (by simp; omega)
    rw [World.setCells, h2]
    congr 2
    apply Array.ext'
    have hk' : k < cur.toList.length := by simp; omega
    simp only [Array.toList_setIfInBounds, List.length_cons]
    have hd : (cur.toList.set k v).drop (k + 1 + r.length) = cur.toList.drop (k + (r.length + 1)) := by
      rw [List.drop_set_of_lt (by omega)]; congr 1; omega
    have ht : (cur.toList.set k v).take (k + 1) = cur.toList.take k ++ [v] := by
      rw [List.set_eq_take_append_cons_drop, if_pos hk', List.take_append, List.length_take, Nat.min_eq_left (by omega)]
      simp
      exact List.take_of_length_le (by simp; omega)
    rw [hd, ht]
    simp
theorem setCells_other {g : Nat} {news : List Value} : ∀ {k : Nat} {w : World} {b : Nat}, b ≠ g → (w.setCells g k news).heap[b]? = w.heap[b]? := by
  induction news with
  | nil => intro k w b _; rfl
  | cons v r ih =>
    intro k w b hb
    rw [World.setCells, ih hb]
    exact heap_set_ne _ _ hb
theorem setCells_size {g : Nat} {news : List Value} : ∀ {k : Nat} {w : World}, (w.setCells g k news).heap.size = w.heap.size ∧ (w.setCells g k news).os = w.os ∧ (w.setCells g k news).tape = w.tape ∧ (w.setCells g k news).output = w.output := by
  induction news with
  | nil => intro k w; exact ⟨rfl, rfl, rfl, rfl⟩
  | cons v r ih => intro k w; rw [World.setCells]; obtain ⟨h1, h2, h3, h4⟩ := ih (k := k + 1) (w := w.setCell ⟨g, k, none⟩ v); exact ⟨by rw [h1]; simp [World.setCell], h2, h3, h4⟩
variable {Γ : Cx} {Q : Exit → Act → World → Prop} {s : St}
theorem add_lit' (g off j : Nat) : (⟨g, off, none⟩ : Addr).add j = ⟨g, off + j, none⟩ := by unfold Addr.add; split <;> simp_all
theorem app_run {t xt ty e sz bytes : Nat} (ht : rowTy P t xt = some (e, sz, bytes)) {a : Option Addr} {n cap m : Nat} {xs news : List Value} {x : Value} {w : World}
    (hr : rowH e sz a n cap xs w) (hs : srcOk w sz x m news) (h63 : n + m ≤ maxLen) (hb : (n + m) * bytes ≤ 140737488355328) :
    ∃ a' cap' w', (Builtin.append_ #[t, xt] ty #[.slice a n cap, x]).run P w = .ok (.slice a' (n + m) cap') w' ∧ rowH e sz a' (n + m) cap' (xs ++ news) w' ∧
      (∀ k, 0 < cap' ∧ rowOwn a' k → (0 < cap ∧ rowOwn a k) ∨ w.heap.size ≤ k) ∧ (∀ k, ¬ (0 < cap ∧ rowOwn a k) → k < w.heap.size → w'.heap[k]? = w.heap[k]?) ∧ (a' = none ↔ a = none ∧ m = 0) ∧
      w'.os = w.os ∧ w'.tape = w.tape ∧ w'.output = w.output ∧ w.heap.size ≤ w'.heap.size ∧ (n + m ≤ cap → a' = a ∧ cap' = cap) := by
  unfold rowTy at ht
  split at ht
  case h_2 => cases ht
  case h_1 e' d hu hxu =>
    split at ht
    · cases ht
    · rename_i hd
      split at ht
      case h_2 => cases ht
      case h_1 i hi =>
        split at ht
        case h_2 => cases ht
        case h_1 z hz =>
          split at ht
          case h_2 => cases ht
          case h_1 hzs hsz =>
            simp only [Option.some.injEq, Prod.mk.injEq] at ht
            obtain ⟨rfl, rfl, rfl⟩ := ht
            have hd' : ∀ k, d ≠ .int k := fun k e => hd k e
            have hzs : z.cells.size = i.size := by simpa using hzs
            obtain ⟨h1, h2, h3, h4, h5⟩ := id hr
            have hnl := src_len hs
            have hlen : (xs ++ news).length = (n + m) * i.size := by rw [List.length_append, h1, hnl, Nat.add_mul]
            have hone : One (xs ++ news) := fun u hu => (List.mem_append.1 hu).elim (h4 u) (hs.1 u)
            have grown : cap < n + m → (∀ ad, a = some ad → cellsAt w ad xs) → (a = none → xs = []) → ∃ a' cap' w', (Builtin.append_ #[t, xt] ty #[.slice a n cap, x]).run P w = .ok (.slice a' (n + m) cap') w' ∧ rowH e' i.size a' (n + m) cap' (xs ++ news) w' ∧
                (∀ k, 0 < cap' ∧ rowOwn a' k → (0 < cap ∧ rowOwn a k) ∨ w.heap.size ≤ k) ∧ (∀ k, ¬ (0 < cap ∧ rowOwn a k) → k < w.heap.size → w'.heap[k]? = w.heap[k]?) ∧ (a' = none ↔ a = none ∧ m = 0) ∧
                w'.os = w.os ∧ w'.tape = w.tape ∧ w'.output = w.output ∧ w.heap.size ≤ w'.heap.size ∧ (n + m ≤ cap → a' = a ∧ cap' = cap) := by
              intro hg holds hnone
              have hrun := append_grows (P := P) (ty := ty) hu hxu hd' hi hz (a := a) (cap := cap) h1 holds hnone hs hg h63 hb
              have hge := grownCap_ge w (n + m) cap e'
              refine ⟨_, _, _, hrun, ⟨hlen, hge, grownCap_le_maxLen w (n + m) cap e' h63, hone, .inr ⟨w.heap.size, 0, _, (0, 0), rfl, Array.getElem?_push_size, ?_, ?_, fun o _ h => by simp at h⟩⟩, ?_, ?_, ?_, rfl, rfl, rfl, ?_⟩
              · simp only [Array.size_append, List.size_toArray, size_zeroCells, hzs, h1, hnl, Nat.zero_add]
                rw [← Nat.add_mul, ← Nat.add_mul]
                exact Nat.mul_le_mul_right _ (by omega)
              · simp only [Array.toList_append, List.append_assoc, List.drop_zero]
                rw [← List.append_assoc, ← hlen]
                exact List.take_left
              · rintro k ⟨_, ad, had, hk⟩; cases had; exact .inr (by rw [← hk]; exact Nat.le_refl _)
              · intro k _ hk; show (w.heap.push _)[k]? = _; rw [Array.getElem?_push, if_neg (by omega)]
              · constructor
                · intro h; cases h
                · rintro ⟨rfl, rfl⟩
                  omega
              · exact ⟨by show w.heap.size ≤ (w.heap.push _).size; simp, fun h => absurd h (by omega)⟩
            by_cases hc0 : cap = 0
            · have hsp : ∀ ad, a = some ad → ad.spot = none := by
                rcases h5 with h5 | ⟨g, off, cur, fz, rfl, _⟩
                · exact h5.2
                · intro ad had; cases had; rfl
              subst hc0
              have hn0 : n = 0 := by omega
              subst hn0
              have hx0 : xs = [] := List.eq_nil_of_length_eq_zero (by simpa using h1)
              subst hx0
              by_cases hm : m = 0
              · subst hm
                have hn' : news = [] := List.eq_nil_of_length_eq_zero (by simpa using hnl)
                subst hn'
                cases a with
                | none => exact ⟨none, 0, w, append_none (P := P) hu hxu hd' hi hs, by simpa using hr, fun k h => .inl h, fun _ _ _ => rfl, by simp, rfl, rfl, rfl, Nat.le_refl _, fun _ => ⟨rfl, rfl⟩⟩
                | some ad =>
                  obtain ⟨g, off, sp⟩ := ad
                  have hsp' := hsp _ rfl
                  simp only at hsp'
                  subst hsp'
                  exact ⟨some ⟨g, off, none⟩, 0, w, append_fits (P := P) hu hxu hd' hi (g := g) (off := off) hs (Nat.le_refl _) (fun j hj => absurd hj (by simp)) (fun j hj => absurd hj (by simp)), by simpa using hr, fun k h => .inl h, fun _ _ _ => rfl, by simp, rfl, rfl, rfl, Nat.le_refl _, fun _ => ⟨rfl, rfl⟩⟩
              · exact grown (by omega) (fun ad h j u hu => by simp at hu) (fun _ => rfl)
            rcases h5 with ⟨h, _⟩ | ⟨g, off, cur, fz, rfl, hg, hsz2, hx, hfz⟩
            · exact absurd h hc0
            · by_cases hroom : n + m ≤ cap
              · have hfit : off + n * i.size + news.length ≤ cur.size := by
                  have h6 : (n + m) * i.size ≤ cap * i.size := Nat.mul_le_mul_right _ hroom
                  rw [Nat.add_mul] at h6
                  rw [hnl]; omega
                have hrun := append_fits (P := P) (ty := ty) hu hxu hd' hi (g := g) (off := off) hs hroom
                  (fun j hj => by simp only [World.cell?, hg]; simp [show off + n * i.size + j < cur.size by omega])
                  (fun j hj => by
                    have h9 := hfz (off + n * i.size + j) (by omega)
                    simp only [World.frozen?, hg]
                    simp only [Bool.and_eq_false_iff, decide_eq_false_iff_not]
                    omega)
                have hset := setCells_heap (news := news) hg hfit
                have hs4 := setCells_size (g := g) (news := news) (k := off + n * i.size) (w := w)
                refine ⟨_, _, _, hrun, ⟨hlen, hroom, h3, hone, .inr ⟨g, off, _, fz, rfl, hset, ?_, ?_, ?_⟩⟩, fun k h => .inl h, ?_, by simp, hs4.2.1, hs4.2.2.1, hs4.2.2.2, by rw [hs4.1]; exact Nat.le_refl _, fun _ => ⟨rfl, rfl⟩⟩
                · simp only [List.size_toArray, List.length_append, List.length_take, List.length_drop, Array.length_toList]; omega
                · have e1 : (cur.toList.take (off + n * i.size)).drop off = xs := by rw [List.drop_take, Nat.add_sub_cancel_left]; exact hx
                  have e2 : (cur.toList.take (off + n * i.size) ++ news ++ cur.toList.drop (off + n * i.size + news.length)).drop off = xs ++ news ++ cur.toList.drop (off + n * i.size + news.length) := by
                    rw [List.append_assoc, List.drop_append_of_le_length (by simp; omega), e1, List.append_assoc]
                  simp only [e2]
                  rw [← hlen]
                  exact List.take_left
                · intro o ho
                  refine hfz o ?_
                  simp only [List.size_toArray, List.length_append, List.length_take, List.length_drop, Array.length_toList] at ho
                  omega
                · intro k hk _
                  exact setCells_other (fun e => hk ⟨by omega, _, rfl, e.symm⟩)
              · exact grown (by omega) (fun ad h => by cases h; exact row_cells hr) (fun h => by cases h)
theorem app_wpOp {ops : Array Oper} {i : Nat} {a : Option Addr} {n cap : Nat} {x : Value} {t xt : TypeId} {dst : Option Nat} (ho : appOf ops Γ.nt i s.fr = some (.slice a n cap, x, t, xt, dst))
    {e sz bytes : Nat} (ht : rowTy Γ.P t xt = some (e, sz, bytes)) (p : Nat) {xs : List Value} (hp : s.hp[p]? = some (row e sz a n cap xs)) {m : Nat} {news : List Value}
    (h63 : n + m ≤ maxLen) (hb : (n + m) * bytes ≤ 140737488355328) {b : Act} {w : World} (hS : Sat Γ s b w) (hsrc : srcOk w sz x m news) {K : Act → World → Prop}
    (hK : ∀ a' cap', (a' = none ↔ a = none ∧ m = 0) → (n + m ≤ cap → a' = a ∧ cap' = cap) → ∀ b' w', Sat Γ ⟨putFr s.fr dst (.slice a' (n + m) cap'), s.hp.set p (row e sz a' (n + m) cap' (xs ++ news))⟩ b' w' → K b' w') : wpOp Γ.P ops Q i K b w := by
  unfold appOf at ho
  unfold wpOp
  split at ho
  · cases ho
  · rename_i o hoi
    rw [hoi]
    simp only
    split at ho
    · rename_i c hd hw hk hop
      split at ho
      · rename_i s' x' t' xt' hcal hargs hts
        simp only [Option.some.injEq, Prod.mk.injEq] at ho
        obtain ⟨hes, hex, rfl, rfl, rfl⟩ := ho
        rw [wants_ok hS.fr hw]
        simp only [if_true]
        refine .inl ?_
        unfold Oper.wp
        rw [ev_eq hS.fr hk]
        have hrw := hS.hs.holds _ (List.mem_of_getElem? hp)
        obtain ⟨a', cap', w', hrun, h1, h2, h3, h4, h5, h6, h7, h8, h9⟩ := app_run (P := Γ.P) (ty := o.type) ht hrw hsrc h63 hb
        have e1 : c.args = #[s', x'] := by apply Array.ext'; simpa using hargs
        have e2 : c.argTypes = #[t', xt'] := by apply Array.ext'; simpa using hts
        have hx : (execOp (ev s.fr) o).run Γ.P w = .ok (.value (.slice a' (n + m) cap')) w' := by
          simp only [execOp, hop, resolve, hcal, e1, e2, invoke, builtin, Sem.run_bind, Sem.run_pure, Result.andThen_ok, List.map_toArray, List.map_cons, List.map_nil, hes, hex, hrun]
        rw [hx]
        have hext : Ext w w' (foot s.hp) := ⟨h5, h6, h7, h8, fun k hk hf => h3 k (fun ho => hf ⟨_, List.mem_of_getElem? hp, trivial, ho⟩) hk⟩
        exact hK a' cap' h4 h9 _ _ (hS.step hd (hS.hs.put (c' := row e sz a' (n + m) cap' (xs ++ news)) hp trivial h2 h1 h3) hext (Bd.put (c' := row e sz a' (n + m) cap' (xs ++ news)) hp trivial h2))
      · cases ho
    · cases ho
theorem wpr_app {ops : Array Oper} {i : Nat} {l₂ : List Nat} {a : Option Addr} {n cap : Nat} {x : Value} {t xt : TypeId} {dst : Option Nat} (ho : appOf ops Γ.nt i s.fr = some (.slice a n cap, x, t, xt, dst))
    {e sz bytes : Nat} (ht : rowTy Γ.P t xt = some (e, sz, bytes)) (p : Nat) {xs : List Value} (hp : s.hp[p]? = some (row e sz a n cap xs)) {m : Nat} {news : List Value} (hsrc : ∀ w, HS s.hp w → srcOk w sz x m news)
    (h63 : n + m ≤ maxLen) (hb : (n + m) * bytes ≤ 140737488355328)
    (h : ∀ a' cap', (a' = none ↔ a = none ∧ m = 0) → WpR Γ ops l₂ ⟨putFr s.fr dst (.slice a' (n + m) cap'), s.hp.set p (row e sz a' (n + m) cap' (xs ++ news))⟩ Q) : WpR Γ ops (i :: l₂) s Q := fun b w hS => by
  rw [wpOps_cons]
  exact app_wpOp ho ht p hp h63 hb hS (hsrc w hS.hs) fun a' cap' hn _ b' w' hS' => h a' cap' hn b' w' hS'
theorem wpa_app {ops : Array Oper} {hs : Hp} {li : Array Bool} {i : Nat} {nf : Nat} (hr : Region.ready .any ops li = [i]) {a : Option Addr} {n cap : Nat} {x : Value} {t xt : TypeId} {dst : Option Nat} (ho : appOf ops Γ.nt i s.fr = some (.slice a n cap, x, t, xt, dst))
    {e sz bytes : Nat} (ht : rowTy Γ.P t xt = some (e, sz, bytes)) (p : Nat) {xs : List Value} (hp : s.hp[p]? = some (row e sz a n cap xs)) {m : Nat} {news : List Value} (hsrc : ∀ w, HS s.hp w → srcOk w sz x m news)
    (h63 : n + m ≤ maxLen) (hb : (n + m) * bytes ≤ 140737488355328) (is : List Nat) (hsub : is.map (fun i => (s.hp.eraseIdx p)[i]?) = hs.map some)
    (h : ∀ a' cap', (a' = none ↔ a = none ∧ m = 0) → WpA Γ ops hs nf (li.setIfInBounds i true) ⟨putFr s.fr dst (.slice a' (n + m) cap'), s.hp.set p (row e sz a' (n + m) cap' (xs ++ news))⟩ Q) : WpA Γ ops hs (nf + 1) li s Q := fun b w hS hL => by
  refine wpAnyH_all hr (by simp) fun j hj => ?_
  rw [List.mem_singleton.1 hj]
  refine app_wpOp ho ht p hp h63 hb hS (hsrc w hS.hs) fun a' cap' hn _ b' w' hS' => ?_
  have hL' : HL hs w' := fun c hc => hS'.hs.holds c (by
    have h1 := sub_of is hsub c hc
    obtain ⟨k, hk⟩ := List.getElem?_of_mem h1
    rw [List.getElem?_eraseIdx] at hk
    split at hk
    · rename_i hlt
      refine List.mem_of_getElem? (i := k) ?_
      rw [List.getElem?_set, if_neg (by omega)]; exact hk
    · rename_i hlt
      refine List.mem_of_getElem? (i := k + 1) ?_
      rw [List.getElem?_set, if_neg (by omega)]; exact hk)
  exact ⟨hL', h a' cap' hn b' w' hS' hL'⟩
/-! ### where what is appended lies -/
theorem src_ro {hp : Hp} {w : World} (h : HS hp w) (i : Nat) {a : Option Addr} {xs : List Value} (hi : hp[i]? = some (ro a xs)) {sz m c : Nat} (hl : xs.length = m * sz) (hm : a = none → m = 0) : srcOk w sz (.slice a m c) m xs := by
  obtain ⟨h1, h2⟩ := h.holds _ (List.mem_of_getElem? hi)
  refine ⟨h1, ?_⟩
  cases a with
  | none => have := hm rfl; subst this; exact ⟨rfl, rfl, h2⟩
  | some ad => exact ⟨rfl, hl, h2⟩
theorem src_str {w : World} (s : ByteArray) : srcOk w 1 (.string s) s.size (Lib.strCells s) := ⟨Lib.strCells_oneCell s, rfl, rfl, rfl⟩
/-! ### other words for a heap -/
theorem ent_nila {fr : Fr} {hp : Hp} (T sz : Nat) (ad : Option Addr) (had : ∀ x, ad = some x → x.spot = none) : Ent Γ ⟨fr, hp⟩ ⟨fr, row T sz ad 0 0 [] :: hp⟩ := fun a w h => by
  refine ⟨h.size, h.defers, h.fr, ⟨fun c hc => ?_, List.pairwise_cons.2 ⟨fun d hd => .inr fun k hk => ?_, h.hs.apart⟩⟩, h.ext, fun c hc hr k hk => ?_⟩
  · rcases List.mem_cons.1 hc with rfl | hc
    · exact ⟨by simp, Nat.le_refl _, Nat.zero_le _, fun u hu => (by cases hu), .inl ⟨rfl, had⟩⟩
    · exact h.hs.holds c hc
  · exact absurd hk.1 (by decide)
  · rcases List.mem_cons.1 hc with rfl | hc
    · exact absurd hk.1 (by decide)
    · exact h.bd c hc hr k hk
theorem ent_nil {fr : Fr} {hp : Hp} (T sz : Nat) : Ent Γ ⟨fr, hp⟩ ⟨fr, row T sz none 0 0 [] :: hp⟩ := ent_nila T sz none (fun x h => by cases h)
structure Turn (c c' : Ch) : Prop where
  holds : ∀ w, c.holds w → c'.holds w
  own : ∀ w, c.holds w → ∀ k, c'.own k → c.own k
  rw : c'.rw → c.rw
theorem HS.turn {hp : Hp} {w : World} (h : HS hp w) {i : Nat} {c c' : Ch} (hi : hp[i]? = some c) (t : Turn c c') : HS (hp.set i c') w := by
  obtain ⟨hi1, hi2⟩ := List.getElem?_eq_some_iff.1 hi
  have key : ∀ j d, j ≠ i → hp[j]? = some d → Apart c' d := fun j d hj hd => by
    rcases pairwise_get h.apart (Ne.symm hj) hi hd with ⟨h1, h2⟩ | h1
    · exact .inl ⟨fun r => h1 (t.rw r), h2⟩
    · exact .inr fun k hk => h1 k (t.own w (h.holds _ (List.mem_of_getElem? hi)) k hk)
  constructor
  · intro d hd
    rcases List.mem_or_eq_of_mem_set hd with hd | rfl
    · exact h.holds d hd
    · exact t.holds w (h.holds _ (List.mem_of_getElem? hi))
  · rw [List.pairwise_iff_getElem]
    intro x y hx hy hxy
    have hx' : x < hp.length := by simpa using hx
    have hy' : y < hp.length := by simpa using hy
    rw [List.getElem_set, List.getElem_set]
    by_cases hxi : i = x
    · subst hxi
      rw [if_pos rfl, if_neg (by omega)]
      exact key y _ (by omega) (List.getElem?_eq_getElem hy')
    · rw [if_neg hxi]
      by_cases hyi : i = y
      · subst hyi
        rw [if_pos rfl]
        exact (key x _ (by omega) (List.getElem?_eq_getElem hx')).symm
      · rw [if_neg hyi]; exact List.pairwise_iff_getElem.1 h.apart x y hx' hy' hxy
theorem ent_turn {fr : Fr} {hp hp' : Hp} (i : Nat) {c : Ch} (c' : Ch) (hi : hp[i]? = some c) (t : Turn c c') (he : hp.set i c' = hp') : Ent Γ ⟨fr, hp⟩ ⟨fr, hp'⟩ := fun a w h => by
  subst he
  refine ⟨h.size, h.defers, h.fr, h.hs.turn hi t, h.ext, fun d hd hr k hk => ?_⟩
  rcases List.mem_or_eq_of_mem_set hd with hd | rfl
  · exact h.bd d hd hr k hk
  · exact h.bd c (List.mem_of_getElem? hi) (t.rw hr) k (t.own w (h.hs.holds _ (List.mem_of_getElem? hi)) k hk)
theorem ent_hp {fr : Fr} {hp hp' rest : Hp} (is : List Nat) (h : picks is hp = some (hp', rest)) : Ent Γ ⟨fr, hp⟩ ⟨fr, hp'⟩ := fun a w hS =>
  ⟨hS.size, hS.defers, hS.fr, ((give is h).sat w hS.hs).1, hS.ext, fun c hc hr k hk => by
    obtain ⟨d, hd, hdr, hdk⟩ := (give is h).foot k ⟨c, hc, hr, hk⟩
    exact hS.bd d hd hdr k hdk⟩
theorem turn_row {T sz n cap n' cap' : Nat} {a : Option Addr} {xs xs' : List Value} (hn : n' ≤ cap') (hc : cap' ≤ cap) (hx : ∀ w, rowH T sz a n cap xs w → xs'.length = n' * sz ∧ One xs' ∧ (∀ g off cur fz, a = some ⟨g, off, none⟩ → w.heap[g]? = some (.cells cur T fz) → off + cap * sz ≤ cur.size → (cur.toList.drop off).take (n * sz) = xs → (cur.toList.drop off).take (n' * sz) = xs')) : Turn (row T sz a n cap xs) (row T sz a n' cap' xs') where
  holds := fun w h => by
    obtain ⟨k1, k2, k3⟩ := hx w h
    obtain ⟨h1, h2, h3, h4, h5⟩ := h
    refine ⟨k1, hn, by omega, k2, ?_⟩
    rcases h5 with ⟨h5, h6⟩ | ⟨g, off, cur, fz, rfl, hg, hs, hx, hfz⟩
    · exact .inl ⟨by omega, h6⟩
    · refine .inr ⟨g, off, cur, fz, rfl, hg, ?_, k3 g off cur fz rfl hg hs hx, hfz⟩
      have : cap' * sz ≤ cap * sz := Nat.mul_le_mul_right _ hc
      omega
  own := fun _ _ k h => ⟨by have := h.1; omega, h.2⟩
  rw := fun h => h
theorem turn_cut {T sz n cap : Nat} {a : Option Addr} {xs : List Value} (n' cap' : Nat) (h1 : n' ≤ n) (h2 : n' ≤ cap') (h3 : cap' ≤ cap) : Turn (row T sz a n cap xs) (row T sz a n' cap' (xs.take (n' * sz))) :=
  turn_row h2 h3 fun w ⟨k1, k2, k3, k4, k5⟩ => ⟨by rw [List.length_take, k1]; exact Nat.min_eq_left (Nat.mul_le_mul_right _ h1), fun u hu => k4 u (List.mem_of_mem_take hu), fun g off cur fz ha hg hs hx => by
    rw [← hx, List.take_take]; congr 1; exact (Nat.min_eq_left (Nat.mul_le_mul_right _ h1)).symm⟩
theorem turn_blk {g T sz n : Nat} {l : List Value} (hl : l.length = n * sz) (h1 : One l) (hn : n ≤ maxLen) : Turn (.blk g T l) (row T sz (some ⟨g, 0, none⟩) n n l) where
  holds := fun w ⟨fz, h, hf⟩ => ⟨hl, Nat.le_refl _, hn, h1, .inr ⟨g, 0, l.toArray, fz, rfl, h, by simp [hl], by simp [← hl], fun o ho h => by unfold FzOk at hf; simp at ho; omega⟩⟩
  own := fun _ _ k ⟨_, ad, ha, hk⟩ => by cases ha; exact hk.symm
  rw := fun _ => trivial
end Go.Sx
namespace Go.Sx
open Go
variable {P : Program} {Γ : Cx} {Q : Exit → Act → World → Prop} {s : St}
def Step (Γ : Cx) (ops : Array Oper) (i : Nat) (s : St) (Φ : St → Prop) : Prop :=
  ∀ (Q : Exit → Act → World → Prop) b w, Sat Γ s b w → ∀ K : Act → World → Prop, (∀ s', Φ s' → ∀ b' w', Sat Γ s' b' w' → K b' w') → wpOp Γ.P ops Q i K b w
theorem wpr_step {ops : Array Oper} {i : Nat} {l₂ : List Nat} {Φ : St → Prop} (st : Step Γ ops i s Φ) (h : ∀ s', Φ s' → WpR Γ ops l₂ s' Q) : WpR Γ ops (i :: l₂) s Q := fun b w hS => by
  rw [wpOps_cons]
  exact st Q b w hS _ fun s' hs' b' w' hS' => h s' hs' b' w' hS'
theorem wpa_step {ops : Array Oper} {hs : Hp} {li : Array Bool} {i n : Nat} {Φ : St → Prop} (hr : Region.ready .any ops li = [i]) (st : Step Γ ops i s Φ) (hsub : ∀ s', Φ s' → Sub hs s'.hp)
    (h : ∀ s', Φ s' → WpA Γ ops hs n (li.setIfInBounds i true) s' Q) : WpA Γ ops hs (n + 1) li s Q := fun b w hS hL => by
  refine wpAnyH_all hr (by simp) fun j hj => ?_
  rw [List.mem_singleton.1 hj]
  refine st Q b w hS _ fun s' hs' b' w' hS' => ?_
  have hL' : HL hs w' := fun c hc => hS'.hs.holds c (hsub s' hs' c hc)
  exact ⟨hL', h s' hs' b' w' hS' hL'⟩
def opAt (ops : Array Oper) (nt : Nat) (i : Nat) (fr : Fr) : Option Oper :=
  match ops[i]? with
  | none => none
  | some o => match okDst nt o.dst, wants ops fr o, knownOp fr o with
    | true, some true, true => some o
    | _, _, _ => none
theorem step_sem {ops : Array Oper} {i : Nat} {o : Oper} (ho : opAt ops Γ.nt i s.fr = some o) (φ : Value → Hp → Prop)
    (hrun : ∀ w, HS s.hp w → ∃ nx v hp' w', (execOp (ev s.fr) o).run Γ.P w = .ok nx w' ∧ (nx = .value v ∨ (nx = .skip ∧ v = undef)) ∧ φ v hp' ∧ HS hp' w' ∧ Ext w w' (foot s.hp) ∧ Bd hp' (foot s.hp) w.heap.size) :
    Step Γ ops i s (fun s' => ∃ v hp', φ v hp' ∧ s' = ⟨putFr s.fr o.dst v, hp'⟩) := fun Q b w hS K hK => by
  unfold opAt at ho
  unfold wpOp
  split at ho
  · cases ho
  · rename_i o' hoi
    rw [hoi]
    simp only
    split at ho
    · rename_i hd hw hk
      simp only [Option.some.injEq] at ho
      subst ho
      rw [wants_ok hS.fr hw]
      simp only [if_true]
      refine .inl ?_
      unfold Oper.wp
      rw [ev_eq hS.fr hk]
      obtain ⟨nx, v, hp', w', h1, h2, h3, h4, h5, h6⟩ := hrun w hS.hs
      rw [h1]
      rcases h2 with rfl | ⟨rfl, rfl⟩
      · exact hK _ ⟨v, hp', h3, rfl⟩ _ _ (hS.step hd h4 h5 h6)
      · exact hK _ ⟨undef, hp', h3, rfl⟩ _ _ (hS.step hd h4 h5 h6)
    · cases ho
/-! ### a variable read out of known cells -/
def aggTy (P : Program) (t : TypeId) : Option (Bool × Nat) :=
  match P.underlying t, P.info? t with
  | some d, some i => some ((match d with | .struct _ | .array _ _ => true | _ => false), i.size)
  | _, _ => none
def valOf (b : Bool) (vs : List Value) : Value := match b with | true => .agg vs.toArray | false => vs.headD undef
theorem run_loadVar' {w : World} {t : TypeId} {b : Bool} {k : Nat} (ht : aggTy P t = some (b, k)) {a : Addr} {vs : List Value} (hv : vs.length = k) (hb : b = false → k = 1) (hc : cellsAt w a vs) : (loadVar t a).run P w = .ok (valOf b vs) w := by
  unfold aggTy at ht
  split at ht
  case h_2 => cases ht
  case h_1 d i hd hi =>
    simp only [Option.some.injEq, Prod.mk.injEq] at ht
    obtain ⟨h1, rfl⟩ := ht
    have hag : (isAgg t).run P w = .ok b w := by
      rw [← h1]
      unfold isAgg
      simp only [Sem.run_bind, run_underlying hd, Result.andThen_ok]
      cases d <;> rfl
    unfold loadVar
    rw [Sem.run_bind, hag, Result.andThen_ok]
    cases b with
    | true =>
      have hl := run_loadCells_list (P := P) w a vs hc
      rw [hv] at hl
      simp only [if_true, Sem.run_bind, sizeOf, typeInfo, run_program, Result.andThen_ok, hi, Sem.run_pure, hl, valOf]
    | false =>
      have h2 := hb rfl
      match vs, hv.trans h2 with
      | [v], _ =>
        have h3 := hc 0 v rfl
        have e0 : a.add 0 = a := rfl
        rw [e0] at h3
        simp only [Bool.false_eq_true, if_false, load, run_load_some h3, valOf, List.headD_cons]
        rfl
theorem step_load {ops : Array Oper} {i : Nat} {o : Oper} (ho : opAt ops Γ.nt i s.fr = some o) (t : TypeId) (p : Operand) (hop : o.op = .load t p) (a : Addr) (hp : ev s.fr p = .pointer (some a)) (b : Bool) (k : Nat) (ht : aggTy Γ.P t = some (b, k)) (hb : b = false → k = 1)
    (vs : List Value) (hv : vs.length = k) (hc : ∀ w, HS s.hp w → cellsAt w a vs) :
    Step Γ ops i s (fun s' => s' = ⟨putFr s.fr o.dst (valOf b vs), s.hp⟩) := fun Q b' w hS K hK =>
  step_sem ho (fun v hp' => v = valOf b vs ∧ hp' = s.hp) (fun w hw => ⟨_, _, _, w, by
    simp only [execOp, hop, hp, Instr.loadAt, Instr.sureAddr, Sem.run_bind, Sem.run_pure, Result.andThen_ok, run_loadVar' ht hv hb (hc w hw)], .inl rfl, ⟨rfl, rfl⟩, hw, Ext.refl _ _, Bd.self _ _⟩) Q b' w hS K
    (fun s' ⟨v, hp', ⟨h1, h2⟩, h3⟩ => hK s' (by rw [h3, h1, h2]))
theorem cells_row {hp : Hp} {w : World} (h : HS hp w) (i : Nat) {T sz n cap g off : Nat} {xs : List Value} (hi : hp[i]? = some (row T sz (some ⟨g, off, none⟩) n cap xs)) (q k : Nat) : cellsAt w ⟨g, off + q, none⟩ ((xs.drop q).take k) := fun j u hu => by
  have h1 := row_cells (h.holds _ (List.mem_of_getElem? hi))
  rw [List.getElem?_take] at hu
  split at hu
  · rw [List.getElem?_drop] at hu
    rw [add_lit', Nat.add_assoc, ← add_lit']; exact h1 _ _ hu
  · cases hu
theorem cells_ro {hp : Hp} {w : World} (h : HS hp w) (i : Nat) {g off : Nat} {xs : List Value} (hi : hp[i]? = some (ro (some ⟨g, off, none⟩) xs)) (q k : Nat) : cellsAt w ⟨g, off + q, none⟩ ((xs.drop q).take k) := fun j u hu => by
  have h1 := (h.holds _ (List.mem_of_getElem? hi)).2
  rw [List.getElem?_take] at hu
  split at hu
  · rw [List.getElem?_drop] at hu
    rw [add_lit', Nat.add_assoc, ← add_lit']; exact h1 _ _ hu
  · cases hu
/-! ### a store into a row -/
theorem storeVar_row {w : World} {t : TypeId} {v : Value} {vs : List Value} (hvs : v.cells = vs.toArray) {inf : TypeInfo} (hi : P.info? t = some inf) (hk : inf.size = vs.length) (h1 : One vs)
    {T sz n cap g off q : Nat} {xs : List Value} (hr : rowH T sz (some ⟨g, off, none⟩) n cap xs w) (hq : q + vs.length ≤ xs.length) :
    (storeVar t ⟨g, off + q, none⟩ v).run P w = .ok () (w.setCells g (off + q) vs) ∧ rowH T sz (some ⟨g, off, none⟩) n cap (xs.take q ++ vs ++ xs.drop (q + vs.length)) (w.setCells g (off + q) vs) := by
  obtain ⟨k1, k2, k3, k4, k5⟩ := hr
  by_cases hvs0 : vs = []
  · subst hvs0
    refine ⟨?_, ?_⟩
    · unfold storeVar
      have e1 : v.cells.size = 0 := by rw [hvs]; simp
      have hst := run_storeCells_cells (P := P) g (off + q) [] 0 w (fun j hj => absurd hj (by simp)) (fun j hj => absurd hj (by simp)) (fun u hu => by cases hu)
      simp only [Nat.add_zero] at hst
      simp only [Sem.run_bind, sizeOf, typeInfo, run_program, Result.andThen_ok, hi, Sem.run_pure, e1, hk]
      simp [hvs, hst]
    · have e1 : xs.take q ++ [] ++ xs.drop (q + ([] : List Value).length) = xs := by simp
      rw [e1]; exact ⟨k1, k2, k3, k4, k5⟩
  rcases k5 with ⟨h, _⟩ | ⟨g', off', cur, fz, ha, hg, hs, hx, hfz⟩
  · have hn : n = 0 := by omega
    rw [hn, Nat.zero_mul] at k1
    have : 0 < vs.length := List.length_pos_iff.2 hvs0
    omega
  · cases ha
    have hns : n * sz ≤ cap * sz := Nat.mul_le_mul_right _ k2
    have hlen : xs.length = n * sz := k1
    have hst := run_storeCells_cells (P := P) g (off + q) vs 0 w
      (fun j hj => by simp only [World.cell?, hg]; simp [show off + q + j < cur.size by omega])
      (fun j hj => by
        have h9 := hfz (off + q + 0 + j) (by omega)
        simp only [World.frozen?, hg]
        simp only [Bool.and_eq_false_iff, decide_eq_false_iff_not]
        omega) h1
    simp only [Nat.add_zero] at hst
    have hset := setCells_heap (news := vs) hg (show off + q + vs.length ≤ cur.size by omega)
    refine ⟨?_, ?_, k2, k3, ?_, .inr ⟨g, off, _, fz, rfl, hset, ?_, ?_, ?_⟩⟩
    · unfold storeVar
      have e1 : v.cells.size = vs.length := by rw [hvs]; simp
      simp only [Sem.run_bind, sizeOf, typeInfo, run_program, Result.andThen_ok, hi, Sem.run_pure, e1, hk]
      simp [hvs, hst]
    · simp only [List.length_append, List.length_take, List.length_drop]; omega
    · intro u hu
      rcases List.mem_append.1 hu with hu | hu
      · rcases List.mem_append.1 hu with hu | hu
        · exact k4 u (List.mem_of_mem_take hu)
        · exact h1 u hu
      · exact k4 u (List.mem_of_mem_drop hu)
    · simp only [List.size_toArray, List.length_append, List.length_take, List.length_drop, Array.length_toList]; omega
    · have e1 : (cur.toList.take (off + q)).drop off = xs.take q := by
        rw [List.drop_take, Nat.add_sub_cancel_left, ← hx, List.take_take, Nat.min_eq_left (by omega)]
      have e2 : (cur.toList.take (off + q) ++ vs ++ cur.toList.drop (off + q + vs.length)).drop off = xs.take q ++ vs ++ cur.toList.drop (off + q + vs.length) := by
        rw [List.append_assoc, List.drop_append_of_le_length (by simp; omega), e1, List.append_assoc]
      have e3 : xs.drop (q + vs.length) = (cur.toList.drop (off + q + vs.length)).take (n * sz - (q + vs.length)) := by
        rw [← hx, List.drop_take, List.drop_drop, Nat.add_assoc]
      simp only [e2, e3]
      rw [List.take_append, List.take_of_length_le (by simp; omega)]
      congr 2
      simp only [List.length_append, List.length_take]
      omega
    · intro o ho
      refine hfz o ?_
      simp only [List.size_toArray, List.length_append, List.length_take, List.length_drop, Array.length_toList] at ho
      omega
theorem step_store {ops : Array Oper} {i : Nat} {o : Oper} (ho : opAt ops Γ.nt i s.fr = some o) (t : TypeId) (p x : Operand) (hop : o.op = .store t p x) (pi : Nat) {T sz n cap g off : Nat} {xs : List Value} (hpi : s.hp[pi]? = some (row T sz (some ⟨g, off, none⟩) n cap xs))
    (q : Nat) (hp : ev s.fr p = .pointer (some ⟨g, off + q, none⟩)) (vs : List Value) (hvs : (ev s.fr x).cells = vs.toArray) (inf : TypeInfo) (hi : Γ.P.info? t = some inf) (hk : inf.size = vs.length) (h1 : One vs) (hq : q + vs.length ≤ xs.length) :
    Step Γ ops i s (fun s' => s' = ⟨putFr s.fr o.dst undef, s.hp.set pi (row T sz (some ⟨g, off, none⟩) n cap (xs.take q ++ vs ++ xs.drop (q + vs.length)))⟩) := fun Q b' w hS K hK =>
  step_sem ho (fun v hp' => v = undef ∧ hp' = s.hp.set pi (row T sz (some ⟨g, off, none⟩) n cap (xs.take q ++ vs ++ xs.drop (q + vs.length)))) (fun w hw => by
    obtain ⟨h2, h3⟩ := storeVar_row (P := Γ.P) hvs hi hk h1 (hw.holds _ (List.mem_of_getElem? hpi)) hq
    obtain ⟨z1, z2, z3, z4⟩ := setCells_size (g := g) (news := vs) (k := off + q) (w := w)
    have hrest : ∀ k, ¬ (0 < cap ∧ rowOwn (some ⟨g, off, none⟩) k) → k < w.heap.size → (w.setCells g (off + q) vs).heap[k]? = w.heap[k]? := fun k hk _ => by
      by_cases hvs0 : vs = []
      · subst hvs0; rfl
      · refine setCells_other (fun e => hk ⟨?_, _, rfl, e.symm⟩)
        obtain ⟨r1, r2, _⟩ := hw.holds _ (List.mem_of_getElem? hpi)
        have hl : 0 < vs.length := List.length_pos_iff.2 hvs0
        rcases Nat.eq_zero_or_pos cap with hc | hc
        · have hn : n = 0 := by omega
          rw [hn, Nat.zero_mul] at r1; omega
        · exact hc
    refine ⟨.skip, undef, _, _, ?_, .inr ⟨rfl, rfl⟩, ⟨rfl, rfl⟩, hw.put (c' := row T sz (some ⟨g, off, none⟩) n cap (xs.take q ++ vs ++ xs.drop (q + vs.length))) hpi trivial (fun k h => .inl h) h3 hrest, ?_, Bd.put (c' := row T sz (some ⟨g, off, none⟩) n cap (xs.take q ++ vs ++ xs.drop (q + vs.length))) hpi trivial (fun k h => .inl h)⟩
    · simp only [execOp, hop, hp, Instr.storeAt, Instr.sureAddr, Sem.run_bind, Sem.run_pure, Result.andThen_ok, h2]
    · exact ⟨z2, z3, z4, by rw [z1]; exact Nat.le_refl _, fun k hk hf => hrest k (fun ho => hf ⟨_, List.mem_of_getElem? hpi, trivial, ho⟩) hk⟩) Q b' w hS K
    (fun s' ⟨v, hp', ⟨h1, h2⟩, h3⟩ => hK s' (by rw [h3, h1, h2]))
/-! ### bytes and texts -/
def u8s (l : List UInt8) : List Value := l.map fun b => .int .u8 b.toNat
theorem u8s_len (l : List UInt8) : (u8s l).length = l.length := by simp [u8s]
theorem u8s_one (l : List UInt8) : One (u8s l) := fun u hu => by
  simp only [u8s, List.mem_map] at hu
  obtain ⟨b, _, rfl⟩ := hu
  rfl
theorem size_mkS (l : List UInt8) : (mkS l).size = l.length := by show (l.toArray).size = _; simp
theorem run_b2s {w : World} {a : Option Addr} {n c : Nat} {l : List UInt8} (hn : n = l.length) (h0 : a = none → l = []) (hc : ∀ ad, a = some ad → cellsAt w ad (u8s l)) : (Conv.bytesToString (.slice a n c)).run P w = .ok (.string (mkS l)) w := by
  cases a with
  | none => rw [h0 rfl]; rfl
  | some ad =>
    have hl := run_loadCells_list (P := P) w ad (u8s l) (hc ad rfl)
    rw [u8s_len, ← hn] at hl
    have e : u8s l = (l.map fun b => (b.toNat : Int)).map (Value.int .u8) := by simp [u8s]
    rw [e] at hl
    rw [run_bytesToString w ad n c _ hl]
    congr 2
    have key : ∀ (l : List UInt8) (acc : List UInt8), (l.map fun b => (b.toNat : Int)).foldl (fun r n => r.push (UInt8.ofNat n.toNat)) (mkS acc) = mkS (acc ++ l) := by
      intro l
      induction l with
      | nil => intro acc; simp
      | cons b l ih =>
        intro acc
        simp only [List.map_cons, List.foldl_cons]
        have : (mkS acc).push (UInt8.ofNat (b.toNat : Int).toNat) = mkS (acc ++ [b]) := by
          apply ByteArray.ext
          simp [mkS]
        rw [this, ih, List.append_assoc]; rfl
    exact key l []
theorem step_b2s {ops : Array Oper} {i : Nat} {o : Oper} (ho : opAt ops Γ.nt i s.fr = some o) (sT dT : TypeId) (x : Operand) (hop : o.op = .convert sT dT x) {e : TypeId} (hs : Γ.P.underlying sT = some (.slice e)) (he : Γ.P.underlying e = some (.int .u8)) (hd : Γ.P.underlying dT = some .string)
    {a : Option Addr} {n c : Nat} (hx : ev s.fr x = .slice a n c) (l : List UInt8) (hn : n = l.length) (hc : ∀ w, HS s.hp w → (a = none → l = []) ∧ ∀ ad, a = some ad → cellsAt w ad (u8s l)) :
    Step Γ ops i s (fun s' => s' = ⟨putFr s.fr o.dst (.string (mkS l)), s.hp⟩) := fun Q b' w hS K hK =>
  step_sem ho (fun v hp' => v = .string (mkS l) ∧ hp' = s.hp) (fun w hw => ⟨_, _, _, w, by
    have h1 := run_b2s (P := Γ.P) (w := w) (a := a) (n := n) (c := c) hn (hc w hw).1 (hc w hw).2
    have h2 : (convert sT dT (.slice a n c)).run Γ.P w = .ok (.string (mkS l)) w := by
      cases a <;> simp [convert, run_underlying hs, run_underlying hd, run_underlying he, h1]
    simp only [execOp, hop, hx, Sem.run_bind, Sem.run_pure, Result.andThen_ok, h2], .inl rfl, ⟨rfl, rfl⟩, hw, Ext.refl _ _, Bd.self _ _⟩) Q b' w hS K
    (fun s' ⟨v, hp', ⟨h1, h2⟩, h3⟩ => hK s' (by rw [h3, h1, h2]))
theorem b2s_row {hp : Hp} {w : World} (h : HS hp w) (i : Nat) {T n cap : Nat} {a : Option Addr} {l : List UInt8} (hi : hp[i]? = some (row T 1 a n cap (u8s l))) : (a = none → l = []) ∧ ∀ ad, a = some ad → cellsAt w ad (u8s l) := by
  have hr := h.holds _ (List.mem_of_getElem? hi)
  obtain ⟨h1, h2, h3, h4, h5⟩ := id hr
  rw [u8s_len] at h1
  rcases h5 with ⟨hc, _⟩ | ⟨g, off, cur, fz, rfl, _⟩
  · have hl : l = [] := List.eq_nil_of_length_eq_zero (by omega)
    exact ⟨fun _ => hl, fun ad h j u hu => by rw [hl] at hu; simp [u8s] at hu⟩
  · exact ⟨(fun h => by cases h), fun ad h => by cases h; exact row_cells hr⟩
theorem turn_cut_u8 {T n cap : Nat} {a : Option Addr} {l : List UInt8} (n' cap' : Nat) (h1 : n' ≤ n) (h2 : n' ≤ cap') (h3 : cap' ≤ cap) : Turn (row T 1 a n cap (u8s l)) (row T 1 a n' cap' (u8s (l.take n'))) := by
  have := turn_cut (T := T) (sz := 1) (n := n) (cap := cap) (a := a) (xs := u8s l) n' cap' h1 h2 h3
  have e : (u8s l).take (n' * 1) = u8s (l.take n') := by simp [u8s, List.map_take]
  rwa [e] at this
theorem row_cap {hp : Hp} {w : World} (h : HS hp w) (i : Nat) {T sz n cap : Nat} {a : Option Addr} {xs : List Value} (hi : hp[i]? = some (row T sz a n cap xs)) : xs.length = n * sz ∧ n ≤ cap ∧ cap ≤ maxLen := by
  obtain ⟨h1, h2, h3, _⟩ := h.holds _ (List.mem_of_getElem? hi)
  exact ⟨h1, h2, h3⟩
theorem turn_view {c c' : Ch} (v : View c c') : Turn c c' := ⟨v.holds, v.own, fun h => absurd h v.ro⟩
theorem row_addr {hp : Hp} {w : World} (h : HS hp w) (i : Nat) {T sz n cap : Nat} {a : Option Addr} {xs : List Value} (hi : hp[i]? = some (row T sz a n cap xs)) (hn : 0 < n) : ∃ g off, a = some ⟨g, off, none⟩ := by
  obtain ⟨h1, h2, h3, h4, h5⟩ := h.holds _ (List.mem_of_getElem? hi)
  rcases h5 with ⟨hc, _⟩ | ⟨g, off, cur, fz, ha, _⟩
  · omega
  · exact ⟨g, off, ha⟩
end Go.Sx
namespace Go.Sx
open Go
variable {P : Program} {Γ : Cx} {Q : Exit → Act → World → Prop} {s : St}
theorem wpr_eq {ops : Array Oper} {i : Nat} {l₂ : List Nat} {t : St} (st : Step Γ ops i s (fun s' => s' = t)) (h : WpR Γ ops l₂ t Q) : WpR Γ ops (i :: l₂) s Q :=
  wpr_step st fun s' hs' => by subst hs'; exact h
theorem wpa_eq {ops : Array Oper} {hs : Hp} {li : Array Bool} {i n : Nat} {t : St} (hr : Region.ready .any ops li = [i]) (st : Step Γ ops i s (fun s' => s' = t)) (hsub : Sub hs t.hp)
    (h : WpA Γ ops hs n (li.setIfInBounds i true) t Q) : WpA Γ ops hs (n + 1) li s Q :=
  wpa_step hr st (fun s' hs' => by subst hs'; exact hsub) fun s' hs' => by subst hs'; exact h
def convOf (ops : Array Oper) (nt i : Nat) (fr : Fr) : Option (TypeId × TypeId × Value × Option Nat) :=
  match opAt ops nt i fr with
  | some o => match o.op with | .convert a b x => some (a, b, ev fr x, o.dst) | _ => none
  | none => none
def loadOf (ops : Array Oper) (nt i : Nat) (fr : Fr) : Option (TypeId × Value × Option Nat) :=
  match opAt ops nt i fr with
  | some o => match o.op with | .load t p => some (t, ev fr p, o.dst) | _ => none
  | none => none
def storeOf (ops : Array Oper) (nt i : Nat) (fr : Fr) : Option (TypeId × Value × Value × Option Nat) :=
  match opAt ops nt i fr with
  | some o => match o.op with | .store t p x => some (t, ev fr p, ev fr x, o.dst) | _ => none
  | none => none
def b2sTy (P : Program) (a b : TypeId) : Bool :=
  match P.underlying a, P.underlying b with
  | some (.slice e), some .string => match P.underlying e with | some (.int .u8) => true | _ => false
  | _, _ => false
def s2bTy (P : Program) (a b : TypeId) : Option TypeId :=
  match P.underlying a, P.underlying b with
  | some .string, some (.slice e) =>
    match P.underlying e, P.info? e with
    | some (.int .u8), some i => (match i.size == 1 with | true => some e | false => none)
    | _, _ => none
  | _, _ => none
theorem b2s {ops : Array Oper} {i : Nat} {a b : TypeId} {ad : Option Addr} {n c : Nat} {dst : Option Nat} (hc : convOf ops Γ.nt i s.fr = some (a, b, .slice ad n c, dst)) (ht : b2sTy Γ.P a b = true) (l : List UInt8) (hn : n = l.length)
    (hl : ∀ w, HS s.hp w → (ad = none → l = []) ∧ ∀ x, ad = some x → cellsAt w x (u8s l)) : Step Γ ops i s (fun s' => s' = ⟨putFr s.fr dst (.string (mkS l)), s.hp⟩) := by
  unfold convOf at hc
  split at hc
  · rename_i o ho
    split at hc
    · rename_i a' b' x hop
      simp only [Option.some.injEq, Prod.mk.injEq] at hc
      obtain ⟨rfl, rfl, hx, rfl⟩ := hc
      unfold b2sTy at ht
      split at ht
      · rename_i e hs hd
        split at ht
        · rename_i he
          exact step_b2s ho a' b' x hop hs he hd hx l hn hl
        · cases ht
      · cases ht
    · cases hc
  · cases hc
theorem ld {ops : Array Oper} {i : Nat} {t : TypeId} {a : Addr} {dst : Option Nat} (hc : loadOf ops Γ.nt i s.fr = some (t, .pointer (some a), dst)) (b : Bool) (k : Nat) (ht : aggTy Γ.P t = some (b, k)) (hb : b = false → k = 1) (vs : List Value) (hv : vs.length = k)
    (hl : ∀ w, HS s.hp w → cellsAt w a vs) : Step Γ ops i s (fun s' => s' = ⟨putFr s.fr dst (valOf b vs), s.hp⟩) := by
  unfold loadOf at hc
  split at hc
  · rename_i o ho
    split at hc
    · rename_i t' p hop
      simp only [Option.some.injEq, Prod.mk.injEq] at hc
      obtain ⟨rfl, hp, rfl⟩ := hc
      exact step_load ho t' p hop a hp b k ht hb vs hv hl
    · cases hc
  · cases hc
theorem stq {ops : Array Oper} {i : Nat} {t : TypeId} {g off q : Nat} {v : Value} {dst : Option Nat} (hc : storeOf ops Γ.nt i s.fr = some (t, .pointer (some ⟨g, off + q, none⟩), v, dst)) (pi : Nat) {T sz n cap : Nat} {xs : List Value} (hpi : s.hp[pi]? = some (row T sz (some ⟨g, off, none⟩) n cap xs))
    (vs : List Value) (hvs : v.cells = vs.toArray) (hk : (Γ.P.info? t).map (·.size) = some vs.length) (h1 : One vs) (hq : q + vs.length ≤ xs.length) :
    Step Γ ops i s (fun s' => s' = ⟨putFr s.fr dst undef, s.hp.set pi (row T sz (some ⟨g, off, none⟩) n cap (xs.take q ++ vs ++ xs.drop (q + vs.length)))⟩) := by
  unfold storeOf at hc
  split at hc
  · rename_i o ho
    split at hc
    · rename_i t' p x hop
      simp only [Option.some.injEq, Prod.mk.injEq] at hc
      obtain ⟨rfl, hp, hx, rfl⟩ := hc
      obtain ⟨inf, hi, hk'⟩ := Option.map_eq_some_iff.1 hk
      exact step_store ho t' p x hop pi hpi q hp vs (by rw [hx]; exact hvs) inf hi hk' h1 hq
    · cases hc
  · cases hc
end Go.Sx
namespace Go.Sx
open Go
theorem ld_row {hp : Hp} {w : World} (h : HS hp w) (i : Nat) {T sz n cap g off : Nat} {xs : List Value} (hi : hp[i]? = some (row T sz (some ⟨g, off, none⟩) n cap xs)) (q : Nat) {vs : List Value} (hv : (xs.drop q).take vs.length = vs) : cellsAt w ⟨g, off + q, none⟩ vs := by
  have := cells_row h i hi q vs.length
  rwa [hv] at this
theorem ld_ro {hp : Hp} {w : World} (h : HS hp w) (i : Nat) {g off : Nat} {xs : List Value} (hi : hp[i]? = some (ro (some ⟨g, off, none⟩) xs)) (q : Nat) {vs : List Value} (hv : (xs.drop q).take vs.length = vs) : cellsAt w ⟨g, off + q, none⟩ vs := by
  have := cells_ro h i hi q vs.length
  rwa [hv] at this
theorem u8_at {l : List UInt8} {q : Nat} (hq : q < l.length) : ((u8s l).drop q).take 1 = [.int .u8 (l[q]).toNat] := by
  have h : q < (u8s l).length := by rw [u8s_len]; exact hq
  rw [List.drop_eq_getElem_cons h]
  simp [u8s]
theorem u8_set {l : List UInt8} {q : Nat} (hq : q < l.length) (b : UInt8) : (u8s l).take q ++ [.int .u8 b.toNat] ++ (u8s l).drop (q + 1) = u8s (l.set q b) := by
  unfold u8s
  rw [List.set_eq_take_append_cons_drop, if_pos hq]
  simp [List.map_take, List.map_drop]
theorem u8_at1 {l : List UInt8} {q : Nat} (hq : q < l.length) : ((u8s l).drop (q * 1)).take 1 = [.int .u8 (l[q]).toNat] := by rw [Nat.mul_one]; exact u8_at hq
theorem u8_set1 {l : List UInt8} {q : Nat} (hq : q < l.length) (b : UInt8) : (u8s l).take (q * 1) ++ [.int .u8 b.toNat] ++ (u8s l).drop (q * 1 + 1) = u8s (l.set q b) := by rw [Nat.mul_one]; exact u8_set hq b
theorem stq' {Γ : Cx} {s : St} {ops : Array Oper} {i : Nat} {t : TypeId} {g off q : Nat} {v : Value} {dst : Option Nat} (hc : storeOf ops Γ.nt i s.fr = some (t, .pointer (some ⟨g, off + q, none⟩), v, dst)) (pi : Nat) {T sz n cap : Nat} {xs : List Value} (hpi : s.hp[pi]? = some (row T sz (some ⟨g, off, none⟩) n cap xs))
    (vs : List Value) (hvs : v.cells = vs.toArray) (hk : (Γ.P.info? t).map (·.size) = some vs.length) (h1 : Sx.One vs) (hq : q + vs.length ≤ xs.length) {xs' : List Value} (he : xs.take q ++ vs ++ xs.drop (q + vs.length) = xs') :
    Step Γ ops i s (fun s' => s' = ⟨putFr s.fr dst undef, s.hp.set pi (row T sz (some ⟨g, off, none⟩) n cap xs')⟩) := by
  subst he
  exact stq hc pi hpi vs hvs hk h1 hq
end Go.Sx
namespace Go.Sx
open Go
variable {Γ : Cx} {s : St} {Q : Exit → Act → World → Prop}
theorem s2b {ops : Array Oper} {i : Nat} {a b e : TypeId} {dst : Option Nat} (l : List UInt8) (hc : convOf ops Γ.nt i s.fr = some (a, b, .string (mkS l), dst)) (ht : s2bTy Γ.P a b = some e) (hl : l.length ≤ maxLen) :
    Step Γ ops i s (fun s' => ∃ g cap, s' = ⟨putFr s.fr dst (.slice (some ⟨g, 0, none⟩) l.length cap), s.hp ++ [row e 1 (some ⟨g, 0, none⟩) l.length cap (u8s l)]⟩) := by
  unfold convOf at hc
  split at hc
  · rename_i o ho
    split at hc
    · rename_i a' b' x hop
      simp only [Option.some.injEq, Prod.mk.injEq] at hc
      obtain ⟨rfl, rfl, hx, rfl⟩ := hc
      unfold s2bTy at ht
      split at ht
      · rename_i e' hs hd
        split at ht
        · rename_i inf he hi
          split at ht
          · rename_i hsz
            simp only [Option.some.injEq] at ht
            subst ht
            intro Q bb ww hS K hK
            refine step_sem ho (fun v hp' => ∃ g cap, v = .slice (some ⟨g, 0, none⟩) l.length cap ∧ hp' = s.hp ++ [row e' 1 (some ⟨g, 0, none⟩) l.length cap (u8s l)]) (fun w hw => ?_) Q bb ww hS K ?_
            · have hrun := Lib.run_convert_string_bytes (P := Γ.P) w a' b' e' (mkS l) hs hd he
              have hsame : ∀ k, k < w.heap.size → (Lib.bytesWorld w e' (mkS l)).heap[k]? = w.heap[k]? := fun k hk => Lib.bytesWorld_at_old w e' (mkS l) k hk
              have hge := grownCap_ge w l.length 0 e'
              have hle := grownCap_le_maxLen w l.length 0 e' hl
              have hnew := Lib.bytesWorld_at_new w e' (mkS l)
              have hsz2 : (Lib.bytesCells w e' (mkS l)).size = grownCap w l.length 0 e' := by
                simp only [Lib.bytesCells, Array.size_append, Array.size_map, Array.size_replicate]
                show l.toArray.size + (grownCap w (mkS l).size 0 e' - (mkS l).size) = _
                rw [size_mkS]; simp; omega
              have hrow : (row e' 1 (some ⟨w.heap.size, 0, none⟩) l.length (grownCap w l.length 0 e') (u8s l)).holds (Lib.bytesWorld w e' (mkS l)) := by
                refine ⟨by simp [u8s_len], hge, hle, u8s_one l, .inr ⟨w.heap.size, 0, _, _, rfl, hnew, by rw [hsz2]; omega, ?_, fun o ho h => ?_⟩⟩
                · simp only [Lib.bytesCells, List.drop_zero, Array.toList_append, Array.toList_map, Nat.mul_one]
                  have : (mkS l).data.toList = l := rfl
                  rw [this]
                  show (u8s l ++ _).take l.length = u8s l
                  rw [List.take_left' (u8s_len l)]
                · simp only at h; omega
              refine ⟨_, _, _, _, ?_, .inl rfl, ⟨_, _, rfl, rfl⟩, hw.append hsame hrow (fun k ⟨_, ad, had, hk⟩ => by cases had; exact Nat.le_of_eq hk), ⟨rfl, rfl, rfl, by rw [Lib.bytesWorld_size]; omega, fun k hk _ => hsame k hk⟩, ?_⟩
              · unfold execOp
                rw [hop]
                simp only [Sem.run_bind, hx, hrun, Result.andThen_ok]
                rfl
              · intro c hc hr k hk
                rcases List.mem_append.1 hc with hc | hc
                · exact .inl ⟨c, hc, hr, hk⟩
                · rw [List.mem_singleton.1 hc] at hk
                  obtain ⟨_, ad, had, hk⟩ := hk
                  cases had; exact .inr (Nat.le_of_eq hk)
            · rintro s' ⟨v, hp', ⟨g, cap, rfl, rfl⟩, rfl⟩
              exact hK _ ⟨g, cap, rfl⟩
          · cases ht
        · cases ht
      · cases ht
    · cases hc
  · cases hc
theorem wpr_s2b {ops : Array Oper} {i : Nat} {l₂ : List Nat} {a b e : TypeId} {dst : Option Nat} (l : List UInt8) (hc : convOf ops Γ.nt i s.fr = some (a, b, .string (mkS l), dst)) (ht : s2bTy Γ.P a b = some e) (hl : l.length ≤ maxLen)
    (h : ∀ g cap, WpR Γ ops l₂ ⟨putFr s.fr dst (.slice (some ⟨g, 0, none⟩) l.length cap), s.hp ++ [row e 1 (some ⟨g, 0, none⟩) l.length cap (u8s l)]⟩ Q) : WpR Γ ops (i :: l₂) s Q :=
  wpr_step (s2b l hc ht hl) fun s' ⟨g, cap, h'⟩ => by subst h'; exact h g cap
end Go.Sx
namespace Go.Sx
open Go
theorem fm_at {α : Type} {f : α → List Value} {n : Nat} (hf : ∀ x, (f x).length = n) {l : List α} {q : Nat} (hq : q < l.length) : ((l.flatMap f).drop (q * n)).take n = f l[q] := by
  induction l generalizing q with
  | nil => simp at hq
  | cons x r ih =>
    cases q with
    | zero =>
      simp only [Nat.zero_mul, List.drop_zero, List.flatMap_cons, List.getElem_cons_zero]
      exact List.take_left' (hf x)
    | succ q =>
      have e : (q + 1) * n = (f x).length + q * n := by rw [hf, Nat.add_mul, Nat.one_mul, Nat.add_comm]
      rw [List.flatMap_cons, e, List.drop_append, List.getElem_cons_succ, Nat.add_sub_cancel_left]
      rw [List.drop_eq_nil_of_le (by omega), List.nil_append]
      exact ih (by simpa using hq)
theorem fm_len {α : Type} {f : α → List Value} {n : Nat} (hf : ∀ x, (f x).length = n) (l : List α) : (l.flatMap f).length = l.length * n := by
  induction l with
  | nil => simp
  | cons x r ih => rw [List.flatMap_cons, List.length_append, hf, ih, List.length_cons, Nat.add_mul, Nat.one_mul, Nat.add_comm]
end Go.Sx
namespace Go.Sx
open Go
theorem ro_addr {hp : Hp} {w : World} (h : HS hp w) (i : Nat) {a : Option Addr} {xs : List Value} (hi : hp[i]? = some (ro a xs)) (hn : 0 < xs.length) : ∃ g off, a = some ⟨g, off, none⟩ := by
  obtain ⟨h1, h2⟩ := h.holds _ (List.mem_of_getElem? hi)
  cases a with
  | none => rw [show xs = [] from h2] at hn; simp at hn
  | some ad =>
    obtain ⟨g, off, sp⟩ := ad
    cases sp with
    | none => exact ⟨g, off, rfl⟩
    | some s =>
      have h3 : cellsAt w _ xs := h2
      have h4 := h3 0 xs[0] (List.getElem?_eq_getElem hn)
      simp only [World.cell?, Addr.add] at h4
      split at h4 <;> simp at h4
end Go.Sx
namespace Go.Sx
open Go
variable {Γ : Cx} {s : St} {Q : Exit → Act → World → Prop}
def WpI (Γ : Cx) (ops : Array Oper) (hs : Hp) (n : Nat) (li : Array Bool) (s : St) (Q : Exit → Act → World → Prop) (i : Nat) : Prop :=
  ∀ a w, Sat Γ s a w → HL hs w → wpOp Γ.P ops Q i (fun b w' => HL hs w' ∧ wpAnyH Γ.P .any ops Q (HL hs) n (li.setIfInBounds i true) b w') a w
theorem wpa_two {ops : Array Oper} {hs : Hp} {li : Array Bool} {i j n : Nat} (hr : Region.ready .any ops li = [i, j]) (h1 : WpI Γ ops hs n li s Q i) (h2 : WpI Γ ops hs n li s Q j) : WpA Γ ops hs (n + 1) li s Q := fun a w hS hL => by
  refine wpAnyH_all hr (by simp) fun k hk => ?_
  rcases List.mem_cons.1 hk with rfl | hk
  · exact h1 a w hS hL
  · rw [List.mem_singleton.1 hk]; exact h2 a w hS hL
theorem wpi_call {ops : Array Oper} {hs : Hp} {li : Array Bool} {i : Nat} {n : Nat} {f : FuncId} {args : List Value} {dst : Option Nat} (hc : callOf Γ.P ops Γ.nt i s.fr = some (f, args, dst))
    {pre rest : Hp} {R : Value → Hp → Prop} (hf : Does Γ.P f args pre R) (g : Give s.hp pre rest) (hsub : Sub hs rest)
    (h : ∀ v hp', R v hp' → WpA Γ ops hs n (li.setIfInBounds i true) ⟨putFr s.fr dst v, hp' ++ rest⟩ Q) : WpI Γ ops hs n li s Q i := fun a w hS hL => by
  refine callOf_sound hc hf g hS fun v hp' hR a' w' hS' => ?_
  have hL' : HL hs w' := fun c hc => hS'.hs.holds c (List.mem_append.2 (.inr (hsub c hc)))
  exact ⟨hL', h v hp' hR a' w' hS' hL'⟩
end Go.Sx
namespace Go.Sx
open Go
end Go.Sx
namespace Go.Sx
open Go
end Go.Sx
namespace Go.Sx
open Go
theorem list_of {α : Type} (p : Nat → α → Prop) : ∀ n, (∀ i, i < n → ∃ x, p i x) → ∃ l : List α, l.length = n ∧ ∀ (i : Nat) x, l[i]? = some x → p i x
  | 0, _ => ⟨[], rfl, fun i x h => by simp at h⟩
  | n + 1, h => by
    obtain ⟨l, hl, hp⟩ := list_of p n (fun i hi => h i (by omega))
    obtain ⟨x, hx⟩ := h n (by omega)
    refine ⟨l ++ [x], by simp [hl], fun i y hy => ?_⟩
    rw [List.getElem?_append] at hy
    split at hy
    · exact hp i y hy
    · rename_i hi
      have : i - l.length = 0 := by
        rcases Nat.eq_zero_or_pos (i - l.length) with h' | h'
        · exact h'
        · rw [List.getElem?_eq_none (by simp; omega)] at hy; cases hy
      rw [this] at hy
      simp at hy
      have e : i = n := by omega
      rw [e, ← hy]; exact hx
theorem slice_in {H : Type} {P : Program} {W : World} {base : Nat} {enc : TypeId × Value → H} {held : Bool} {t e : TypeId} {k : Nat} {α : Type} (C : α → List Value) (hC : ∀ x, (C x).length = k) (hC1 : ∀ x, One (C x))
    (ht : P.underlying t = some (.slice e)) (hk : P.cellsOf e = k) (R : α → DataW H → Prop)
    (hR : ∀ n cs y, DataW.trod enc P W base (fun _ => true) held n e cs = some y → ∃ x, cs = C x ∧ R x y.1)
    {a : Option Addr} {len cap : Nat} {d : DataW H} {p : List MemPlace} {fuel : Nat} (hf : DataW.trod enc P W base (fun _ => true) held fuel t (Value.cells (.slice a len cap)).toList = some (d, p)) :
    ∃ l : List α, len = l.length ∧ (a = none → l = []) ∧ roH a (l.flatMap C) W ∧ ∃ ds sp, ds.length = len ∧ (d = .slice ds sp ∨ (d = .nil ∧ ds = [])) ∧ ∀ (i : Nat) x, l[i]? = some x → ∃ y, ds[i]? = some y ∧ R x y := by
  have hone : ∀ l : List α, One (l.flatMap C) := fun l u hu => by
    obtain ⟨x, _, hx⟩ := List.mem_flatMap.1 hu
    exact hC1 x u hx
  rcases DataW.trod_slice ht hf with ⟨hcs, hx⟩ | ⟨ad, l, c, elems, rest, n, _, hcs, hx, hb, hl, hm, hlen, hel, hsp, hns⟩
  · simp [Value.cells] at hcs
    obtain ⟨rfl, rfl, rfl⟩ := hcs
    cases hx
    exact ⟨[], rfl, fun _ => rfl, ⟨hone [], rfl⟩, [], [], rfl, .inr ⟨rfl, rfl⟩, fun i x h => by simp at h⟩
  · simp [Value.cells] at hcs
    obtain ⟨rfl, rfl, rfl⟩ := hcs
    simp only [Prod.mk.injEq] at hx
    obtain ⟨rfl, _⟩ := hx
    obtain ⟨xs, hxl, hxs⟩ := list_of (fun i x => W.cells? base (ad.add (i * k)) k = some (C x) ∧ ∃ y, (elems.map (·.1))[i]? = some y ∧ R x y) len (fun i hi => by
      have h1 := hel i hi
      obtain ⟨y, hy⟩ : ∃ y, elems[i]? = some y := ⟨elems[i]'(by omega), List.getElem?_eq_getElem _⟩
      rw [hy, Option.bind_eq_some_iff] at h1
      obtain ⟨cs, hcs, hyt⟩ := h1
      obtain ⟨x, rfl, hr⟩ := hR n cs y hyt
      rw [hk] at hcs
      exact ⟨x, hcs, y.1, by rw [List.getElem?_map, hy]; rfl, hr⟩)
    refine ⟨xs, hxl.symm, (fun h => by cases h), ⟨hone xs, ?_⟩, elems.map (·.1), rest.map (·.1), by simp [hlen], .inl rfl, fun i x h => (hxs i x h).2⟩
    intro j u hj
    have hjl : j < (xs.flatMap C).length := (List.getElem?_eq_some_iff.1 hj).1
    rw [fm_len hC] at hjl
    have hk0 : 0 < k := by
      rcases Nat.eq_zero_or_pos k with h | h
      · subst h; simp at hjl
      · exact h
    have hq : j / k < xs.length := Nat.div_lt_of_lt_mul (by rw [Nat.mul_comm]; exact hjl)
    have hr : j % k < k := Nat.mod_lt _ hk0
    have hjk : j = j / k * k + j % k := by rw [Nat.mul_comm]; exact (Nat.div_add_mod j k).symm
    have h1 := (hxs (j / k) xs[j / k] (List.getElem?_eq_getElem hq)).1
    have h2 := (World.cells?_some h1).2.2 (j % k) hr
    have h3 := fm_at hC hq
    rw [Addr.add_add, ← hjk] at h2
    rw [h2, ← h3, List.getElem?_take, if_pos hr, List.getElem?_drop, ← hjk]
    exact hj
end Go.Sx
namespace Go.Sx
open Go
def foldN (n : Int) : Int := if n < 0 then -2 * n - 1 else 2 * n
def unfoldN (f : Int) : Int := if f % 2 = 1 then -(f / 2) - 1 else f / 2
end Go.Sx
namespace Go.Sx
open Go
variable {P : Program} {Γ : Cx} {Q : Exit → Act → World → Prop} {s : St}
theorem turn_rblk {g T : Nat} {l : List Value} (h : One l) : Turn (.blk g T l) (ro (some ⟨g, 0, none⟩) l) := by
  have v := view_blk (g := g) (T := T) (l := l) 0 l.length (by simpa using h)
  simp only [List.drop_zero, List.take_length] at v
  exact turn_view v
/-! ### quiet operations of regions that draw: they read what no operation turns -/
theorem wpa_quiet [PanicOk Q] {ops : Array Oper} {hs : Hp} {li : Array Bool} {i n : Nat} {o : Oper} (hns : Region.noSelect ops = true) (ho : opAt ops Γ.nt i s.fr = some o)
    (hr : (Region.ready .any ops li).contains i = true) (hf : Region.free .any ops li i = true) (v : Value) (hrun : ∀ w, HL hs w → (execOp (ev s.fr) o).run Γ.P w = .ok (.value v) w)
    (h : WpA Γ ops hs n (li.setIfInBounds i true) ⟨putFr s.fr o.dst v, s.hp⟩ Q) : WpA Γ ops hs (n + 1) li s Q := fun a w hS hL => by
  unfold opAt at ho
  split at ho
  · cases ho
  · rename_i o' hoi
    split at ho
    · rename_i hd hw hk
      simp only [Option.some.injEq] at ho
      subst ho
      have hQ : ∀ c (a : Act) w, Q (.panic c) (a.put o'.dst v) w → Q (.panic c) a w := fun c a w h => PanicOk.ok (Q := Q) c _ a w (defers_put _ _) h
      exact wpAnyH_take hoi hns hf hr hQ (.inl ⟨wants_ok hS.fr hw, fun w' hw' => by rw [ev_eq hS.fr hk]; exact hrun w' hw'⟩) hL (h _ _ (hS.put hd v) hL)
    · cases ho
theorem wpa_qld [PanicOk Q] {ops : Array Oper} {hs : Hp} {li : Array Bool} {i n : Nat} (hns : Region.noSelect ops = true) (hr : (Region.ready .any ops li).contains i = true) (hf : Region.free .any ops li i = true)
    {t : TypeId} {a : Addr} {dst : Option Nat} (hc : loadOf ops Γ.nt i s.fr = some (t, .pointer (some a), dst)) (b : Bool) (k : Nat) (ht : aggTy Γ.P t = some (b, k)) (hb : b = false → k = 1) (vs : List Value) (hv : vs.length = k)
    (hl : ∀ w, HL hs w → cellsAt w a vs)
    (h : WpA Γ ops hs n (li.setIfInBounds i true) ⟨putFr s.fr dst (valOf b vs), s.hp⟩ Q) : WpA Γ ops hs (n + 1) li s Q := by
  unfold loadOf at hc
  split at hc
  · rename_i o ho
    split at hc
    · rename_i t' p hop
      simp only [Option.some.injEq, Prod.mk.injEq] at hc
      obtain ⟨rfl, hp, rfl⟩ := hc
      refine wpa_quiet hns ho hr hf (valOf b vs) (fun w hw => ?_) h
      simp only [execOp, hop, hp, Instr.loadAt, Instr.sureAddr, Sem.run_bind, Sem.run_pure, Result.andThen_ok, run_loadVar' ht hv hb (hl w hw)]
    · cases hc
  · cases hc
theorem ld_roL {hs : Hp} {w : World} (h : HL hs w) (i : Nat) {g off : Nat} {xs : List Value} (hi : hs[i]? = some (ro (some ⟨g, off, none⟩) xs)) (q : Nat) {vs : List Value} (hv : (xs.drop q).take vs.length = vs) : cellsAt w ⟨g, off + q, none⟩ vs := fun j u hu => by
  have h1 := (h _ (List.mem_of_getElem? hi)).2
  rw [← hv, List.getElem?_take] at hu
  split at hu
  · rw [List.getElem?_drop] at hu
    rw [add_lit', Nat.add_assoc, ← add_lit']; exact h1 _ _ hu
  · cases hu
/-! ### one of several operations that may come next -/
theorem wpi_one {ops : Array Oper} {hs : Hp} {li : Array Bool} (md : Bool) (i : Nat) (sc : List Nat) (fr' : Fr) (hp' : Hp) (vc : List Prop) {n : Nat}
    (h1 : (sop Γ.P md ops Γ.nt i s.fr s.hp none sc).isSome = true)
    (h2 : (sop Γ.P md ops Γ.nt i s.fr s.hp none sc).map (fun r => (fr'.map (fun p => look r.fr p.1), r.hp, r.gs, r.vc)) = (sop Γ.P md ops Γ.nt i s.fr s.hp none sc).map (fun r => (fr'.map (fun p => some p.2), hp', r.ws, vc)))
    (hv : AllP vc) (hsub : Sub hs hp') (h : WpA Γ ops hs n (li.setIfInBounds i true) ⟨fr', hp'⟩ Q) : WpI Γ ops hs n li s Q i := fun a w hS hL => by
  obtain ⟨r, hrs⟩ := Option.isSome_iff_exists.1 h1
  rw [hrs] at h2
  simp only [Option.map_some, Option.some.injEq, Prod.mk.injEq] at h2
  obtain ⟨h3, h4, h5, h6⟩ := h2
  refine sop_sound hrs h5 (h6 ▸ hv) hS (fun m hm => by cases hm) fun a' w' hS' _ => ?_
  rw [h4] at hS'
  have hL' : HL hs w' := fun c hc => hS'.hs.holds c (hsub c hc)
  exact ⟨hL', h a' w' (hS'.frames h3) hL'⟩
theorem wpi_new {ops : Array Oper} {hs : Hp} {li : Array Bool} (md : Bool) (i : Nat) (sc : List Nat) (fr' : Nat → Fr) (hp' : Nat → Hp) (vc : Nat → List Prop) {n : Nat}
    (h1 : ∀ g, (sop Γ.P md ops Γ.nt i s.fr s.hp (some g) sc).isSome = true)
    (h2 : ∀ g, (sop Γ.P md ops Γ.nt i s.fr s.hp (some g) sc).map (fun r => ((fr' g).map (fun p => look r.fr p.1), r.hp, r.gs, r.vc)) = (sop Γ.P md ops Γ.nt i s.fr s.hp (some g) sc).map (fun r => ((fr' g).map (fun p => some p.2), hp' g, r.ws, vc g)))
    (hv : ∀ g, AllP (vc g)) (hsub : ∀ g, Sub hs (hp' g)) (h : ∀ g, WpA Γ ops hs n (li.setIfInBounds i true) ⟨fr' g, hp' g⟩ Q) : WpI Γ ops hs n li s Q i := fun a w hS hL => by
  obtain ⟨r, hrs⟩ := Option.isSome_iff_exists.1 (h1 w.heap.size)
  have h2 := h2 w.heap.size
  rw [hrs] at h2
  simp only [Option.map_some, Option.some.injEq, Prod.mk.injEq] at h2
  obtain ⟨h3, h4, h5, h6⟩ := h2
  refine sop_sound hrs h5 (h6 ▸ hv _) hS (fun m hm => by cases hm; rfl) fun a' w' hS' _ => ?_
  rw [h4] at hS'
  have hL' : HL hs w' := fun c hc => hS'.hs.holds c (hsub _ c hc)
  exact ⟨hL', h _ a' w' (hS'.frames h3) hL'⟩
theorem wpc_joinx {X : Type} {c : Code} (S : X → St) (h1 : ∀ Q', PanicOk Q' → (∀ x, Nx Γ (S x) Q' .normal) → WpC Γ c s Q') [hQ : PanicOk Q] (h2 : ∀ x, Nx Γ (S x) Q .normal) : WpC Γ c s Q := h1 Q hQ h2
theorem wpa_fact {ops : Array Oper} {hs : Hp} {n : Nat} {li : Array Bool} {p : Prop} (hp : ∀ w, HS s.hp w → p) (h : p → WpA Γ ops hs n li s Q) : WpA Γ ops hs n li s Q := fun a w hS hL => h (hp w hS.hs) a w hS hL
/-! ### a part of what is read alone -/
theorem view_front {a : Option Addr} {xs : List Value} (k : Nat) : View (ro a xs) (ro a (xs.take k)) where
  holds := fun w ⟨h1, h2⟩ => ⟨fun u hu => h1 u (List.mem_of_mem_take hu), by
    cases a with
    | none => have h2 : xs = [] := h2; subst h2; exact List.take_nil
    | some ad =>
      intro j u hu
      rw [List.getElem?_take] at hu
      split at hu
      · exact h2 j u hu
      · cases hu⟩
  own := fun _ _ k' ⟨h1, hne⟩ => ⟨h1, fun e => hne (by simp [e])⟩
  ro := fun h => h
theorem view_rest {g off : Nat} {xs : List Value} (q off' : Nat) (ho : q < xs.length → off' = off + q) : View (ro (some ⟨g, off, none⟩) xs) (ro (some ⟨g, off', none⟩) (xs.drop q)) where
  holds := fun w ⟨h1, h2⟩ => ⟨fun u hu => h1 u (List.mem_of_mem_drop hu), by
    intro j u hu
    have hj := (List.getElem?_eq_some_iff.1 hu).1
    rw [List.length_drop] at hj
    rw [List.getElem?_drop] at hu
    have h3 : cellsAt w _ xs := h2
    have h4 := h3 (q + j) u hu
    rw [add_lit'] at h4 ⊢
    rw [ho (by omega), Nat.add_assoc]; exact h4⟩
  own := fun _ _ k' ⟨⟨ad, ha, hk⟩, hne⟩ => ⟨⟨_, rfl, by cases ha; exact hk⟩, fun e => hne (by simp [e])⟩
  ro := fun h => h
theorem View.trans {c d e : Ch} (h : View c d) (k : View d e) : View c e := ⟨fun w hw => k.holds w (h.holds w hw), fun w hw x hx => h.own w hw x (k.own w (h.holds w hw) x hx), k.ro⟩
theorem ent_copy {fr : Fr} {hp : Hp} (i : Nat) {c : Ch} (c' : Ch) (hi : hp[i]? = some c) (hc : ¬ c.rw) (v : View c c') : Ent Γ ⟨fr, hp⟩ ⟨fr, c' :: hp⟩ := fun a w h => by
  have hcw := h.hs.holds c (List.mem_of_getElem? hi)
  refine ⟨h.size, h.defers, h.fr, ⟨fun d hd => ?_, List.pairwise_cons.2 ⟨fun d hd => ?_, h.hs.apart⟩⟩, h.ext, fun d hd hr k hk => ?_⟩
  · rcases List.mem_cons.1 hd with rfl | hd
    · exact v.holds w hcw
    · exact h.hs.holds d hd
  · by_cases hr : d.rw
    · obtain ⟨j, hj⟩ := List.getElem?_of_mem hd
      have hij : i ≠ j := by rintro rfl; rw [hi] at hj; cases hj; exact hc hr
      rcases pairwise_get h.hs.apart hij hi hj with ⟨_, h2⟩ | h2
      · exact absurd hr h2
      · exact .inr fun k hk => h2 k (v.own w hcw k hk)
    · exact .inl ⟨v.ro, hr⟩
  · rcases List.mem_cons.1 hd with rfl | hd
    · exact absurd hr v.ro
    · exact h.bd d hd hr k hk
/-! ### a function value is called whose function is not known -/
def enters (P : Program) (f : FuncId) : Bool := match P.funcs[f]? with | some fn => fn.name != "runtime.NumGoroutine" && !fn.body.isNone | none => false
theorem run_enters {f : FuncId} (h : enters P f = true) (args : Array Value) (w : World) : (callFunc f args).run P w = .ok (.enter f args) w := by
  unfold enters at h
  split at h
  · rename_i fn hfn
    simp only [Bool.and_eq_true, bne_iff_ne, ne_eq, Bool.not_eq_true'] at h
    unfold callFunc
    simp only [Sem.run_bind, run_program, Result.andThen_ok, hfn]
    rw [if_neg (by simpa using h.1), if_neg (by rw [h.2]; decide)]
    rfl
  · cases h
def callvOf (ops : Array Oper) (nt : Nat) (i : Nat) (fr : Fr) : Option (Value × List Value × Option Nat) :=
  match opAt ops nt i fr with
  | some o => match o.op with
    | .call c => match c.callee with
      | .value f => some (ev fr f, (c.args.map (ev fr)).toList, o.dst)
      | _ => none
    | _ => none
  | none => none
theorem callv_sound {ops : Array Oper} {i : Nat} {f : FuncId} {first caps : Array Value} {args : List Value} {dst : Option Nat} (hc : callvOf ops Γ.nt i s.fr = some (.func (.func f) first caps, args, dst)) (he : enters Γ.P f = true)
    {pre rest : Hp} {R : Value → Hp → Prop} (hf : Does Γ.P f (first.toList ++ args ++ caps.toList) pre R) (g : Give s.hp pre rest) {a : Act} {w : World} (hS : Sat Γ s a w) {K : Act → World → Prop}
    (hK : ∀ v hp', R v hp' → ∀ a' w', Sat Γ ⟨putFr s.fr dst v, hp' ++ rest⟩ a' w' → K a' w') : wpOp Γ.P ops Q i K a w := by
  unfold callvOf opAt at hc
  unfold wpOp
  cases hoi : ops[i]? with
  | none => rw [hoi] at hc; cases hc
  | some o =>
    rw [hoi] at hc
    simp only at hc ⊢
    split at hc
    case h_2 => cases hc
    case h_1 o' ho' =>
      split at ho'
      case h_2 => cases ho'
      case h_1 hd hw hk =>
        simp only [Option.some.injEq] at ho'
        subst ho'
        split at hc
        case h_2 => cases hc
        case h_1 c hop =>
          split at hc
          case h_2 => cases hc
          case h_1 fo hcal =>
            simp only [Option.some.injEq, Prod.mk.injEq] at hc
            obtain ⟨hfo, hargs, rfl⟩ := hc
            rw [wants_ok hS.fr hw]
            simp only [if_true]
            refine .inl ?_
            unfold Oper.wp
            have hrun : (execOp (ev s.fr) o).run Γ.P w = .ok (.enter f (first ++ (c.args.map (ev s.fr)) ++ caps)) w := by
              unfold execOp
              rw [hop]
              simp only [resolve, hcal, hfo, Deferred.ofValue, invoke, Sem.run_bind, Sem.run_pure, Result.andThen_ok, run_enters he]
            rw [ev_eq hS.fr hk, hrun]
            have hl : (first ++ (c.args.map (ev s.fr)) ++ caps) = (first.toList ++ args ++ caps.toList).toArray := by
              apply Array.ext'; rw [← hargs]; simp
            rw [hl]
            refine Calls.mono (hf w (g.sat w hS.hs).1) ?_
            rintro e w' ⟨v, hp', hR, rfl, h1, h2, h3, h4⟩
            obtain ⟨k1, k2, k3⟩ := hS.behind g h1 h2 h3 h4
            exact hK v hp' hR _ _ ⟨(size_put _ _).trans hS.size, (defers_put _ _).trans hS.defers, FrOk.putFr hS.fr hS.size hd v, k1, k2, k3⟩
theorem wpr_callv {ops : Array Oper} {i : Nat} {l₂ : List Nat} {f : FuncId} {first caps : Array Value} {args : List Value} {dst : Option Nat} (hc : callvOf ops Γ.nt i s.fr = some (.func (.func f) first caps, args, dst)) (he : enters Γ.P f = true)
    {pre rest : Hp} {R : Value → Hp → Prop} (hf : Does Γ.P f (first.toList ++ args ++ caps.toList) pre R) (g : Give s.hp pre rest)
    (h : ∀ v hp', R v hp' → WpR Γ ops l₂ ⟨putFr s.fr dst v, hp' ++ rest⟩ Q) : WpR Γ ops (i :: l₂) s Q := fun a w hS => by
  rw [wpOps_cons]
  exact callv_sound hc he hf g hS fun v hp' hR a' w' hS' => h v hp' hR a' w' hS'
theorem wpr_callv_all {ops : Array Oper} {i : Nat} {l₂ : List Nat} {f : FuncId} {first caps : Array Value} {args : List Value} {dst : Option Nat} (hc : callvOf ops Γ.nt i s.fr = some (.func (.func f) first caps, args, dst)) (he : enters Γ.P f = true)
    {pre : Hp} {R : Value → Hp → Prop} (hf : Does Γ.P f (first.toList ++ args ++ caps.toList) pre R) (g : Give s.hp pre [])
    (h : ∀ v hp', R v hp' → WpR Γ ops l₂ ⟨putFr s.fr dst v, hp'⟩ Q) : WpR Γ ops (i :: l₂) s Q :=
  wpr_callv hc he hf g fun v hp' hR => by rw [List.append_nil]; exact h v hp' hR
/-! ### heaps within one chunk -/
def starQ (hp : Hp) : Oq where
  own := fun k => ∃ c ∈ hp, c.own k
  rw := True
  holds := fun w => HS hp w ∧ ∀ c ∈ hp, c.rw
  loc := fun w w' hk ⟨h, hr⟩ => ⟨⟨fun c hc => c.loc (fun k hck => hk k ⟨c, hc, hck⟩) (h.holds c hc), h.apart⟩, hr⟩
  lt := fun w k ⟨h, _⟩ ⟨c, hc, hck⟩ => c.lt (h.holds c hc) hck
def star (hp : Hp) : Ch := .op (starQ hp)
theorem ent_star {fr : Fr} {hp rest : Hp} (hr : ∀ c ∈ hp, c.rw) : Ent Γ ⟨fr, hp ++ rest⟩ ⟨fr, star hp :: rest⟩ := fun a w h => by
  obtain ⟨h1, h2, h3⟩ := h.hs.split
  refine ⟨h.size, h.defers, h.fr, ⟨fun c hc => ?_, List.pairwise_cons.2 ⟨fun d hd => .inr fun k hk hdk => ?_, h2.apart⟩⟩, h.ext, fun c hc hcr k hk => ?_⟩
  · rcases List.mem_cons.1 hc with rfl | hc
    · exact ⟨h1, hr⟩
    · exact h2.holds c hc
  · obtain ⟨c, hc, hck⟩ := hk
    rcases h3 c hc d hd with ⟨h4, _⟩ | h4
    · exact h4 (hr c hc)
    · exact h4 k hck hdk
  · rcases List.mem_cons.1 hc with rfl | hc
    · obtain ⟨d, hd, hdk⟩ := hk
      exact h.bd d (List.mem_append.2 (.inl hd)) (hr d hd) k hdk
    · exact h.bd c (List.mem_append.2 (.inr hc)) hcr k hk
theorem ent_unstar {fr : Fr} {hp rest : Hp} : Ent Γ ⟨fr, star hp :: rest⟩ ⟨fr, hp ++ rest⟩ := fun a w h => by
  have h1 := h.hs.holds (star hp) (by simp)
  have h2 := List.pairwise_cons.1 h.hs.apart
  obtain ⟨h3, h4⟩ : HS hp w ∧ ∀ c ∈ hp, c.rw := h1
  refine ⟨h.size, h.defers, h.fr, ⟨fun c hc => ?_, List.pairwise_append.2 ⟨h3.apart, h2.2, fun c hc d hd => .inr fun k hk hdk => ?_⟩⟩, h.ext, fun c hc hcr k hk => ?_⟩
  · rcases List.mem_append.1 hc with hc | hc
    · exact h3.holds c hc
    · exact h.hs.holds c (List.mem_cons_of_mem _ hc)
  · rcases h2.1 d hd with ⟨h5, _⟩ | h5
    · exact h5 trivial
    · exact h5 k ⟨c, hc, hk⟩ hdk
  · rcases List.mem_append.1 hc with hc | hc
    · exact h.bd (star hp) (by simp) trivial k ⟨c, hc, hk⟩
    · exact h.bd c (List.mem_cons_of_mem _ hc) hcr k hk
end Go.Sx
namespace Go.Sx
open Go
open Go.Proofs.YtgcfomhlgipllaaGreatDoor
structure Shape (α : Type) where
  C : α → List Value
  D : α → World → Prop
  O : α → Nat → Prop
  B : α → Nat
  V : α → Prop
  one : ∀ x, One (C x)
  loc : ∀ x (w w' : World), (∀ k, O x k → w'.heap[k]? = w.heap[k]?) → D x w → D x w'
  lt : ∀ x (w : World) k, D x w → O x k → k < w.heap.size
def deepQ {α : Type} (S : Shape α) (x : α) : Oq where
  own := S.O x
  rw := False
  holds := S.D x
  loc := S.loc x
  lt := S.lt x
def deep {α : Type} (S : Shape α) (x : α) : Ch := .op (deepQ S x)
def Opens {α : Type} (P : Program) (t : TypeId) (k : Nat) (S : Shape α) : Prop :=
  (∀ x, (S.C x).length = k) ∧ P.cellsOf t = k ∧ ∀ {H : Type} {enc : TypeId × Value → H} {W : World} {base : Nat} {held : Bool} (n : Nat) (cs : List Value) (y : DataW H × List MemPlace),
    DataW.trod enc P W base (fun _ => true) held n t cs = some y → ∃ x : α, cs = S.C x ∧ S.D x W ∧ S.B x ≤ Rows.uptoBulk y.1 ∧ S.V x
/-! ### plain ones -/
def intS (k : IntKind) : Shape Int where
  C := fun n => [.int k n]
  D := fun _ _ => True
  O := fun _ _ => False
  B := fun _ => 1
  V := fun n => (Lit.int k n).wf = true
  one := fun n => by simp [One, Value.oneCell']
  loc := fun _ _ _ _ h => h
  lt := fun _ _ _ _ h => h.elim
def boolS : Shape Bool where
  C := fun n => [.bool n]
  D := fun _ _ => True
  O := fun _ _ => False
  B := fun _ => 1
  V := fun _ => True
  one := fun n => by simp [One, Value.oneCell']
  loc := fun _ _ _ _ h => h
  lt := fun _ _ _ _ h => h.elim
def strS : Shape (List UInt8) where
  C := fun l => [.string (mkS l)]
  D := fun _ _ => True
  O := fun _ _ => False
  B := fun l => l.length + 1
  V := fun _ => True
  one := fun n => by simp [One, Value.oneCell']
  loc := fun _ _ _ _ h => h
  lt := fun _ _ _ _ h => h.elim
theorem bulk_pos {H : Type} (d : DataW H) : 1 ≤ Rows.uptoBulk d := by
  cases d with
  | lit q => cases q <;> simp [Rows.uptoBulk]
  | _ => simp [Rows.uptoBulk]
theorem opens_int {P : Program} {t : TypeId} {k : IntKind} (ht : P.underlying t = some (.int k)) (hc : P.cellsOf t = 1) : Opens P t 1 (intS k) :=
  ⟨fun _ => rfl, hc, fun n cs y h => by
    obtain ⟨v, rfl, rfl, hw⟩ := DataW.trod_int ht h
    exact ⟨v, rfl, trivial, bulk_pos _, hw⟩⟩
theorem opens_bool {P : Program} {t : TypeId} (ht : P.underlying t = some .bool) (hc : P.cellsOf t = 1) : Opens P t 1 boolS :=
  ⟨fun _ => rfl, hc, fun n cs y h => by
    obtain ⟨v, rfl, rfl⟩ := DataW.trod_bool ht h
    exact ⟨v, rfl, trivial, bulk_pos _, trivial⟩⟩
theorem opens_str {P : Program} {t : TypeId} (ht : P.underlying t = some .string) (hc : P.cellsOf t = 1) : Opens P t 1 strS :=
  ⟨fun _ => rfl, hc, fun n cs y h => by
    obtain ⟨v, rfl, rfl, hw⟩ := DataW.trod_string ht h
    exact ⟨v.data.toList, rfl, trivial, by simp [strS, Rows.uptoBulk], trivial⟩⟩
/-! ### one behind the other -/
def pairS {α β : Type} (S : Shape α) (T : Shape β) : Shape (α × β) where
  C := fun x => S.C x.1 ++ T.C x.2
  D := fun x w => S.D x.1 w ∧ T.D x.2 w
  O := fun x k => S.O x.1 k ∨ T.O x.2 k
  B := fun x => S.B x.1 + T.B x.2
  V := fun x => S.V x.1 ∧ T.V x.2
  one := fun x u hu => (List.mem_append.1 hu).elim (S.one _ u) (T.one _ u)
  loc := fun x w w' hk h => ⟨S.loc _ w w' (fun k h => hk k (.inl h)) h.1, T.loc _ w w' (fun k h => hk k (.inr h)) h.2⟩
  lt := fun x w k h ho => ho.elim (S.lt _ w k h.1) (T.lt _ w k h.2)
def upS {α : Type} (S : Shape α) : Shape α := { S with B := fun x => S.B x + 1 }
def OpensFs {α : Type} (P : Program) (off : Nat) (fs : List Field) (k : Nat) (S : Shape α) : Prop :=
  (∀ x, (S.C x).length = k) ∧ ∀ {H : Type} {enc : TypeId × Value → H} {W : World} {base : Nat} {held : Bool} (n : Nat) (cs : List Value) (xs : List (DataW H × List MemPlace)),
    cs.length = k → xs.length = fs.length → (∀ (i : Nat) (f : Field), fs[i]? = some f → DataW.trod enc P W base (fun _ => true) held n f.type ((cs.drop (f.offset - off)).take (P.cellsOf f.type)) = xs[i]?) →
    ∃ x : α, cs = S.C x ∧ S.D x W ∧ S.B x ≤ Rows.uptoBulkAll (xs.map (·.1)) ∧ S.V x
theorem opensFs_one {α : Type} {P : Program} {off : Nat} {f : Field} {k : Nat} {S : Shape α} (h : Opens P f.type k S) (ho : f.offset = off) : OpensFs P off [f] k S :=
  ⟨h.1, fun n cs xs hl hx hi => by
    obtain ⟨y, rfl⟩ : ∃ y, xs = [y] := by
      match xs, hx with
      | [y], _ => exact ⟨y, rfl⟩
    have h0 := hi 0 f rfl
    rw [ho, Nat.sub_self, List.drop_zero, h.2.1, List.take_of_length_le (by omega)] at h0
    obtain ⟨x, h1, h2, h3, h4⟩ := h.2.2 n cs y h0
    exact ⟨x, h1, h2, by simp only [List.map_cons, List.map_nil, Rows.uptoBulkAll]; omega, h4⟩⟩
theorem opensFs_cons {α β : Type} {P : Program} {off : Nat} {f : Field} {fs : List Field} {k m : Nat} {S : Shape α} {T : Shape β} (h : Opens P f.type k S) (ho : f.offset = off) (hf : fs.all (fun g => Nat.ble (off + k) g.offset) = true) (hT : OpensFs P (off + k) fs m T) : OpensFs P off (f :: fs) (k + m) (pairS S T) :=
  ⟨fun x => by simp only [pairS, List.length_append, h.1, hT.1], fun n cs xs hl hx hi => by
    obtain ⟨y, ys, rfl⟩ : ∃ y ys, xs = y :: ys := by
      match xs, hx with
      | y :: ys, _ => exact ⟨y, ys, rfl⟩
    have h0 := hi 0 f rfl
    rw [ho, Nat.sub_self, List.drop_zero, h.2.1] at h0
    obtain ⟨x, h1, h2, h3, h4⟩ := h.2.2 n _ y h0
    obtain ⟨z, g1, g2, g3, g4⟩ := hT.2 (W := _) n (cs.drop k) ys (by rw [List.length_drop]; omega) (by simpa using hx) (fun i g hg => by
      have h5 := hi (i + 1) g (by simpa using hg)
      have hge : off + k ≤ g.offset := Nat.le_of_ble_eq_true (List.all_eq_true.1 hf g (List.mem_of_getElem? hg))
      rw [List.drop_drop, show k + (g.offset - (off + k)) = g.offset - off by omega]
      simpa using h5)
    refine ⟨(x, z), ?_, ⟨h2, g2⟩, ?_, ⟨h4, g4⟩⟩
    · show cs = S.C x ++ T.C z
      rw [← h1, ← g1, List.take_append_drop]
    · simp only [List.map_cons, Rows.uptoBulkAll, pairS]; omega⟩
theorem opens_struct {α : Type} {P : Program} {t : TypeId} {fs : Array Field} {k : Nat} {S : Shape α} (ht : P.underlying t = some (.struct fs)) (hc : P.cellsOf t = k) (h : OpensFs P 0 fs.toList k S) : Opens P t k (upS S) :=
  ⟨h.1, hc, fun n cs y hy => by
    obtain ⟨xs, m, rfl, rfl, hl, hx, hi⟩ := DataW.trod_struct ht hy
    obtain ⟨x, h1, h2, h3, h4⟩ := h.2 m cs xs (hl.trans hc) (by simpa using hx) (fun i f hf => by
      have := hi i f (by simpa using hf)
      simpa using this)
    exact ⟨x, h1, h2, by simp only [Rows.uptoBulk, upS]; omega, h4⟩⟩
/-! ### slices -/
def sumB {α : Type} (S : Shape α) : List α → Nat
  | [] => 0
  | x :: r => S.B x + sumB S r
theorem sumB_le {α H : Type} (S : Shape α) : ∀ (l : List α) (ds : List (DataW H)), ds.length = l.length → (∀ (i : Nat) x, l[i]? = some x → ∃ y, ds[i]? = some y ∧ S.B x ≤ Rows.uptoBulk y) → sumB S l ≤ Rows.uptoBulkAll ds
  | [], _, _, _ => Nat.zero_le _
  | x :: r, ds, hl, h => by
    match ds, hl with
    | d :: ds, hl =>
      obtain ⟨y, hy, hb⟩ := h 0 x rfl
      simp only [List.getElem?_cons_zero, Option.some.injEq] at hy
      subst hy
      have := sumB_le S r ds (by simpa using hl) (fun i z hz => by simpa using h (i + 1) z (by simpa using hz))
      simp only [sumB, Rows.uptoBulkAll]; omega
abbrev Sl (α : Type) := Option Addr × Nat × List α
def sliceS {α : Type} (S : Shape α) : Shape (Sl α) where
  C := fun x => [.slice x.1 x.2.2.length x.2.1]
  D := fun x w => roH x.1 (x.2.2.flatMap S.C) w ∧ ∀ y ∈ x.2.2, S.D y w
  O := fun x k => (rowOwn x.1 k ∧ x.2.2.flatMap S.C ≠ []) ∨ ∃ y ∈ x.2.2, S.O y k
  B := fun x => sumB S x.2.2 + 1
  V := fun x => (x.1 = none → x.2.2 = []) ∧ x.2.2.length ≤ x.2.1 ∧ x.2.1 ≤ maxLen ∧ ∀ y ∈ x.2.2, S.V y
  one := fun n => by simp [One, Value.oneCell']
  loc := fun x w w' hk h => ⟨(roQ x.1 (x.2.2.flatMap S.C)).loc w w' (fun k h => hk k (.inl h)) h.1, fun y hy => S.loc y w w' (fun k h => hk k (.inr ⟨y, hy, h⟩)) (h.2 y hy)⟩
  lt := fun x w k h ho => ho.elim (fun ho => (roQ x.1 (x.2.2.flatMap S.C)).lt w k h.1 ho) fun ⟨y, hy, ho⟩ => S.lt y w k (h.2 y hy) ho
theorem opens_slice {α : Type} {P : Program} {t e : TypeId} {k : Nat} {S : Shape α} (ht : P.underlying t = some (.slice e)) (hc : P.cellsOf t = 1) (h : Opens P e k S) : Opens P t 1 (sliceS S) :=
  ⟨fun _ => rfl, hc, fun {H enc W base held} n cs y hy => by
    have hkey : ∀ (a : Option Addr) (len cap : Nat), cs = [.slice a len cap] → len ≤ cap → cap ≤ maxLen → ∃ x : Sl α, cs = (sliceS S).C x ∧ (sliceS S).D x W ∧ (sliceS S).B x ≤ Rows.uptoBulk y.1 ∧ (sliceS S).V x := by
      intro a len cap hcs hlc hcm
      subst hcs
      obtain ⟨l, rfl, hn, hro, ds, sp, hds, hd, hel⟩ := slice_in (H := H) (enc := enc) (base := base) (held := held) (W := W) S.C h.1 S.one ht h.2.1 (fun x d => S.D x W ∧ S.B x ≤ Rows.uptoBulk d ∧ S.V x)
        (fun n cs y hy => by obtain ⟨x, h1, h2, h3, h4⟩ := h.2.2 n cs y hy; exact ⟨x, h1, h2, h3, h4⟩) (a := a) (len := len) (cap := cap) (d := y.1) (p := y.2) (fuel := n) (by
          have : (Value.cells (.slice a len cap)).toList = [.slice a len cap] := rfl
          rw [this]; exact hy)
      have hmem : ∀ x ∈ l, S.D x W ∧ S.V x := fun x hx => by
        obtain ⟨i, hi⟩ := List.getElem?_of_mem hx
        obtain ⟨d, _, h1, _, h2⟩ := hel i x hi
        exact ⟨h1, h2⟩
      refine ⟨(a, cap, l), rfl, ⟨hro, fun x hx => (hmem x hx).1⟩, ?_, ⟨hn, hlc, hcm, fun x hx => (hmem x hx).2⟩⟩
      have hs := sumB_le S l ds (by rw [hds]) (fun i x hx => by obtain ⟨d, h1, _, h2, _⟩ := hel i x hx; exact ⟨d, h1, h2⟩)
      show sumB S l + 1 ≤ _
      rcases hd with hd | ⟨hd, rfl⟩
      · rw [hd]; simp only [Rows.uptoBulk]; omega
      · simp only [Rows.uptoBulkAll] at hs
        have := bulk_pos y.1
        omega
    rcases DataW.trod_slice ht hy with ⟨hcs, hx⟩ | ⟨ad, l, c, elems, rest, m, _, hcs, hx, hb, hl, hm, _⟩
    · exact hkey none 0 0 hcs (Nat.le_refl _) (Nat.zero_le _)
    · exact hkey (some ad) l c hcs hl hm⟩
end Go.Sx
namespace Go.Sx
open Go
set_option linter.unusedVariables false in
theorem Does.pre {P : Program} {f : FuncId} {args : List Value} {pre pre' : Hp} {R : Value → Hp → Prop} (h : Does P f args pre' R) (hs : ∀ w, HS pre w → HS pre' w) (hf : ∀ k, foot pre' k → foot pre k) : Does P f args pre R := fun w hw =>
  (h w (hs w hw)).mono fun e w' ⟨v, hp', hR, he, h1, h2, h3, h4⟩ => ⟨v, hp', hR, he, h1, ⟨h2.os, h2.tape, h2.output, h2.size, fun k hk hn => h2.block k hk (fun hh => hn (hf k hh))⟩, fun c hc hr k hk => (h3 c hc hr k hk).imp (hf k) id, h4⟩
theorem val_agg {v : Value} {cs : Array Value} {l : List Value} (h : v = .agg cs) (hc : v.cells.toList = l) : v = .agg l.toArray := by
  subst h
  have h2 : cs.toList = l := hc
  rw [← h2]
theorem val_one {v u : Value} (h : ∀ cs, v ≠ .agg cs) (hc : v.cells.toList = [u]) : v = u := by
  cases v <;> first | exact absurd rfl (h _) | (simp [Value.cells] at hc; exact hc)
theorem hs_ro {hp : Hp} {w : World} (h : ∀ c ∈ hp, c.holds w) (hr : ∀ c ∈ hp, ¬ c.rw) : HS hp w :=
  ⟨h, by
    induction hp with
    | nil => exact .nil
    | cons c r ih => exact List.pairwise_cons.2 ⟨fun d hd => .inl ⟨hr c (by simp), hr d (List.mem_cons_of_mem _ hd)⟩, ih (fun d hd => h d (List.mem_cons_of_mem _ hd)) (fun d hd => hr d (List.mem_cons_of_mem _ hd))⟩⟩
end Go.Sx
namespace Go.Sx
open Go
variable {P : Program} {Γ : Cx} {Q : Exit → Act → World → Prop} {s : St}
end Go.Sx
namespace Go.Sx
open Go
variable {P : Program} {Γ : Cx} {Q : Exit → Act → World → Prop} {s : St}
end Go.Sx
namespace Go.Sx
open Go
inductive Up : Fr → Fr → Prop
  | a {l : Fr} : Up l l
  | z {l : Fr} : Up l []
  | k {x : Nat × Value} {l m : Fr} : Up l m → Up (x :: l) (x :: m)
  | d {x : Nat × Value} {l m : Fr} : Up l m → Up (x :: l) m
  | i {l m : Fr} (n : Nat) (v : Value) : Up l m → Up l ((n, v) :: m)
inductive Un : List Nat → List Nat → Prop
  | a {l : List Nat} : Un l l
  | z {l : List Nat} : Un l []
  | d {x : Nat} {l m : List Nat} : Un l m → Un (x :: l) m
inductive Uv : List Value → List Value → Prop
  | a {l : List Value} : Uv l l
  | z {l : List Value} : Uv l []
  | k {x : Value} {l m : List Value} : Uv l m → Uv (x :: l) (x :: m)
  | d {x : Value} {l m : List Value} : Uv l m → Uv (x :: l) m
  | i {l m : List Value} (v : Value) : Uv l m → Uv l (v :: m)
inductive Uh : Hp → Hp → Prop
  | a {l : Hp} : Uh l l
  | z {l : Hp} : Uh l []
  | k {x : Ch} {l m : Hp} : Uh l m → Uh (x :: l) (x :: m)
  | d {x : Ch} {l m : Hp} : Uh l m → Uh (x :: l) m
  | i {l m : Hp} (y : Ch) : Uh l m → Uh l (y :: m)
  | u {g : Nat} {T : TypeId} {v v' : List Value} {l m : Hp} : Uv v v' → Uh l m → Uh (.blk g T v :: l) (.blk g T v' :: m)
variable {Γ : Cx} {Q : Exit → Act → World → Prop} {s : St}
def LL (r : Option Rs) (l l₁ l₂ : List Nat) (fr' : Fr) : Option (List (Option Value) × Hp × List Nat × List Prop) × Bool × List Nat :=
  (r.map fun r => (fr'.map (fun p => look r.fr p.1), r.hp, r.gs, r.vc), true, l)
def RL (r : Option Rs) (l₁ l₂ : List Nat) (fr' : Fr) (hp' : Hp) (vc : List Prop) : Option (List (Option Value) × Hp × List Nat × List Prop) × Bool × List Nat :=
  (r.map fun r => (fr'.map (fun p => some p.2), hp', r.ws, vc), r.isSome, l₁ ++ l₂)
def fstOf (l l₂ : List Nat) : List Nat := l.take (l.length - l₂.length)
theorem RR {ops : Array Oper} {l l₂ : List Nat} {fr' : Fr} {hp' : Hp} (sc : List Nat) (e : Un l l₂) (f : Up s.fr fr') (u : Uh s.hp hp')
    (h : WpR Γ ops l₂ ⟨fr', hp'⟩ Q)
    (c : LL (sops Γ.P true ops Γ.nt (fstOf l l₂) s.fr s.hp none sc) l (fstOf l l₂) l₂ fr' = RL (sops Γ.P true ops Γ.nt (fstOf l l₂) s.fr s.hp none sc) (fstOf l l₂) l₂ fr' hp' [] := by kernel_rfl) : WpR Γ ops l s Q := by
  simp only [LL, RL, Prod.mk.injEq] at c
  obtain ⟨c1, c2, c3⟩ := c
  rw [c3]
  exact wpr_run true _ sc fr' hp' [] c2.symm c1 trivial h
theorem RV {ops : Array Oper} {l l₂ : List Nat} {fr' : Fr} {hp' : Hp} (md : Bool) (sc : List Nat) (e : Un l l₂) (f : Up s.fr fr') (u : Uh s.hp hp') (vc : List Prop) (hv : AllP vc)
    (h : WpR Γ ops l₂ ⟨fr', hp'⟩ Q)
    (c : LL (sops Γ.P md ops Γ.nt (fstOf l l₂) s.fr s.hp none sc) l (fstOf l l₂) l₂ fr' = RL (sops Γ.P md ops Γ.nt (fstOf l l₂) s.fr s.hp none sc) (fstOf l l₂) l₂ fr' hp' vc := by kernel_rfl) : WpR Γ ops l s Q := by
  simp only [LL, RL, Prod.mk.injEq] at c
  obtain ⟨c1, c2, c3⟩ := c
  rw [c3]
  exact wpr_run md _ sc fr' hp' vc c2.symm c1 hv h
theorem RN {ops : Array Oper} {l l₂ : List Nat} {fr' : Fr} {hp' : Hp} (sc : List Nat) (e : Un l l₂) (d : Nat) (V : Nat → Value) (f : Up s.fr fr') (u : Uh s.hp hp') (T : TypeId) (vs : List Value)
    (h : ∀ g, WpR Γ ops l₂ ⟨(d, V g) :: fr', hp' ++ [.blk g T vs]⟩ Q)
    (c : ∀ g, LL (sops Γ.P true ops Γ.nt (fstOf l l₂) s.fr s.hp (some g) sc) l (fstOf l l₂) l₂ ((d, V g) :: fr') = RL (sops Γ.P true ops Γ.nt (fstOf l l₂) s.fr s.hp (some g) sc) (fstOf l l₂) l₂ ((d, V g) :: fr') (hp' ++ [.blk g T vs]) [] := by intro; kernel_rfl) : WpR Γ ops l s Q := by
  simp only [LL, RL, Prod.mk.injEq] at c
  rw [(c 0).2.2]
  exact wpr_new true _ sc (fun g => (d, V g) :: fr') (fun g => hp' ++ [.blk g T vs]) (fun _ => []) (fun g => (c g).2.1.symm) (fun g => (c g).1) (fun _ => trivial) h
theorem RP {ops : Array Oper} {l l₂ : List Nat} {fr' : Fr} {hp' : Hp} (sc : List Nat) (e : Un l l₂) (d : Nat) (f : Up s.fr fr') (u : Uh s.hp hp') (T : TypeId) (vs : List Value)
    (h : ∀ g, WpR Γ ops l₂ ⟨(d, .pointer (some ⟨g, 0, none⟩)) :: fr', hp' ++ [.blk g T vs]⟩ Q)
    (c : ∀ g, LL (sops Γ.P true ops Γ.nt (fstOf l l₂) s.fr s.hp (some g) sc) l (fstOf l l₂) l₂ ((d, .pointer (some ⟨g, 0, none⟩)) :: fr') = RL (sops Γ.P true ops Γ.nt (fstOf l l₂) s.fr s.hp (some g) sc) (fstOf l l₂) l₂ ((d, .pointer (some ⟨g, 0, none⟩)) :: fr') (hp' ++ [.blk g T vs]) [] := by intro; kernel_rfl) : WpR Γ ops l s Q :=
  RN sc e d _ f u T vs h c
theorem RZ {ops : Array Oper} (h : Nx Γ s Q .normal) : WpR Γ ops [] s Q := wpr_nil h
theorem NT {y : Code} (h : WpC Γ y s Q) : Nx Γ s (Exit.then (fun a w => y.wp Γ.P Q a w) Q) .normal := nx_then h
theorem SQ {x y : Code} (h : WpC Γ x s (Exit.then (fun a w => y.wp Γ.P Q a w) Q)) : WpC Γ (.seq x y) s Q := wpc_seq h
theorem RG {id : Nat} {ops : Array Oper} (h : WpR Γ ops (List.range ops.size) s Q) : WpC Γ (.region id ops false) s Q := wpc_region _ rfl h
theorem CT {c : Operand} {x y : Code} (h : WpC Γ x s Q) (hc : (match c with | .tmp t => look s.fr t | c => some (ev [] c)) = some (.bool true) := by kernel_rfl) : WpC Γ (.cond c x y) s Q := wpc_true hc h
theorem CF {c : Operand} {x y : Code} (h : WpC Γ y s Q) (hc : (match c with | .tmp t => look s.fr t | c => some (ev [] c)) = some (.bool false) := by kernel_rfl) : WpC Γ (.cond c x y) s Q := wpc_false hc h
theorem RE (h : Nx Γ s Q .ret) : WpC Γ .ret s Q := wpc_ret h
theorem SK (h : Nx Γ s Q .normal) : WpC Γ .skip s Q := wpc_skip h
theorem EX {id : Nat} (h : Nx Γ s Q (.exit id)) : WpC Γ (.exit id) s Q := wpc_exit h
theorem BK {id : Nat} {c : Code} (h : WpC Γ c s (Exit.inBlock id Q)) : WpC Γ (.block id c) s Q := wpc_block h
theorem BN {id : Nat} (h : Nx Γ s Q .normal) : Nx Γ s (Exit.inBlock id Q) .normal := nx_block h
theorem BR {id : Nat} (h : Nx Γ s Q .ret) : Nx Γ s (Exit.inBlock id Q) .ret := nx_block_ret h
theorem BH {id : Nat} (h : Nx Γ s Q .normal) : Nx Γ s (Exit.inBlock id Q) (.exit id) := nx_block_here h
theorem BF {id id' : Nat} (h : Nx Γ s Q (.exit id')) (hne : (id' == id) = false := by kernel_rfl) : Nx Γ s (Exit.inBlock id Q) (.exit id') := nx_block_far hne h
theorem TE {K : Act → World → Prop} {id : Nat} (h : Nx Γ s Q (.exit id)) : Nx Γ s (Exit.then K Q) (.exit id) := nx_then_exit h
theorem TR {K : Act → World → Prop} (h : Nx Γ s Q .ret) : Nx Γ s (Exit.then K Q) .ret := nx_then_ret h
theorem SR {ops : Array Oper} {l : List Nat} (d : Nat) (b c : Bool) (p : b = c) (h : WpR Γ ops l ⟨(d, .bool c) :: s.fr, s.hp⟩ Q) (hd : look s.fr d = some (.bool b) := by kernel_rfl) : WpR Γ ops l s Q := wpr_ent (fun a w hS => hS.setBool hd p) h
theorem SC {x : Code} (d : Nat) (b c : Bool) (p : b = c) (h : WpC Γ x ⟨(d, .bool c) :: s.fr, s.hp⟩ Q) (hd : look s.fr d = some (.bool b) := by kernel_rfl) : WpC Γ x s Q := wpc_ent (fun a w hS => hS.setBool hd p) h
theorem GV {hp pre rest : Hp} (h : Give hp pre rest) (i : Nat) {c c' : Ch} (v : View c c') (hc : rest[i]? = some c := by rfl) : Give hp (c' :: pre) rest := h.view i hc v
theorem GI {hp pre rest : Hp} (is : List Nat) (h : picks is hp = some (pre, rest) := by kernel_rfl) : Give hp pre rest := give is h
theorem GJ {hp pre rest : Hp} (is : List Nat) (h : picks is hp = some (pre, rest) := by exact rfl) : Give hp pre rest := give is h
theorem GO {hp pre pre' rest : Hp} (g : Give hp pre rest) (is : List Nat) (h : picks is pre = some (pre', []) := by kernel_rfl) : Give hp pre' rest := g.reorder is h
theorem RC {ops : Array Oper} {i : Nat} {l₂ : List Nat} {f : FuncId} {args : List Value} {dst : Option Nat} {pre rest : Hp} {R : Value → Hp → Prop} (is : List Nat) (u : Uh s.hp rest) (hf : Does Γ.P f args pre R)
    (h : ∀ v hp', R v hp' → WpR Γ ops l₂ ⟨putFr s.fr dst v, hp' ++ rest⟩ Q)
    (hc : callOf Γ.P ops Γ.nt i s.fr = some (f, args, dst) := by kernel_rfl) (g : picks is s.hp = some (pre, rest) := by kernel_rfl) : WpR Γ ops (i :: l₂) s Q := wpr_call hc hf (give is g) h
theorem RCG {ops : Array Oper} {i : Nat} {l₂ : List Nat} {f : FuncId} {args : List Value} {dst : Option Nat} {pre rest : Hp} {R : Value → Hp → Prop} (u : Uh s.hp rest) (hf : Does Γ.P f args pre R) (g : Give s.hp pre rest)
    (h : ∀ v hp', R v hp' → WpR Γ ops l₂ ⟨putFr s.fr dst v, hp' ++ rest⟩ Q)
    (hc : callOf Γ.P ops Γ.nt i s.fr = some (f, args, dst) := by kernel_rfl) : WpR Γ ops (i :: l₂) s Q := wpr_call hc hf g h
theorem RCA {ops : Array Oper} {i : Nat} {l₂ : List Nat} {f : FuncId} {args : List Value} {dst : Option Nat} {R : Value → Hp → Prop} (hf : Does Γ.P f args s.hp R)
    (h : ∀ v hp', R v hp' → WpR Γ ops l₂ ⟨putFr s.fr dst v, hp'⟩ Q) (hc : callOf Γ.P ops Γ.nt i s.fr = some (f, args, dst) := by kernel_rfl) : WpR Γ ops (i :: l₂) s Q := wpr_call_all hc hf give_all h
theorem NE {P : Program} {w0 : World} {pre : Hp} {nt : Nat} {fn : Func} {R : Value → Hp → Prop} {hp' rest : Hp} {e : Exit} (is : List Nat) (u : Uh s.hp hp') (u' : Uh s.hp rest) (sc : List Nat) (v : Value) (hR : R v hp')
    (h1 : (resOf P fn s.fr s.hp sc).isSome = true := by kernel_rfl) (h2 : (resOf P fn s.fr s.hp sc).map (fun r => (r.1, r.2.1)) = (resOf P fn s.fr s.hp sc).map (fun r => (v, r.2.2.1)) := by kernel_rfl)
    (g : picks is s.hp = some (hp', rest) := by kernel_rfl) (hrw : AllRw hp' := by first | ((repeat (first | exact trivial | refine ⟨trivial, ?_⟩)); done) | assumption)
    (he : e = .normal ∨ e = .ret := by first | exact .inl rfl | exact .inr rfl) : Nx ⟨P, w0, foot pre, nt, []⟩ s (bodyPost P fn (Post w0 pre R)) e := nx_end sc v h1 h2 (give is g) hrw hR he
/-! ### regions that draw -/
theorem TK [PanicOk Q] {ops : Array Oper} {hs : Hp} {li : Array Bool} {fr' : Fr} (n : Nat) (l : List (Nat × List Nat)) (f : Up s.fr fr') (li' : Array Bool) {N : Nat} (h : WpA Γ ops hs n li' ⟨fr', s.hp⟩ Q)
    (hns : Region.noSelect ops = true := by kernel_rfl) (h1 : (stake Γ.P true ops Γ.nt hs l s.fr li).isSome = true := by kernel_rfl)
    (h2 : (stake Γ.P true ops Γ.nt hs l s.fr li).map (fun r => (fr'.map (fun p => look r.fr p.1), r.listed, r.gs, r.vc)) = (stake Γ.P true ops Γ.nt hs l s.fr li).map (fun r => (fr'.map (fun p => some p.2), li', r.ws, [])) := by kernel_rfl)
    (hN : n + l.length = N := by kernel_rfl) : WpA Γ ops hs N li s Q := by
  subst hN
  exact wpa_take true l fr' li' [] hns h1 h2 trivial h
theorem AO {ops : Array Oper} {hs : Hp} {li : Array Bool} {fr' : Fr} {hp' : Hp} (n i : Nat) (sc : List Nat) (f : Up s.fr fr') (u : Uh s.hp hp') (is : List Nat) {N : Nat}
    (h : WpA Γ ops hs n (li.setIfInBounds i true) ⟨fr', hp'⟩ Q) (hr : Region.ready .any ops li = [i] := by kernel_rfl)
    (h1 : (sop Γ.P true ops Γ.nt i s.fr s.hp none sc).isSome = true := by kernel_rfl)
    (h2 : (sop Γ.P true ops Γ.nt i s.fr s.hp none sc).map (fun r => (fr'.map (fun p => look r.fr p.1), r.hp, r.gs, r.vc)) = (sop Γ.P true ops Γ.nt i s.fr s.hp none sc).map (fun r => (fr'.map (fun p => some p.2), hp', r.ws, [])) := by kernel_rfl)
    (hsub : is.map (fun i => hp'[i]?) = hs.map some := by kernel_rfl) (hN : n + 1 = N := by kernel_rfl) : WpA Γ ops hs N li s Q := by
  subst hN
  exact wpa_one true i sc fr' hp' [] hr h1 h2 trivial (sub_of is hsub) h
theorem AC {ops : Array Oper} {hs : Hp} {li : Array Bool} {f : FuncId} {args : List Value} {dst : Option Nat} {pre rest : Hp} {R : Value → Hp → Prop} (n i : Nat) (u : Uh s.hp rest) (hf : Does Γ.P f args pre R) (g : Give s.hp pre rest) (is : List Nat) {N : Nat}
    (h : ∀ v hp', R v hp' → WpA Γ ops hs n (li.setIfInBounds i true) ⟨putFr s.fr dst v, hp' ++ rest⟩ Q)
    (hr : Region.ready .any ops li = [i] := by kernel_rfl) (hc : callOf Γ.P ops Γ.nt i s.fr = some (f, args, dst) := by kernel_rfl) (hsub : is.map (fun i => rest[i]?) = hs.map some := by kernel_rfl) (hN : n + 1 = N := by kernel_rfl) : WpA Γ ops hs N li s Q := by
  subst hN
  exact wpa_call hr hc hf g (sub_of is hsub) h
end Go.Sx
namespace Go.Proofs.YtgcfomhlgipllaaGreatDoor
open Go Go.Sx
def vb (f : Nat) : List UInt8 := if h : f < 128 then [UInt8.ofNat f] else UInt8.ofNat (f % 128 + 128) :: vb (f / 128)
termination_by f
decreasing_by omega
theorem vb_lt {f : Nat} (h : f < 128) : vb f = [UInt8.ofNat f] := by rw [vb, dif_pos h]
theorem vb_ge {f : Nat} (h : ¬ f < 128) : vb f = UInt8.ofNat (f % 128 + 128) :: vb (f / 128) := by rw [vb, dif_neg h]
def encI (n : Int) : List UInt8 := vb (foldN n).toNat
theorem foldN_nn (n : Int) : 0 ≤ foldN n := by unfold foldN; split <;> omega
theorem foldN_lt {n : Int} (h1 : -9223372036854775808 ≤ n) (h2 : n ≤ 9223372036854775807) : foldN n < 18446744073709551616 := by unfold foldN; split <;> omega
structure PI (F : Nat) where
  f : Nat
  ys : List UInt8
  a : Option Addr
  c : Nat
  h : ys ++ vb f = vb F
  hf : f < 18446744073709551616
end Go.Proofs.YtgcfomhlgipllaaGreatDoor
namespace Go.Proofs.YtgcfomhlgipllaaGreatDoor
open Go Go.Sx
def numGo : Nat → Nat → Nat → List UInt8 → Int × Int × Int
  | 0, _, _, _ => (0, 0, 4)
  | _ + 1, _, _, [] => (0, 0, 3)
  | k + 1, i, f, c :: s =>
    if i = 9 ∧ c ≠ 1 then (0, 0, 4)
    else if 128 ≤ c.toNat then numGo k (i + 1) (f + c.toNat % 128 * 128 ^ i) s
    else if c = 0 ∧ 0 < i then (0, 0, 4)
    else (unfoldN (f + c.toNat % 128 * 128 ^ i : Nat), i + 1, 0)
def num (s : List UInt8) : Int × Int × Int := numGo 10 0 0 s
structure NI (s : List UInt8) where
  i : Nat
  f : Nat
  hi : i ≤ 10
  hs : i ≤ s.length
  hf : f < 128 ^ i
  hn : numGo (10 - i) i f (s.drop i) = num s
end Go.Proofs.YtgcfomhlgipllaaGreatDoor
namespace Go.Proofs.YtgcfomhlgipllaaGreatDoor
open Go.RowKit
open Go.Sx in
theorem does_of_calls {P : Program} {f : FuncId} {args : List Value} {v : Value} (h : ∀ w, Calls P f args.toArray w fun e w' => e = .returned v ∧ Below w.heap.size w w') : Does P f args [] (fun v' hp' => v' = v ∧ hp' = []) := fun w _ =>
  (h w).mono fun e w' ⟨h1, h2⟩ => ⟨v, [], ⟨rfl, rfl⟩, h1, ⟨(fun c hc => by cases hc), List.Pairwise.nil⟩, ⟨h2.os, h2.tape, h2.output, h2.size, fun k hk _ => h2.block k hk⟩, (fun c hc => by cases hc), fun c hc => by cases hc⟩
end Go.Proofs.YtgcfomhlgipllaaGreatDoor
namespace Go.Proofs.YtgcfomhlgipllaaGreatDoor
open Go Go.Sx
theorem numGo_ok : ∀ (k i f : Nat) (s : List UInt8), ((numGo k i f s).2.2 = 0 ∧ (i : Int) < (numGo k i f s).2.1 ∧ (numGo k i f s).2.1 ≤ i + s.length) ∨ ((numGo k i f s).1 = 0 ∧ (numGo k i f s).2.1 = 0 ∧ ((numGo k i f s).2.2 = 3 ∨ (numGo k i f s).2.2 = 4))
  | 0, _, _, _ => .inr ⟨rfl, rfl, .inr rfl⟩
  | _ + 1, _, _, [] => .inr ⟨rfl, rfl, .inl rfl⟩
  | k + 1, i, f, c :: s => by
    unfold numGo
    split
    · exact .inr ⟨rfl, rfl, .inr rfl⟩
    · split
      · rcases numGo_ok k (i + 1) (f + c.toNat % 128 * 128 ^ i) s with h | h
        · exact .inl ⟨h.1, by have := h.2.1; omega, by have := h.2.2; simp only [List.length_cons]; omega⟩
        · exact .inr h
      · split
        · exact .inr ⟨rfl, rfl, .inr rfl⟩
        · exact .inl ⟨rfl, by simp only []; omega, by simp only [List.length_cons]; omega⟩
def cnt (s : List UInt8) (most : Int) : Int × Int × Int :=
  if (num s).2.2 ≠ 0 then (0, 0, (num s).2.2) else if (num s).1 < 0 then (0, 0, 4) else if (num s).1 > max 0 most then (0, 0, 5) else ((num s).1, (num s).2.1, 0)
theorem cnt_ok (s : List UInt8) (most : Int) : ((cnt s most).2.2 = 0 ∧ 0 ≤ (cnt s most).1 ∧ 0 < (cnt s most).2.1 ∧ (cnt s most).2.1 ≤ s.length) ∨ ((cnt s most).1 = 0 ∧ (cnt s most).2.1 = 0 ∧ (cnt s most).2.2 ≠ 0) := by
  have h := numGo_ok 10 0 0 s
  have hn : numGo 10 0 0 s = num s := rfl
  rw [hn] at h
  unfold cnt
  split
  · rename_i h1; exact .inr ⟨rfl, rfl, h1⟩
  · rename_i h1
    split
    · exact .inr ⟨rfl, rfl, by simp⟩
    · rename_i h2
      split
      · exact .inr ⟨rfl, rfl, by simp⟩
      · rcases h with h | h
        · exact .inl ⟨rfl, by simp only []; omega, by have := h.2.1; simpa using this, by have := h.2.2; simpa using this⟩
        · have := h.2.2; omega
end Go.Proofs.YtgcfomhlgipllaaGreatDoor
namespace Go.Proofs.YtgcfomhlgipllaaGreatDoor
open Go Go.Sx
def rd {α : Type} (z : α) (A : Nat) (e : Int) (x : α × Int × Int) : α × Nat × Int := if e ≠ 0 then (z, A, e) else if x.2.2 ≠ 0 then (z, A, x.2.2) else (x.1, A + x.2.1.toNat, 0)
theorem unfold_fold (n : Int) : unfoldN (foldN n) = n := by unfold unfoldN foldN; split <;> split <;> omega
theorem ofNat_toNat {n : Nat} (h : n < 256) : (UInt8.ofNat n).toNat = n := by rw [UInt8.toNat_ofNat']; omega
theorem num_vb : ∀ (k i f g : Nat) (more : List UInt8), i + k = 10 → 0 < k → (0 < i → 0 < g) → f + g * 128 ^ i < 18446744073709551616 →
    numGo k i f (vb g ++ more) = (unfoldN (f + g * 128 ^ i : Nat), ((i + (vb g).length : Nat) : Int), 0)
  | 0, _, _, _, _, _, h, _, _ => absurd h (by decide)
  | k + 1, i, f, g, more, hk, _, hg, hF => by
    have e9 : (128 : Nat) ^ 9 = 9223372036854775808 := by decide
    by_cases hs : g < 128
    · rw [vb_lt hs]
      have hc : (UInt8.ofNat g).toNat = g := ofNat_toNat (by omega)
      show numGo (k + 1) i f (UInt8.ofNat g :: more) = _
      unfold numGo
      rw [hc]
      have h9 : ¬ (i = 9 ∧ UInt8.ofNat g ≠ 1) := by
        rintro ⟨rfl, hne⟩
        rw [e9] at hF
        have : g = 1 := by have := hg (by decide); omega
        exact hne (by rw [this]; rfl)
      have h0 : ¬ (UInt8.ofNat g = 0 ∧ 0 < i) := by
        rintro ⟨h1, h2⟩
        have h3 := congrArg UInt8.toNat h1
        rw [hc] at h3
        have := hg h2
        have e0 : (0 : UInt8).toNat = 0 := rfl
        omega
      rw [if_neg h9, if_neg (by omega), if_neg h0, Nat.mod_eq_of_lt hs]
      simp
    · rw [vb_ge hs]
      have hc : (UInt8.ofNat (g % 128 + 128)).toNat = g % 128 + 128 := ofNat_toNat (by omega)
      have hi9 : i < 9 := by
        rcases Nat.lt_or_ge i 9 with h | h
        · exact h
        · have e : i = 9 := by omega
          subst e
          rw [e9] at hF
          omega
      show numGo (k + 1) i f (UInt8.ofNat (g % 128 + 128) :: (vb (g / 128) ++ more)) = _
      unfold numGo
      rw [hc]
      have e : f + (g % 128 + 128) % 128 * 128 ^ i + g / 128 * 128 ^ (i + 1) = f + g * 128 ^ i := by
        have h1 : (g % 128 + 128) % 128 = g % 128 := by omega
        have h2 : g / 128 * 128 ^ (i + 1) = (128 * (g / 128)) * 128 ^ i := by rw [Nat.pow_succ, Nat.mul_comm (128 ^ i), ← Nat.mul_assoc, Nat.mul_comm (g / 128)]
        rw [h1, h2, Nat.add_assoc, ← Nat.add_mul, Nat.mod_add_div]
      rw [if_neg (by omega), if_pos (by omega), num_vb k (i + 1) _ (g / 128) more (by omega) (by omega) (fun _ => by omega) (by rw [e]; exact hF), e]
      simp only [List.length_cons, Prod.mk.injEq, and_true, true_and]
      omega
theorem num_encI {n : Int} (h1 : -9223372036854775808 ≤ n) (h2 : n ≤ 9223372036854775807) (more : List UInt8) : num (encI n ++ more) = (n, ((encI n).length : Int), 0) := by
  have hF := foldN_lt h1 h2
  have hN := foldN_nn n
  have e : (((foldN n).toNat : Nat) : Int) = foldN n := Int.toNat_of_nonneg hN
  unfold num encI
  rw [num_vb 10 0 0 (foldN n).toNat more rfl (by decide) (fun h => absurd h (by decide)) (by simp; omega)]
  simp only [Nat.pow_zero, Nat.mul_one, Nat.zero_add, e, unfold_fold]
theorem cnt_encI {n most : Int} (h1 : 0 ≤ n) (h2 : n ≤ 9223372036854775807) (more : List UInt8) : cnt (encI n ++ more) most = if n > max 0 most then (0, 0, 5) else (n, ((encI n).length : Int), 0) := by
  unfold cnt
  rw [num_encI (by omega) h2]
  dsimp only
  rw [if_neg (by simp), if_neg (by omega)]
theorem fold_unfold (F : Int) (h : 0 ≤ F) : foldN (unfoldN F) = F := by unfold unfoldN foldN; split <;> split <;> omega
theorem num_inv : ∀ (k i f : Nat) (s : List UInt8) (x u : Int), numGo k i f s = (x, u, 0) →
    ∃ g : Nat, x = unfoldN (f + g * 128 ^ i : Nat) ∧ u = ((i + (vb g).length : Nat) : Int) ∧ s.take (vb g).length = vb g ∧ (vb g).length ≤ s.length ∧ (0 < i → 0 < g)
  | 0, _, _, _, x, u, h => by simp [numGo] at h
  | _ + 1, _, _, [], x, u, h => by simp [numGo] at h
  | k + 1, i, f, c :: s, x, u, h => by
    unfold numGo at h
    split at h
    · simp at h
    · split at h
      · rename_i hc
        obtain ⟨g, h1, h2, h3, h4, h5⟩ := num_inv k (i + 1) _ s x u h
        have hg := h5 (by omega)
        have hcl := c.toNat_lt
        have hge : ¬ (c.toNat % 128 + 128 * g) < 128 := by omega
        have hv : vb (c.toNat % 128 + 128 * g) = c :: vb g := by
          rw [vb_ge hge, show (c.toNat % 128 + 128 * g) / 128 = g by omega, show (c.toNat % 128 + 128 * g) % 128 + 128 = c.toNat by omega, UInt8.ofNat_toNat]
        refine ⟨c.toNat % 128 + 128 * g, ?_, ?_, ?_, ?_, fun _ => by omega⟩
        · rw [h1]
          congr 2
          rw [Nat.pow_succ, Nat.mul_comm (128 ^ i), ← Nat.mul_assoc, Nat.mul_comm g, Nat.add_assoc, ← Nat.add_mul]
        · rw [h2, hv]; simp; omega
        · rw [hv, List.length_cons, List.take_succ_cons, h3]
        · rw [hv]; simp; omega
      · split at h
        · simp at h
        · rename_i hc h0
          have hc' : c.toNat < 128 := by omega
          simp only [Prod.mk.injEq, and_true] at h
          have hv : vb c.toNat = [c] := by rw [vb_lt hc', UInt8.ofNat_toNat]
          refine ⟨c.toNat, ?_, ?_, ?_, ?_, fun hi => ?_⟩
          · rw [← h.1, Nat.mod_eq_of_lt hc']
          · rw [← h.2, hv]; simp
          · rw [hv]; simp
          · rw [hv]; simp
          · rcases Nat.eq_zero_or_pos c.toNat with h' | h'
            · exact absurd ⟨UInt8.toNat_inj.1 h', hi⟩ h0
            · exact h'
theorem num_form (s : List UInt8) (x u : Int) (h : num s = (x, u, 0)) : u = (encI x).length ∧ s.take (encI x).length = encI x ∧ (encI x).length ≤ s.length := by
  obtain ⟨g, h1, h2, h3, h4, _⟩ := num_inv 10 0 0 s x u h
  have e : encI x = vb g := by
    unfold encI
    rw [h1, fold_unfold _ (Int.natCast_nonneg _)]
    simp
  rw [e]
  exact ⟨by rw [h2]; simp, h3, h4⟩
theorem cnt_num (s : List UInt8) (most n u : Int) (h : cnt s most = (n, u, 0)) : num s = (n, u, 0) ∧ 0 ≤ n ∧ n ≤ max 0 most := by
  unfold cnt at h
  split at h
  · rename_i h1; simp only [Prod.mk.injEq] at h; exact absurd h.2.2 h1
  · rename_i h1
    split at h
    · simp at h
    · split at h
      · simp at h
      · simp only [Prod.mk.injEq, and_true] at h
        refine ⟨?_, by omega, by omega⟩
        rw [← h.1, ← h.2]
        exact Prod.ext rfl (Prod.ext rfl (Classical.not_not.1 h1))
end Go.Proofs.YtgcfomhlgipllaaGreatDoor
namespace Go.Proofs.YtgcfomhlgipllaaGreatDoor
open Go Go.Sx
structure RNI (s : List UInt8) (A : Nat) where
  i : Nat
  f : Nat
  hi : i ≤ 10
  hs : A + i ≤ s.length
  hf : f < 128 ^ i
  hn : numGo (10 - i) i f (s.drop (A + i)) = num (s.drop A)
end Go.Proofs.YtgcfomhlgipllaaGreatDoor
namespace Go.Proofs.YtgcfomhlgipllaaGreatDoor
open Go Go.Sx
/-! A reader that goes on over bytes: where it stands, what it meets; rows of things. No program in sight. -/
def i64r (n : Int) : Prop := -9223372036854775808 ≤ n ∧ n ≤ 9223372036854775807
abbrev At2 := Nat × Int
def rC (s : List UInt8) (most : Int) (p : At2) : Int × At2 := rd 0 p.1 p.2 (cnt (s.drop p.1) most)
def rMany {α : Type} (f : At2 → α × At2) : Nat → At2 → List α × At2
  | 0, p => ([], p)
  | k + 1, p => if p.2 ≠ 0 then ([], p) else ((f p).1 :: (rMany f k (f p).2).1, (rMany f k (f p).2).2)
def rRows {α : Type} (s : List UInt8) (f : At2 → α × At2) (p : At2) : List α × At2 := rMany f (rC s 1048576 p).1.toNat (rC s 1048576 p).2
def Goes {α : Type} (s : List UInt8) (f : At2 → α × At2) : Prop := ∀ p, p.1 ≤ s.length → p.1 ≤ (f p).2.1 ∧ (f p).2.1 ≤ s.length ∧ (p.2 ≠ 0 → (f p).2.2 ≠ 0) ∧ (p.2 = 0 → (f p).2.2 = 0 → p.1 < (f p).2.1)
theorem goes_rd {α : Type} (z : α) (s : List UInt8) (p : At2) (x : α × Int × Int) (hp : p.1 ≤ s.length) (hx : (x.2.2 = 0 ∧ 0 < x.2.1 ∧ x.2.1 ≤ (s.drop p.1).length) ∨ x.2.2 ≠ 0) :
    p.1 ≤ (rd z p.1 p.2 x).2.1 ∧ (rd z p.1 p.2 x).2.1 ≤ s.length ∧ (p.2 ≠ 0 → (rd z p.1 p.2 x).2.2 ≠ 0) ∧ (p.2 = 0 → (rd z p.1 p.2 x).2.2 = 0 → p.1 < (rd z p.1 p.2 x).2.1) := by
  rw [List.length_drop] at hx
  unfold rd
  by_cases h1 : p.2 ≠ 0
  · rw [if_pos h1]; exact ⟨Nat.le_refl _, hp, fun h => h, fun h => absurd h h1⟩
  · rw [if_neg h1]
    by_cases h2 : x.2.2 ≠ 0
    · rw [if_pos h2]; exact ⟨Nat.le_refl _, hp, fun h => absurd h h1, fun _ h => absurd h h2⟩
    · rw [if_neg h2]
      have h3 : 0 < x.2.1 ∧ x.2.1 ≤ ((s.length - p.1 : Nat) : Int) := by
        rcases hx with ⟨_, h⟩ | h
        · exact h
        · exact absurd h h2
      dsimp only
      exact ⟨by omega, by omega, fun h => absurd h h1, fun _ _ => by omega⟩
theorem goes_rC (s : List UInt8) (m : Int) : Goes s (rC s m) := fun p hp => goes_rd 0 s p _ hp (by
  rcases cnt_ok (s.drop p.1) m with h | h
  · exact .inl ⟨h.1, h.2.2⟩
  · exact .inr h.2.2)
theorem goes_then {s : List UInt8} {p q r : At2} (h1 : p.1 ≤ q.1 ∧ q.1 ≤ s.length ∧ (p.2 ≠ 0 → q.2 ≠ 0) ∧ (p.2 = 0 → q.2 = 0 → p.1 < q.1))
    (h2 : q.1 ≤ s.length → q.1 ≤ r.1 ∧ r.1 ≤ s.length ∧ (q.2 ≠ 0 → r.2 ≠ 0)) : p.1 ≤ r.1 ∧ r.1 ≤ s.length ∧ (p.2 ≠ 0 → r.2 ≠ 0) ∧ (p.2 = 0 → r.2 = 0 → p.1 < r.1) := by
  obtain ⟨a1, a2, a3, a4⟩ := h1
  obtain ⟨b1, b2, b3⟩ := h2 a2
  refine ⟨by omega, b2, fun h => b3 (a3 h), fun h h' => ?_⟩
  have : q.2 = 0 := Classical.byContradiction fun hq => b3 hq h'
  have := a4 h this
  omega
theorem goes_many {α : Type} {s : List UInt8} {f : At2 → α × At2} (hf : Goes s f) : ∀ (k : Nat) (p : At2), p.1 ≤ s.length → p.1 ≤ (rMany f k p).2.1 ∧ (rMany f k p).2.1 ≤ s.length ∧ (p.2 ≠ 0 → (rMany f k p).2.2 ≠ 0)
  | 0, p, hp => ⟨Nat.le_refl _, hp, fun h => h⟩
  | k + 1, p, hp => by
    unfold rMany
    split
    · exact ⟨Nat.le_refl _, hp, fun h => h⟩
    · rename_i h0
      have h1 := hf p hp
      have h2 := goes_many hf k (f p).2 h1.2.1
      exact ⟨by dsimp only; omega, h2.2.1, fun h => absurd h h0⟩
theorem goes_rows {α : Type} {s : List UInt8} {f : At2 → α × At2} (hf : Goes s f) : Goes s (rRows s f) := fun p hp =>
  goes_then (goes_rC s 1048576 p hp) (fun h => goes_many hf _ _ h)
theorem rC_rng (s : List UInt8) (p : At2) : 0 ≤ (rC s 1048576 p).1 ∧ (rC s 1048576 p).1 ≤ 1048576 := by
  unfold rC rd
  split
  · exact ⟨Int.le_refl _, by dsimp only; omega⟩
  · split
    · exact ⟨Int.le_refl _, by dsimp only; omega⟩
    · rename_i h
      have h0 := Classical.not_not.1 h
      obtain ⟨n, u, e, hx⟩ : ∃ n u e, cnt (s.drop p.1) 1048576 = (n, u, e) := ⟨_, _, _, rfl⟩
      rw [hx] at h0 ⊢
      dsimp only at h0 ⊢
      subst h0
      have := cnt_num _ _ _ _ hx
      omega
theorem rMany_nil {α : Type} (f : At2 → α × At2) (k : Nat) (p : At2) (h : p.2 ≠ 0) : rMany f k p = ([], p) := by
  cases k with
  | zero => rfl
  | succ k => unfold rMany; rw [if_pos h]
theorem rMany_succ {α : Type} (f : At2 → α × At2) (k : Nat) (p : At2) (h : p.2 = 0) : rMany f (k + 1) p = ((f p).1 :: (rMany f k (f p).2).1, (rMany f k (f p).2).2) := by
  conv => lhs; unfold rMany
  rw [if_neg (fun hn => hn h)]
end Go.Proofs.YtgcfomhlgipllaaGreatDoor
namespace Go.Proofs.YtgcfomhlgipllaaGreatDoor
open Go Go.Sx
/-! Readers and writers that fit: what is written is read; what is read is what would be written; what is cut off ends too early. -/
theorem num_cut_vb : ∀ (k i f g m : Nat), i + k = 10 → 0 < k → (0 < i → 0 < g) → f + g * 128 ^ i < 18446744073709551616 → m < (vb g).length →
    numGo k i f ((vb g).take m) = (0, 0, 3)
  | 0, _, _, _, _, _, h, _, _, _ => absurd h (by decide)
  | k + 1, i, f, g, 0, _, _, _, _, _ => by rw [List.take_zero]; rfl
  | k + 1, i, f, g, m + 1, hk, _, hg, hF, hm => by
    have e9 : (128 : Nat) ^ 9 = 9223372036854775808 := by decide
    by_cases hs : g < 128
    · rw [vb_lt hs] at hm; simp at hm
    · rw [vb_ge hs] at hm ⊢
      have hc : (UInt8.ofNat (g % 128 + 128)).toNat = g % 128 + 128 := ofNat_toNat (by omega)
      have hi9 : i < 9 := by
        rcases Nat.lt_or_ge i 9 with h | h
        · exact h
        · have e : i = 9 := by omega
          subst e
          rw [e9] at hF
          omega
      rw [List.take_succ_cons]
      unfold numGo
      rw [hc]
      have e : f + (g % 128 + 128) % 128 * 128 ^ i + g / 128 * 128 ^ (i + 1) = f + g * 128 ^ i := by
        have h1 : (g % 128 + 128) % 128 = g % 128 := by omega
        have h2 : g / 128 * 128 ^ (i + 1) = (128 * (g / 128)) * 128 ^ i := by rw [Nat.pow_succ, Nat.mul_comm (128 ^ i), ← Nat.mul_assoc, Nat.mul_comm (g / 128)]
        rw [h1, h2, Nat.add_assoc, ← Nat.add_mul, Nat.mod_add_div]
      rw [if_neg (by omega), if_pos (by omega)]
      exact num_cut_vb k (i + 1) _ (g / 128) m (by omega) (by omega) (fun _ => by omega) (by rw [e]; exact hF) (by simpa using hm)
theorem num_cut {n : Int} (h1 : -9223372036854775808 ≤ n) (h2 : n ≤ 9223372036854775807) {m : Nat} (hm : m < (encI n).length) : num ((encI n).take m) = (0, 0, 3) := by
  have hF := foldN_lt h1 h2
  have hN := foldN_nn n
  exact num_cut_vb 10 0 0 (foldN n).toNat m rfl (by decide) (fun h => absurd h (by decide)) (by simp; omega) hm
structure Codec {α : Type} (f : List UInt8 → At2 → α × At2) (enc : α → List UInt8) (ok : α → Prop) : Prop where
  stick : ∀ s p, p.2 ≠ 0 → (f s p).2 = p
  goes : ∀ s, Goes s (f s)
  back : ∀ s a x rest, ok x → s.drop a = enc x ++ rest → f s (a, 0) = (x, a + (enc x).length, 0)
  form : ∀ s a, a ≤ s.length → (f s (a, 0)).2.2 = 0 → s.drop a = enc (f s (a, 0)).1 ++ s.drop (f s (a, 0)).2.1
  cut : ∀ s a x m, ok x → s.drop a = (enc x).take m → m < (enc x).length → (f s (a, 0)).2.2 = 3
theorem rd_nz {α : Type} (z : α) (A : Nat) (e : Int) (x : α × Int × Int) (h : e ≠ 0) : rd z A e x = (z, A, e) := by unfold rd; rw [if_pos h]
theorem rd_ok {α : Type} (z : α) (A : Nat) (x : α × Int × Int) (h : x.2.2 = 0) : rd z A 0 x = (x.1, A + x.2.1.toNat, 0) := by
  unfold rd; rw [if_neg (fun h => h rfl), if_neg (fun hn => hn h)]
theorem rd_bad {α : Type} (z : α) (A : Nat) (x : α × Int × Int) (h : x.2.2 ≠ 0) : rd z A 0 x = (z, A, x.2.2) := by
  unfold rd; rw [if_neg (fun h => h rfl), if_pos h]
theorem take_form {s t : List UInt8} {a : Nat} (h : (s.drop a).take t.length = t) : s.drop a = t ++ s.drop (a + t.length) := by
  have h2 : (s.drop a).drop t.length = s.drop (a + t.length) := List.drop_drop
  conv => lhs; rw [← List.take_append_drop t.length (s.drop a)]
  rw [h, h2]
theorem cnt_cut {n : Int} (h1 : -9223372036854775808 ≤ n) (h2 : n ≤ 9223372036854775807) (most : Int) {m : Nat} (hm : m < (encI n).length) : cnt ((encI n).take m) most = (0, 0, 3) := by
  unfold cnt
  rw [num_cut h1 h2 hm]
  rfl
def okN (most n : Int) : Prop := 0 ≤ n ∧ n ≤ most ∧ n ≤ 9223372036854775807
theorem codec_rC (most : Int) : Codec (fun s => rC s most) encI (okN most) where
  stick := fun s p h => by unfold rC; rw [rd_nz _ _ _ _ h]
  goes := fun s => goes_rC s most
  back := fun s a x rest hx h => by
    show rd 0 a 0 (cnt (s.drop a) most) = _
    obtain ⟨h1, h2, h3⟩ := hx
    rw [h, cnt_encI h1 h3, if_neg (by omega), rd_ok _ _ _ rfl, Int.toNat_natCast]
  form := fun s a ha h => by
    have h' : (rd 0 a 0 (cnt (s.drop a) most)).2.2 = 0 := h
    show s.drop a = encI (rd 0 a 0 (cnt (s.drop a) most)).1 ++ s.drop (rd 0 a 0 (cnt (s.drop a) most)).2.1
    obtain ⟨n, u, e, hn⟩ : ∃ n u e, cnt (s.drop a) most = (n, u, e) := ⟨_, _, _, rfl⟩
    rw [hn] at h' ⊢
    by_cases he : e ≠ 0
    · rw [rd_bad _ _ _ he] at h'; exact absurd h' he
    · have he := Classical.not_not.1 he
      subst he
      obtain ⟨f1, f2, f3⟩ := num_form _ _ _ (cnt_num _ _ _ _ hn).1
      rw [rd_ok _ _ _ rfl]
      dsimp only
      rw [f1, Int.toNat_natCast]
      exact take_form f2
  cut := fun s a x m hx h hm => by
    show (rd 0 a 0 (cnt (s.drop a) most)).2.2 = 3
    obtain ⟨h1, h2, h3⟩ := hx
    rw [h, cnt_cut (by omega) h3 _ hm, rd_bad _ _ _ (by decide)]
theorem pair_eta {p : At2} {a : Nat} {e : Int} (h1 : p.1 = a) (h2 : p.2 = e) : p = (a, e) := Prod.ext h1 h2
theorem Codec.map {α β : Type} {f : List UInt8 → At2 → α × At2} {ea : α → List UInt8} {oka : α → Prop} (F : Codec f ea oka) (to : α → β) (fr : β → α) (h1 : ∀ x, fr (to x) = x) (h2 : ∀ y, to (fr y) = y)
    {f' : List UInt8 → At2 → β × At2} (hf : ∀ s p, f' s p = (to (f s p).1, (f s p).2)) {eb : β → List UInt8} (he : ∀ y, eb y = ea (fr y)) {okb : β → Prop} (ho : ∀ y, okb y → oka (fr y)) : Codec f' eb okb where
  stick := fun s p h => by rw [hf]; exact F.stick s p h
  goes := fun s p hp => by rw [hf]; exact F.goes s p hp
  back := fun s a y rest hy h => by
    rw [hf, F.back s a (fr y) rest (ho _ hy) (by rw [h, he]), h2, he]
  form := fun s a ha h => by
    rw [hf] at h ⊢
    rw [he, h1]
    exact F.form s a ha h
  cut := fun s a y m hy h hm => by
    rw [hf]
    rw [he] at h hm
    exact F.cut s a (fr y) m (ho _ hy) h hm
def encR {α : Type} (enc : α → List UInt8) (l : List α) : List UInt8 := encI l.length ++ l.flatMap enc
def okR {α : Type} (ok : α → Prop) (l : List α) : Prop := l.length ≤ 1048576 ∧ ∀ x ∈ l, ok x
section
variable {α : Type} {f : List UInt8 → At2 → α × At2} {enc : α → List UInt8} {ok : α → Prop}
theorem many_back (F : Codec f enc ok) (s : List UInt8) : ∀ (l : List α) (a : Nat) (rest : List UInt8), (∀ x ∈ l, ok x) → s.drop a = l.flatMap enc ++ rest → rMany (f s) l.length (a, 0) = (l, a + (l.flatMap enc).length, 0)
  | [], a, rest, _, _ => rfl
  | x :: l, a, rest, ho, h => by
    rw [List.flatMap_cons, List.append_assoc] at h
    have h1 := F.back s a x _ (ho x (List.mem_cons_self ..)) h
    have h2 := many_back F s l (a + (enc x).length) rest (fun y hy => ho y (List.mem_cons_of_mem _ hy)) (by rw [← List.drop_drop, h, List.drop_left])
    rw [List.length_cons, rMany_succ _ _ _ rfl, h1]
    dsimp only
    rw [h2, List.flatMap_cons, List.length_append, Nat.add_assoc]
theorem many_form (F : Codec f enc ok) (s : List UInt8) : ∀ (k a : Nat), a ≤ s.length → (rMany (f s) k (a, 0)).2.2 = 0 →
    (rMany (f s) k (a, 0)).1.length = k ∧ s.drop a = (rMany (f s) k (a, 0)).1.flatMap enc ++ s.drop (rMany (f s) k (a, 0)).2.1
  | 0, a, _, _ => ⟨rfl, rfl⟩
  | k + 1, a, ha, h => by
    rw [rMany_succ _ _ _ rfl] at h ⊢
    dsimp only at h ⊢
    have he : (f s (a, 0)).2.2 = 0 := Classical.byContradiction fun hn => by
      rw [rMany_nil _ _ _ hn] at h; exact hn h
    have hp : (f s (a, 0)).2 = ((f s (a, 0)).2.1, 0) := pair_eta rfl he
    have h1 := F.form s a ha he
    rw [hp] at h
    obtain ⟨h2, h3⟩ := many_form F s k _ (F.goes s (a, 0) ha).2.1 h
    rw [hp]
    refine ⟨by rw [List.length_cons, h2], ?_⟩
    rw [List.flatMap_cons, List.append_assoc, ← h3]
    exact h1
theorem many_cut (F : Codec f enc ok) (s : List UInt8) : ∀ (l : List α) (a m : Nat), (∀ x ∈ l, ok x) → s.drop a = (l.flatMap enc).take m → m < (l.flatMap enc).length → (rMany (f s) l.length (a, 0)).2.2 = 3
  | [], a, m, _, _, hm => by simp at hm
  | x :: l, a, m, ho, h, hm => by
    rw [List.flatMap_cons] at h hm
    rw [List.length_append] at hm
    rw [List.length_cons, rMany_succ _ _ _ rfl]
    dsimp only
    by_cases hmi : m < (enc x).length
    · have h3 := F.cut s a x m (ho x (List.mem_cons_self ..)) (by rw [h, List.take_append_of_le_length (by omega)]) hmi
      rw [rMany_nil _ _ _ (by rw [h3]; decide), h3]
    · have e : s.drop a = enc x ++ (l.flatMap enc).take (m - (enc x).length) := by
        rw [h, List.take_append, List.take_of_length_le (by omega)]
      rw [F.back s a x _ (ho x (List.mem_cons_self ..)) e]
      dsimp only
      exact many_cut F s l _ (m - (enc x).length) (fun y hy => ho y (List.mem_cons_of_mem _ hy)) (by rw [← List.drop_drop, e, List.drop_left]) (by omega)
theorem Codec.rows (F : Codec f enc ok) : Codec (fun s => rRows s (f s)) (encR enc) (okR ok) where
  stick := fun s p h => by
    show (rMany (f s) (rC s 1048576 p).1.toNat (rC s 1048576 p).2).2 = p
    rw [(codec_rC 1048576).stick s p h, rMany_nil _ _ _ h]
  goes := fun s => goes_rows (F.goes s)
  back := fun s a l rest hl h => by
    obtain ⟨h1, h2⟩ := hl
    unfold encR at h ⊢
    rw [List.append_assoc] at h
    have hc := (codec_rC 1048576).back s a (l.length : Int) _ ⟨by omega, by omega, by omega⟩ h
    have hm := many_back F s l (a + (encI (l.length : Int)).length) rest h2 (by rw [← List.drop_drop, h, List.drop_left])
    show rMany (f s) (rC s 1048576 (a, 0)).1.toNat (rC s 1048576 (a, 0)).2 = _
    rw [show rC s 1048576 (a, 0) = _ from hc]
    dsimp only
    rw [Int.toNat_natCast, hm, List.length_append, Nat.add_assoc]
  form := fun s a ha h => by
    have h' : (rMany (f s) (rC s 1048576 (a, 0)).1.toNat (rC s 1048576 (a, 0)).2).2.2 = 0 := h
    have he : (rC s 1048576 (a, 0)).2.2 = 0 := Classical.byContradiction fun hn => by
      rw [rMany_nil _ _ _ hn] at h'; exact hn h'
    have hp : (rC s 1048576 (a, 0)).2 = ((rC s 1048576 (a, 0)).2.1, 0) := pair_eta rfl he
    have h1 := (codec_rC 1048576).form s a ha he
    have hr := rC_rng s (a, 0)
    rw [hp] at h'
    obtain ⟨h2, h3⟩ := many_form F s _ _ ((codec_rC 1048576).goes s (a, 0) ha).2.1 h'
    show s.drop a = encR enc (rMany (f s) (rC s 1048576 (a, 0)).1.toNat (rC s 1048576 (a, 0)).2).1 ++ s.drop (rMany (f s) (rC s 1048576 (a, 0)).1.toNat (rC s 1048576 (a, 0)).2).2.1
    rw [hp]
    unfold encR
    rw [List.append_assoc, ← h3, h2, Int.toNat_of_nonneg hr.1]
    exact h1
  cut := fun s a l m hl h hm => by
    obtain ⟨h1, h2⟩ := hl
    unfold encR at h hm
    rw [List.length_append] at hm
    show (rMany (f s) (rC s 1048576 (a, 0)).1.toNat (rC s 1048576 (a, 0)).2).2.2 = 3
    by_cases hmi : m < (encI (l.length : Int)).length
    · have h3 := (codec_rC 1048576).cut s a (l.length : Int) m ⟨by omega, by omega, by omega⟩ (by rw [h, List.take_append_of_le_length (by omega)]) hmi
      rw [rMany_nil _ _ _ (by rw [show (rC s 1048576 (a, 0)).2.2 = 3 from h3]; decide)]
      exact h3
    · have e : s.drop a = encI (l.length : Int) ++ (l.flatMap enc).take (m - (encI (l.length : Int)).length) := by
        rw [h, List.take_append, List.take_of_length_le (by omega)]
      have hc := (codec_rC 1048576).back s a (l.length : Int) _ ⟨by omega, by omega, by omega⟩ e
      rw [show rC s 1048576 (a, 0) = _ from hc]
      dsimp only
      rw [Int.toNat_natCast]
      exact many_cut F s l _ (m - (encI (l.length : Int)).length) h2 (by rw [← List.drop_drop, e, List.drop_left]) (by omega)
end
end Go.Proofs.YtgcfomhlgipllaaGreatDoor
