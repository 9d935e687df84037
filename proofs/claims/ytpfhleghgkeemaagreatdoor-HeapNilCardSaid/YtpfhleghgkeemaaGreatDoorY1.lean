import Derived.Calls
import Derived.Orders
import Derived.OrdersHeld
import Derived.Below
import Derived.Laws.World
import Derived.Laws.Sem
import Derived.Deep.LoopGhost
import Derived.KernelRfl
import Derived.Laws.AppendOwn
import Derived.Laws.Entries
import Derived.Laws.Strings
import Derived.Tactics
set_option linter.unusedVariables false
set_option linter.unusedSimpArgs false
/-
  A small separation logic over the model, by evaluation: 'chunks' own blocks; straight-line code is run by a Lean function (srun, sops) whose result the kernel computes.
-/
namespace Go.Sx
open Go

/-- An opaque chunk: what it says hangs on the blocks that it owns alone. -/
structure Oq where
  own : Nat → Prop
  rw : Prop
  holds : World → Prop
  loc : ∀ w w' : World, (∀ k, own k → w'.heap[k]? = w.heap[k]?) → holds w → holds w'
  lt : ∀ (w : World) k, holds w → own k → k < w.heap.size

/-- A chunk: a block whose cells are all known; or an opaque one. -/
inductive Ch where
  | blk (g : Nat) (T : TypeId) (l : List Value)
  | op (c : Oq)

def Ch.own : Ch → Nat → Prop
  | .blk g _ _ => fun k => k = g
  | .op c => c.own
def Ch.rw : Ch → Prop
  | .blk _ _ _ => True
  | .op c => c.rw
/-- Nothing of n cells is frozen (behind them something may be). -/
def FzOk (n : Nat) (fz : Nat × Nat) : Prop := fz.1 = fz.2 ∨ n ≤ fz.1
def blkH (w : World) (g T : Nat) (l : List Value) : Prop := ∃ fz, w.heap[g]? = some (.cells l.toArray T fz) ∧ FzOk l.length fz
def Ch.holds : Ch → World → Prop
  | .blk g T l => fun w => blkH w g T l
  | .op c => c.holds

theorem lt_of_get {w : World} {g : Nat} {o : Obj} (h : w.heap[g]? = some o) : g < w.heap.size := by
  rcases Nat.lt_or_ge g w.heap.size with h' | h'
  · exact h'
  · rw [Array.getElem?_eq_none h'] at h; cases h

theorem Ch.lt {c : Ch} {w : World} {k : Nat} (h : c.holds w) (ho : c.own k) : k < w.heap.size := by
  cases c with
  | blk g T l => cases ho; obtain ⟨fz, h, _⟩ := h; exact lt_of_get h
  | op c => exact c.lt w k h ho
theorem Ch.loc {c : Ch} {w w' : World} (hk : ∀ k, c.own k → w'.heap[k]? = w.heap[k]?) (h : c.holds w) : c.holds w' := by
  cases c with
  | blk g T l => obtain ⟨fz, h, hf⟩ := h; exact ⟨fz, (hk g rfl).trans h, hf⟩
  | op c => exact c.loc w w' hk h

/-- Two chunks may lie in one heap: no block in common, or neither writes. -/
def Apart (c d : Ch) : Prop := (¬ c.rw ∧ ¬ d.rw) ∨ ∀ k, c.own k → ¬ d.own k
theorem Apart.symm {c d : Ch} (h : Apart c d) : Apart d c := h.imp (fun ⟨a, b⟩ => ⟨b, a⟩) fun h k hd hc => h k hc hd

abbrev Hp := List Ch
structure HS (hp : Hp) (w : World) : Prop where
  holds : ∀ c ∈ hp, c.holds w
  apart : hp.Pairwise Apart

def foot (hp : Hp) (k : Nat) : Prop := ∃ c ∈ hp, c.rw ∧ c.own k

/-- From w to w' nothing was changed but blocks in F, and new ones. -/
structure Ext (w w' : World) (F : Nat → Prop) : Prop where
  os : w'.os = w.os
  tape : w'.tape = w.tape
  output : w'.output = w.output
  size : w.heap.size ≤ w'.heap.size
  block : ∀ k, k < w.heap.size → ¬ F k → w'.heap[k]? = w.heap[k]?

theorem Ext.refl (w : World) (F : Nat → Prop) : Ext w w F := ⟨rfl, rfl, rfl, Nat.le_refl _, fun _ _ _ => rfl⟩

/-- Blocks that a heap may write: those of F, and what is new since w. -/
def Bd (hp : Hp) (F : Nat → Prop) (n : Nat) : Prop := ∀ c ∈ hp, c.rw → ∀ k, c.own k → F k ∨ n ≤ k

theorem Ext.trans {a b c : World} {F G : Nat → Prop} (h : Ext a b F) (k : Ext b c G) (hG : ∀ x, G x → F x ∨ a.heap.size ≤ x) : Ext a c F :=
  ⟨k.os.trans h.os, k.tape.trans h.tape, k.output.trans h.output, Nat.le_trans h.size k.size, fun x hx hF =>
    (k.block x (Nat.lt_of_lt_of_le hx h.size) (fun g => (hG x g).elim hF (by omega))).trans (h.block x hx hF)⟩

/-- What is known in a function's body: entry world, footprint. -/
structure Cx where
  P : Program
  w0 : World
  F : Nat → Prop
  nt : Nat
  ds : List Deferred

abbrev Fr := List (Nat × Value)
def look : Fr → Nat → Option Value
  | [], _ => none
  | (i, v) :: r, j => if i = j then some v else look r j

structure St where
  fr : Fr
  hp : Hp

structure Sat (Γ : Cx) (s : St) (a : Act) (w : World) : Prop where
  size : a.tmps.size = Γ.nt
  defers : a.defers = Γ.ds
  fr : ∀ i v, look s.fr i = some v → a.tmps.getD i undef = v
  hs : HS s.hp w
  ext : Ext Γ.w0 w Γ.F
  bd : Bd s.hp Γ.F Γ.w0.heap.size

/-! ### Running one operation -/
/-- One operation's meaning, run over known blocks. 'n': the number that a new block would have, if it may make one; 'sc': which chunk each access meets; what comes out: the value, the heap, the block numbers that were met and those of the chunks named (they are to be equal), and the number not used up, the script not used up. -/
def srun {α : Type} (P : Program) : Sem α → List Nat → Option Nat → Hp → Option (α × Hp × List Nat × List Nat × Option Nat × List Nat)
  | .pure a, sc, n, hp => some (a, hp, [], [], n, sc)
  | .load _ a k, i :: sc, n, hp =>
    match hp[i]?, a.spot with
    | some (.blk b _ l), none =>
      match l[a.off]? with
      | some v => match srun P (k v) sc n hp with
        | some (x, hp', gs, ws, n') => some (x, hp', a.block :: gs, b :: ws, n')
        | none => none
      | none => none
    | _, _ => none
  | .store _ a v k, i :: sc, n, hp =>
    match hp[i]?, a.spot with
    | some (.blk b T l), none =>
      match v with
      | .agg _ | .tuple _ => none
      | v => match l[a.off]? with
        | some _ => match srun P k sc n (hp.set i (.blk b T (l.set a.off v))) with
          | some (x, hp', gs, ws, n') => some (x, hp', a.block :: gs, b :: ws, n')
          | none => none
        | none => none
    | _, _ => none
  | .new o k, sc, some m, hp =>
    match o with
    | .cells c T (0, 0) => srun P (k m) sc none (hp ++ [.blk m T c.toList])
    | _ => none
  | .shape r k, i :: sc, n, hp =>
    match hp[i]? with
    | some (.blk b T l) => match srun P (k (some (T, l.length))) sc n hp with
      | some (x, hp', gs, ws, n') => some (x, hp', r :: gs, b :: ws, n')
      | none => none
    | _ => none
  | .frozen a k, i :: sc, n, hp =>
    match hp[i]? with
    | some (.blk b _ l) => match l[a.off]? with
      | some _ => match srun P (k false) sc n hp with
        | some (x, hp', gs, ws, n') => some (x, hp', a.block :: gs, b :: ws, n')
        | none => none
      | none => none
    | _ => none
  | .freeze a z k, i :: sc, n, hp =>
    match hp[i]? with
    | some (.blk b _ l) => match l.length.ble a.off with
      | true => match srun P k sc n hp with
        | some (x, hp', gs, ws, n') => some (x, hp', a.block :: gs, b :: ws, n')
        | none => none
      | false => none
    | _ => none
  | .program k, sc, n, hp => srun P (k P) sc n hp
  | .mark _ k, sc, n, hp => srun P k sc n hp
  | _, _, _, _ => none

theorem HS.blk {hp : Hp} {w : World} (h : HS hp w) {i b : Nat} {T : TypeId} {l : List Value} (hi : hp[i]? = some (.blk b T l)) : blkH w b T l :=
  h.holds _ (List.mem_of_getElem? hi)

theorem cell_blk {w : World} {b T : Nat} {l : List Value} (h : blkH w b T l) (a : Addr) (ha : a.block = b) (hs : a.spot = none) : w.cell? a = l[a.off]? := by
  obtain ⟨fz, h, _⟩ := h
  unfold World.cell?
  rw [ha, h]
  simp [hs]
theorem frozen_blk {w : World} {b T : Nat} {l : List Value} (h : blkH w b T l) (a : Addr) (ha : a.block = b) (hl : a.off < l.length) : w.frozen? a = false := by
  obtain ⟨fz, h, hf⟩ := h
  unfold World.frozen?
  rw [ha, h]
  simp only [Bool.and_eq_false_iff, decide_eq_false_iff_not]
  unfold FzOk at hf
  omega
theorem shape_blk {w : World} {b T : Nat} {l : List Value} (h : blkH w b T l) : w.shape? b = some (T, l.length) := by
  obtain ⟨fz, h, _⟩ := h
  unfold World.shape?
  rw [h]
  simp

theorem heap_set {w : World} {b T : Nat} {l : List Value} (h : blkH w b T l) (a : Addr) (v : Value) (ha : a.block = b) (hs : a.spot = none) :
    blkH (w.setCell a v) b T (l.set a.off v) := by
  obtain ⟨fz, h, hf⟩ := h
  refine ⟨fz, ?_, by rwa [List.length_set]⟩
  simp only [World.setCell, Array.getElem?_modify, ha, h]
  simp [hs]
theorem heap_freeze {w : World} {b T : Nat} {l : List Value} (h : blkH w b T l) (a : Addr) (n : Nat) (ha : a.block = b) (hl : l.length ≤ a.off) : blkH (w.freeze a n) b T l := by
  obtain ⟨fz, h, hf⟩ := h
  unfold World.freeze
  split
  · exact ⟨fz, h, hf⟩
  · refine ⟨if fz.1 == fz.2 then (a.off, a.off + n) else (min fz.1 a.off, max fz.2 (a.off + n)), ?_, ?_⟩
    · simp only [Array.getElem?_modify, ha, h]
      simp
    · unfold FzOk at *
      split
      · exact .inr hl
      · rename_i hne
        have : fz.1 ≠ fz.2 := by simpa using hne
        right
        simp only
        omega
theorem heap_freeze_ne {w : World} (a : Addr) (n : Nat) {k : Nat} (hk : k ≠ a.block) : (w.freeze a n).heap[k]? = w.heap[k]? := by
  unfold World.freeze
  split
  · rfl
  · simp only [Array.getElem?_modify]
    rw [if_neg (fun e => hk e.symm)]
theorem heap_set_ne {w : World} (a : Addr) (v : Value) {k : Nat} (hk : k ≠ a.block) : (w.setCell a v).heap[k]? = w.heap[k]? := by
  simp only [World.setCell, Array.getElem?_modify]
  rw [if_neg (fun e => hk e.symm)]

theorem pairwise_get {hp : Hp} (h : hp.Pairwise Apart) {i j : Nat} (hij : i ≠ j) {c d : Ch} (hi : hp[i]? = some c) (hj : hp[j]? = some d) : Apart c d := by
  rw [List.pairwise_iff_getElem] at h
  obtain ⟨hi1, rfl⟩ := List.getElem?_eq_some_iff.1 hi
  obtain ⟨hj1, rfl⟩ := List.getElem?_eq_some_iff.1 hj
  rcases Nat.lt_or_gt_of_ne hij with hlt | hlt
  · exact h i j hi1 hj1 hlt
  · exact (h j i hj1 hi1 hlt).symm

/-- A chunk is put in the place of one that owns as much. -/
theorem HS.set {hp : Hp} {w w' : World} (h : HS hp w) {i : Nat} {c c' : Ch} (hi : hp[i]? = some c) (hc : c.rw) (hown : ∀ k, c'.own k → c.own k) (hholds : c'.holds w')
    (hrest : ∀ k, ¬ c.own k → k < w.heap.size → w'.heap[k]? = w.heap[k]?) : HS (hp.set i c') w' := by
  obtain ⟨hi1, hi2⟩ := List.getElem?_eq_some_iff.1 hi
  have hap : ∀ j, j ≠ i → ∀ d, hp[j]? = some d → ∀ k, c.own k → ¬ d.own k := fun j hj d hd => by
    rcases pairwise_get h.apart (Ne.symm hj) hi hd with ⟨h1, _⟩ | h1
    · exact absurd hc h1
    · exact h1
  constructor
  · intro d hd
    obtain ⟨j, hj1, hj⟩ := List.getElem_of_mem hd
    rw [List.getElem_set] at hj
    split at hj
    · subst hj; exact hholds
    · rename_i hne
      have hjl : j < hp.length := by simpa using hj1
      have hd' : hp[j]? = some d := by rw [List.getElem?_eq_getElem hjl, hj]
      have hdw := h.holds d (List.mem_of_getElem? hd')
      exact d.loc (fun k hk => hrest k (fun hck => hap j (fun e => hne e.symm) d hd' k hck hk) (d.lt hdw hk)) hdw
  · rw [List.pairwise_iff_getElem]
    intro x y hx hy hxy
    have hx' : x < hp.length := by simpa using hx
    have hy' : y < hp.length := by simpa using hy
    have hp' := List.pairwise_iff_getElem.1 h.apart x y hx' hy' hxy
    rw [List.getElem_set, List.getElem_set]
    by_cases hxi : i = x
    · subst hxi
      rw [if_pos rfl, if_neg (by omega)]
      exact .inr fun k hk => hap y (by omega) _ (List.getElem?_eq_getElem hy') k (hown k hk)
    · rw [if_neg hxi]
      by_cases hyi : i = y
      · subst hyi
        rw [if_pos rfl]
        exact .inr fun k hk hk' => hap x (by omega) _ (List.getElem?_eq_getElem hx') k (hown k hk') hk
      · rw [if_neg hyi]; exact hp'

theorem HS.append {hp : Hp} {w w' : World} (h : HS hp w) (hsame : ∀ k, k < w.heap.size → w'.heap[k]? = w.heap[k]?) {c : Ch} (hc : c.holds w') (hnew : ∀ k, c.own k → w.heap.size ≤ k) : HS (hp ++ [c]) w' := by
  constructor
  · intro d hd
    rcases List.mem_append.1 hd with hd | hd
    · exact d.loc (fun k hk => hsame k (d.lt (h.holds d hd) hk)) (h.holds d hd)
    · rw [List.mem_singleton.1 hd]; exact hc
  · rw [List.pairwise_append]
    refine ⟨h.apart, List.pairwise_singleton _ _, fun d hd e he => ?_⟩
    rw [List.mem_singleton.1 he]
    exact .inr fun k hk hk' => absurd (d.lt (h.holds d hd) hk) (by have := hnew k hk'; omega)

theorem Bd.self (hp : Hp) (n : Nat) : Bd hp (foot hp) n := fun c hc hr k hk => .inl ⟨c, hc, hr, hk⟩

theorem foot_set {hp : Hp} {i : Nat} {c c' : Ch} (hi : hp[i]? = some c) (hc : c.rw) (hown : ∀ k, c'.own k → c.own k) (k : Nat) (h : foot (hp.set i c') k) : foot hp k := by
  obtain ⟨d, hd, hr, hk⟩ := h
  rcases List.mem_or_eq_of_mem_set hd with hd | hd
  · exact ⟨d, hd, hr, hk⟩
  · subst hd; exact ⟨c, List.mem_of_getElem? hi, hc, hown k hk⟩

theorem run_load_some {α : Type} {P : Program} {m : Mode} {a : Addr} {k : Value → Sem α} {w : World} {v : Value} (h : w.cell? a = some v) : (Sem.load m a k).run P w = (k v).run P w := by
  simp only [Sem.run, h]
theorem run_store_some {α : Type} {P : Program} {m : Mode} {a : Addr} {v : Value} {k : Sem α} {w : World} {u : Value} (h : w.cell? a = some u) (hf : w.frozen? a = false)
    (h1 : ∀ c, v ≠ .agg c) (h2 : ∀ c, v ≠ .tuple c) : (Sem.store m a v k).run P w = k.run P (w.setCell a v) := by
  cases v <;> first | exact absurd rfl (h1 _) | exact absurd rfl (h2 _) | (simp only [Sem.run, h, hf]; rfl)

/-- Reading alone: the world stays. -/
def sread {α : Type} (P : Program) : Sem α → List Nat → Hp → Option (α × List Nat × List Nat × List Nat)
  | .pure a, sc, hp => some (a, [], [], sc)
  | .load _ a k, i :: sc, hp =>
    match hp[i]?, a.spot with
    | some (.blk b _ l), none =>
      match l[a.off]? with
      | some v => match sread P (k v) sc hp with
        | some (x, gs, ws, sc') => some (x, a.block :: gs, b :: ws, sc')
        | none => none
      | none => none
    | _, _ => none
  | .shape r k, i :: sc, hp =>
    match hp[i]? with
    | some (.blk b T l) => match sread P (k (some (T, l.length))) sc hp with
      | some (x, gs, ws, sc') => some (x, r :: gs, b :: ws, sc')
      | none => none
    | _ => none
  | .frozen a k, i :: sc, hp =>
    match hp[i]? with
    | some (.blk b _ l) => match l[a.off]? with
      | some _ => match sread P (k false) sc hp with
        | some (x, gs, ws, sc') => some (x, a.block :: gs, b :: ws, sc')
        | none => none
      | none => none
    | _ => none
  | .program k, sc, hp => sread P (k P) sc hp
  | .mark _ k, sc, hp => sread P k sc hp
  | _, _, _ => none

def HL (hp : Hp) (w : World) : Prop := ∀ c ∈ hp, c.holds w

theorem sread_sound {α : Type} {P : Program} (s : Sem α) : ∀ (sc : List Nat) (hp : Hp) (x : α) (gs ws sc' : List Nat),
    sread P s sc hp = some (x, gs, ws, sc') → gs = ws → ∀ w, HL hp w → s.run P w = .ok x w := by
  induction s with
  | pure a =>
    intro sc hp x gs ws sc' h _ w hw
    simp only [sread, Option.some.injEq, Prod.mk.injEq] at h
    obtain ⟨rfl, rfl, rfl, rfl⟩ := h
    rfl
  | load m a k ih =>
    intro sc hp x gs ws sc' h he w hw
    cases sc with
    | nil => simp [sread] at h
    | cons i sc =>
      simp only [sread] at h
      split at h
      case h_2 => cases h
      case h_1 b T l hi hs =>
        split at h
        case h_2 => cases h
        case h_1 v hv =>
          split at h
          case h_2 => cases h
          case h_1 x1 gs1 ws1 sc1 hr =>
            simp only [Option.some.injEq, Prod.mk.injEq] at h
            obtain ⟨rfl, rfl, rfl, rfl⟩ := h
            injection he with he1 he2
            exact (run_load_some ((cell_blk (hw _ (List.mem_of_getElem? hi)) a he1 hs).trans hv)).trans (ih v sc hp _ _ _ _ hr he2 w hw)
  | shape r k ih =>
    intro sc hp x gs ws sc' h he w hw
    cases sc with
    | nil => simp [sread] at h
    | cons i sc =>
      simp only [sread] at h
      split at h
      case h_2 => cases h
      case h_1 b T l hi =>
        split at h
        case h_2 => cases h
        case h_1 x1 gs1 ws1 sc1 hr =>
          simp only [Option.some.injEq, Prod.mk.injEq] at h
          obtain ⟨rfl, rfl, rfl, rfl⟩ := h
          injection he with he1 he2
          show (k (w.shape? r)).run P w = _
          rw [he1, shape_blk (hw _ (List.mem_of_getElem? hi))]
          exact ih _ sc hp _ _ _ _ hr he2 w hw
  | frozen a k ih =>
    intro sc hp x gs ws sc' h he w hw
    cases sc with
    | nil => simp [sread] at h
    | cons i sc =>
      simp only [sread] at h
      split at h
      case h_2 => cases h
      case h_1 b T l hi =>
        split at h
        case h_2 => cases h
        case h_1 u hu =>
          split at h
          case h_2 => cases h
          case h_1 x1 gs1 ws1 sc1 hr =>
            simp only [Option.some.injEq, Prod.mk.injEq] at h
            obtain ⟨rfl, rfl, rfl, rfl⟩ := h
            injection he with he1 he2
            show (k (w.frozen? a)).run P w = _
            rw [frozen_blk (hw _ (List.mem_of_getElem? hi)) a he1 (List.getElem?_eq_some_iff.1 hu).1]
            exact ih _ sc hp _ _ _ _ hr he2 w hw
  | program k ih =>
    intro sc hp x gs ws sc' h he w hw
    have h' : sread P (k P) sc hp = some (x, gs, ws, sc') := by cases sc <;> exact h
    exact ih P sc hp _ _ _ _ h' he w hw
  | mark m k ih =>
    intro sc hp x gs ws sc' h he w hw
    have h' : sread P k sc hp = some (x, gs, ws, sc') := by cases sc <;> exact h
    exact ih sc hp _ _ _ _ h' he w hw
  | store m a v k ih => intro sc hp x gs ws sc' h; cases sc <;> simp [sread] at h
  | new o k ih => intro sc hp x gs ws sc' h; cases sc <;> simp [sread] at h
  | freeze a n k ih => intro sc hp x gs ws sc' h; cases sc <;> simp [sread] at h
  | getObj r k ih => intro sc hp x gs ws sc' h; cases sc <;> simp [sread] at h
  | setObj r o k ih => intro sc hp x gs ws sc' h; cases sc <;> simp [sread] at h
  | choose q k ih => intro sc hp x gs ws sc' h; cases sc <;> simp [sread] at h
  | sys c k ih => intro sc hp x gs ws sc' h; cases sc <;> simp [sread] at h
  | halt h => intro sc hp x gs ws sc' h; cases sc <;> simp [sread] at h

theorem srun_sound {α : Type} {P : Program} (s : Sem α) : ∀ (sc : List Nat) (n : Option Nat) (hp : Hp) (x : α) (hp' : Hp) (gs ws : List Nat) (n' : Option Nat) (sc' : List Nat),
    srun P s sc n hp = some (x, hp', gs, ws, n', sc') → gs = ws → ∀ w, HS hp w → (∀ m, n = some m → m = w.heap.size) →
    ∃ w', s.run P w = .ok x w' ∧ HS hp' w' ∧ Ext w w' (foot hp) ∧ Bd hp' (foot hp) w.heap.size ∧ (∀ m, n' = some m → m = w'.heap.size) := by
  induction s with
  | pure a =>
    intro sc n hp x hp' gs ws n' sc' h _ w hw hn
    simp only [srun, Option.some.injEq, Prod.mk.injEq] at h
    obtain ⟨rfl, rfl, rfl, rfl, rfl, rfl⟩ := h
    exact ⟨w, rfl, hw, Ext.refl _ _, Bd.self _ _, hn⟩
  | load m a k ih =>
    intro sc n hp x hp' gs ws n' sc' h he w hw hn
    cases sc with
    | nil => simp [srun] at h
    | cons i sc =>
      simp only [srun] at h
      split at h
      case h_2 => cases h
      case h_1 b T l hi hs =>
        split at h
        case h_2 => cases h
        case h_1 v hv =>
          split at h
          case h_2 => cases h
          case h_1 x1 hp1 gs1 ws1 n1 hr =>
            simp only [Option.some.injEq, Prod.mk.injEq] at h
            obtain ⟨rfl, rfl, rfl, rfl, rfl⟩ := h
            injection he with he1 he2
            obtain ⟨w', h1, h2⟩ := ih v sc n hp _ _ _ _ _ _ hr he2 w hw hn
            exact ⟨w', (run_load_some ((cell_blk (hw.blk hi) a he1 hs).trans hv)).trans h1, h2⟩
  | store m a v k ih =>
    intro sc n hp x hp' gs ws n' sc' h he w hw hn
    cases sc with
    | nil => simp [srun] at h
    | cons i sc =>
      simp only [srun] at h
      split at h
      case h_2 => cases h
      case h_1 b T l hi hs =>
        split at h
        case h_1 => cases h
        case h_2 => cases h
        case h_3 hna hnt =>
          split at h
          case h_2 => cases h
          case h_1 u hu =>
            split at h
            case h_2 => cases h
            case h_1 x1 hp1 gs1 ws1 n1 hr =>
              simp only [Option.some.injEq, Prod.mk.injEq] at h
              obtain ⟨rfl, rfl, rfl, rfl, rfl⟩ := h
              injection he with he1 he2
              have hb := hw.blk hi
              have hset := heap_set hb a v he1 hs
              have hrest : ∀ k, k ≠ b → k < w.heap.size → (w.setCell a v).heap[k]? = w.heap[k]? := fun k hk _ => heap_set_ne a v (by rw [he1]; exact hk)
              have hsz : (w.setCell a v).heap.size = w.heap.size := by simp [World.setCell]
              obtain ⟨w', h1, h2, h3, h4, h5⟩ := ih sc n _ _ _ _ _ _ _ hr he2 (w.setCell a v) (hw.set hi trivial (fun _ h => h) hset hrest) (fun m hm => by rw [hsz]; exact hn m hm)
              have hfoot := fun k h => foot_set (c' := .blk b T (l.set a.off v)) hi trivial (fun _ h => h) k h
              refine ⟨w', (run_store_some ((cell_blk hb a he1 hs).trans hu) (frozen_blk hb a he1 (List.getElem?_eq_some_iff.1 hu).1) (fun c e => hna c e) (fun c e => hnt c e)).trans h1, h2, ?_, ?_, h5⟩
              · refine Ext.trans (b := w.setCell a v) ⟨rfl, rfl, rfl, by omega, fun k hk hF => hrest k (fun e => hF ⟨_, List.mem_of_getElem? hi, trivial, e⟩) hk⟩ h3 (fun k hk => .inl (hfoot k hk))
              · intro c hc hr k hk
                rcases h4 c hc hr k hk with h | h
                · exact .inl (hfoot k h)
                · exact .inr (by omega)
  | new o k ih =>
    intro sc n hp x hp' gs ws n' sc' h he w hw hn
    cases n with
    | none => simp [srun] at h
    | some m =>
      simp only [srun] at h
      split at h
      case h_2 => cases h
      case h_1 c T =>
        have hm := hn m rfl
        subst hm
        obtain ⟨w', h1, h2, h3, h4, h5⟩ := ih _ sc none _ _ _ _ _ _ _ h he { w with heap := w.heap.push (.cells c T (0, 0)) }
          (hw.append (fun k hk => by show (w.heap.push _)[k]? = _; rw [Array.getElem?_push, if_neg (by omega)]) ⟨(0, 0), (by show (w.heap.push _)[_]? = _; simp), .inl rfl⟩ (fun k hk => by cases hk; exact Nat.le_refl _)) (fun m hm => by cases hm)
        refine ⟨w', h1, h2, ?_, ?_, h5⟩
        · refine Ext.trans (b := { w with heap := w.heap.push (.cells c T (0, 0)) }) ⟨rfl, rfl, rfl, by simp, fun k hk hF => by show (w.heap.push _)[k]? = _; rw [Array.getElem?_push, if_neg (by omega)]⟩ h3 ?_
          rintro x ⟨d, hd, hr, hx⟩
          rcases List.mem_append.1 hd with hd | hd
          · exact .inl ⟨d, hd, hr, hx⟩
          · rw [List.mem_singleton.1 hd] at hx; cases hx; exact .inr (Nat.le_refl _)
        · intro d hd hr k hk
          rcases h4 d hd hr k hk with ⟨e, he, her, hek⟩ | h
          · rcases List.mem_append.1 he with he | he
            · exact .inl ⟨e, he, her, hek⟩
            · rw [List.mem_singleton.1 he] at hek; cases hek; exact .inr (Nat.le_refl _)
          · exact .inr (by simp at h; omega)
  | shape r k ih =>
    intro sc n hp x hp' gs ws n' sc' h he w hw hn
    cases sc with
    | nil => simp [srun] at h
    | cons i sc =>
      simp only [srun] at h
      split at h
      case h_2 => cases h
      case h_1 b T l hi =>
        split at h
        case h_2 => cases h
        case h_1 x1 hp1 gs1 ws1 n1 hr =>
          simp only [Option.some.injEq, Prod.mk.injEq] at h
          obtain ⟨rfl, rfl, rfl, rfl, rfl⟩ := h
          injection he with he1 he2
          obtain ⟨w', h1, h2⟩ := ih _ sc n hp _ _ _ _ _ _ hr he2 w hw hn
          refine ⟨w', ?_, h2⟩
          show (k (w.shape? r)).run P w = _
          rw [he1, shape_blk (hw.blk hi)]; exact h1
  | frozen a k ih =>
    intro sc n hp x hp' gs ws n' sc' h he w hw hn
    cases sc with
    | nil => simp [srun] at h
    | cons i sc =>
      simp only [srun] at h
      split at h
      case h_2 => cases h
      case h_1 b T l hi =>
        split at h
        case h_2 => cases h
        case h_1 u hu =>
          split at h
          case h_2 => cases h
          case h_1 x1 hp1 gs1 ws1 n1 hr =>
            simp only [Option.some.injEq, Prod.mk.injEq] at h
            obtain ⟨rfl, rfl, rfl, rfl, rfl⟩ := h
            injection he with he1 he2
            obtain ⟨w', h1, h2⟩ := ih _ sc n hp _ _ _ _ _ _ hr he2 w hw hn
            refine ⟨w', ?_, h2⟩
            show (k (w.frozen? a)).run P w = _
            rw [frozen_blk (hw.blk hi) a he1 (List.getElem?_eq_some_iff.1 hu).1]; exact h1
  | freeze a z k ih =>
    intro sc n hp x hp' gs ws n' sc' h he w hw hn
    cases sc with
    | nil => simp [srun] at h
    | cons i sc =>
      simp only [srun] at h
      split at h
      case h_2 => cases h
      case h_1 b T l hi =>
        split at h
        case h_2 => cases h
        case h_1 hle =>
          split at h
          case h_2 => cases h
          case h_1 x1 hp1 gs1 ws1 n1 hr =>
            simp only [Option.some.injEq, Prod.mk.injEq] at h
            obtain ⟨rfl, rfl, rfl, rfl, rfl⟩ := h
            injection he with he1 he2
            have hz : (w.freeze a z).heap.size = w.heap.size ∧ (w.freeze a z).os = w.os ∧ (w.freeze a z).tape = w.tape ∧ (w.freeze a z).output = w.output := by
              unfold World.freeze; split <;> simp
            have hrest : ∀ k, k ≠ b → (w.freeze a z).heap[k]? = w.heap[k]? := fun k hk => heap_freeze_ne a z (by rw [he1]; exact hk)
            have hset : HS hp (w.freeze a z) := by
              have h9 := hw.set (w' := w.freeze a z) hi trivial (fun _ h => h) (heap_freeze (hw.blk hi) a z he1 (Nat.le_of_ble_eq_true hle)) (fun k hk _ => hrest k hk)
              have e : hp.set i (.blk b T l) = hp := by
                obtain ⟨hi1, hi2⟩ := List.getElem?_eq_some_iff.1 hi
                rw [← hi2]; exact List.set_getElem_self hi1
              rwa [e] at h9
            obtain ⟨w', h1, h2, h3, h4, h5⟩ := ih sc n hp _ _ _ _ _ _ hr he2 (w.freeze a z) hset (fun m hm => by rw [hz.1]; exact hn m hm)
            refine ⟨w', h1, h2, ?_, ?_, h5⟩
            · exact Ext.trans (b := w.freeze a z) ⟨hz.2.1, hz.2.2.1, hz.2.2.2, by rw [hz.1]; exact Nat.le_refl _, fun k hk hF => hrest k (fun e => hF ⟨_, List.mem_of_getElem? hi, trivial, e⟩)⟩ h3 (fun k hk => .inl hk)
            · intro c hc hr k hk
              rcases h4 c hc hr k hk with h | h
              · exact .inl h
              · exact .inr (by rw [← hz.1]; exact h)
  | program k ih =>
    intro sc n hp x hp' gs ws n' sc' h he w hw hn
    have h' : srun P (k P) sc n hp = some (x, hp', gs, ws, n', sc') := by cases sc <;> cases n <;> exact h
    obtain ⟨w', h1, h2⟩ := ih P sc n hp _ _ _ _ _ _ h' he w hw hn
    exact ⟨w', h1, h2⟩
  | mark m k ih =>
    intro sc n hp x hp' gs ws n' sc' h he w hw hn
    have h' : srun P k sc n hp = some (x, hp', gs, ws, n', sc') := by cases sc <;> cases n <;> exact h
    obtain ⟨w', h1, h2⟩ := ih sc n hp _ _ _ _ _ _ h' he w hw hn
    exact ⟨w', h1, h2⟩
  | getObj r k ih => intro sc n hp x hp' gs ws n' sc' h; cases sc <;> cases n <;> simp [srun] at h
  | setObj r o k ih => intro sc n hp x hp' gs ws n' sc' h; cases sc <;> cases n <;> simp [srun] at h
  | choose q k ih => intro sc n hp x hp' gs ws n' sc' h; cases sc <;> cases n <;> simp [srun] at h
  | sys c k ih => intro sc n hp x hp' gs ws n' sc' h; cases sc <;> cases n <;> simp [srun] at h
  | halt h => intro sc n hp x hp' gs ws n' sc' h; cases sc <;> cases n <;> simp [srun] at h

end Go.Sx

/-
  One operation of a region, by evaluation; a row of operations.
-/
namespace Go.Sx
open Go

def ev (fr : Fr) : Operand → Value
  | .tmp t => (look fr t).getD undef
  | .const v => v
  | .global g => .pointer (some ⟨g, 0, none⟩)
  | .func f => .func (.func f) #[] #[]

def knownOp (fr : Fr) (o : Oper) : Bool :=
  (o.op.operands.toList.all fun | .tmp t => (look fr t).isSome | _ => true) && (match o.op with | .select _ _ => false | _ => true)

def FrOk (fr : Fr) (a : Act) : Prop := ∀ i v, look fr i = some v → a.tmps.getD i undef = v

theorem ev_eq {fr : Fr} {a : Act} (h : FrOk fr a) {o : Oper} (hk : knownOp fr o = true) : execOp a.eval o = execOp (ev fr) o := by
  simp only [knownOp, Bool.and_eq_true] at hk
  refine execOp_congr o (fun cs b e => by rw [e] at hk; simp at hk) fun x hx => ?_
  cases x with
  | tmp t =>
    have := List.all_eq_true.1 hk.1 (.tmp t) (by simpa using hx)
    obtain ⟨v, hv⟩ := Option.isSome_iff_exists.1 this
    show a.tmps.getD t undef = (look fr t).getD undef
    rw [h t v hv, hv]; rfl
  | const v => rfl
  | global g => rfl
  | func f => rfl

/-- Is the operation carried out? none: it hangs on a test that is not known. -/
def wants (ops : Array Oper) (fr : Fr) (o : Oper) : Option Bool :=
  match o.guard with
  | none => some true
  | some (j, want) =>
    match (ops[j]?).bind (·.dst) with
    | none => none
    | some d => match look fr d with
      | some (.bool b) => some (b == want)
      | some (.tuple _) => some false
      | _ => none

theorem wants_ok {ops : Array Oper} {fr : Fr} {a : Act} (h : FrOk fr a) {o : Oper} {b : Bool} (hw : wants ops fr o = some b) :
    Region.wanted o (yielded ops a.tmps) = b := by
  unfold wants at hw
  unfold Region.wanted
  cases hg : o.guard with
  | none => rw [hg] at hw; simpa using hw
  | some p =>
    obtain ⟨j, want⟩ := p
    rw [hg] at hw
    simp only at hw ⊢
    cases hj : (ops[j]?).bind (·.dst) with
    | none => rw [hj] at hw; cases hw
    | some d =>
      rw [hj] at hw
      simp only at hw
      cases hl : look fr d with
      | none => rw [hl] at hw; cases hw
      | some v =>
        rw [hl] at hw
        cases v <;> simp only [Option.some.injEq] at hw <;> try cases hw
        case tuple.refl t =>
          have h1 := h d _ hl
          have hy : yielded ops a.tmps j = none := by
            unfold yielded
            cases hoj : ops[j]? with
            | none => rw [hoj] at hj; cases hj
            | some oj =>
              rw [hoj] at hj
              simp only [Option.bind_some] at hj
              simp only [Option.bind_some, hj]
              cases ht : a.tmps[d]? with
              | none => rfl
              | some u => simp [Array.getD_eq_getD_getElem?, ht] at h1; subst h1; rfl
          rw [hy]; cases want <;> rfl
        rename_i x
        have hy : yielded ops a.tmps j = some x := by
          have h1 := h d _ hl
          unfold yielded
          cases hoj : ops[j]? with
          | none => rw [hoj] at hj; cases hj
          | some oj =>
            rw [hoj] at hj
            simp only [Option.bind_some] at hj
            simp only [Option.bind_some, hj]
            cases ht : a.tmps[d]? with
            | none => simp [Array.getD_eq_getD_getElem?, ht, undef] at h1
            | some u => simp [Array.getD_eq_getD_getElem?, ht] at h1; subst h1; rfl
        rw [hy]
        cases x <;> cases want <;> rfl

theorem FrOk.put {fr : Fr} {a : Act} (h : FrOk fr a) {d : Nat} (hd : d < a.tmps.size) (v : Value) : FrOk ((d, v) :: fr) (a.put (some d) v) := by
  intro i u hi
  show ((a.tmps.setIfInBounds d v).getD i undef) = u
  unfold look at hi
  split at hi
  · rename_i e
    subst e
    simp only [Option.some.injEq] at hi
    subst hi
    simp [Array.getD, hd]
  · rename_i e
    have h1 := h i u hi
    rw [← h1]
    simp only [Array.getD_eq_getD_getElem?, Array.getElem?_setIfInBounds]
    rw [if_neg e]

def putFr (fr : Fr) (dst : Option Nat) (v : Value) : Fr := match dst with | some d => (d, v) :: fr | none => fr

/-! ### operations with a condition of their own -/
def AllP : List Prop → Prop
  | [] => True
  | p :: r => p ∧ AllP r
theorem allP_append {l r : List Prop} : AllP (l ++ r) ↔ AllP l ∧ AllP r := by
  induction l with
  | nil => simp [AllP]
  | cons p l ih => simp [AllP, ih, and_assoc]

/-- The byte at a place, as a number. -/
def bt (s : ByteArray) (i : Int) : Int := ((s.data.toList.getD i.toNat 0).toNat : Int)
/-- A text of bytes. -/
def mkS (l : List UInt8) : ByteArray := ⟨l.toArray⟩
theorem mkS_toList (l : List UInt8) : (mkS l).data.toList = l := rfl
theorem mkS_size (l : List UInt8) : (mkS l).size = l.length := rfl
theorem toNat_cast (n : Nat) : ((n : Int)).toNat = n := rfl
theorem data_mk (l : List UInt8) : (ByteArray.mk l.toArray).data.toList = l := rfl
/-- Where a slice of a slice begins (at its very end the address stays). -/
def sOff (off : Nat) (l m : Int) (sz : Nat) : Nat := if m = l then off else off + l.toNat * sz
def inI64 (x : Int) : Prop := -9223372036854775808 ≤ x ∧ x ≤ 9223372036854775807
def intAt (v : Value) : Option (IntKind × Int) := match v with | .int k n => some (k, n) | _ => none

/-- bounds of a slice expression: (low, high, max) and what is owed -/
def mxB (ρ : Operand → Value) (cap : Nat) (mx : Option Operand) : Option (Int × List Prop) :=
  match mx with | none => some ((cap : Int), ([] : List Prop)) | some x => match ρ x with | .int _ n => some (n, [0 ≤ n ∧ n ≤ (cap : Int)]) | _ => none
def hiB (ρ : Operand → Value) (len : Nat) (m : Int) (hi mx : Option Operand) : Option (Int × List Prop) :=
  match hi with | none => (match mx with | none => some ((len : Int), ([] : List Prop)) | some _ => none) | some x => match ρ x with | .int _ n => some (n, [0 ≤ n ∧ n ≤ m]) | _ => none
def loB (ρ : Operand → Value) (h m : Int) (pm ph : List Prop) (lo : Option Operand) : Option (Int × Int × Int × List Prop) :=
  match lo with | none => some ((0 : Int), h, m, pm ++ ph) | some x => match ρ x with | .int _ n => some (n, h, m, pm ++ ph ++ [0 ≤ n ∧ n ≤ h]) | _ => none
def bnds (ρ : Operand → Value) (len cap : Nat) (lo hi mx : Option Operand) : Option (Int × Int × Int × List Prop) :=
  match mxB ρ cap mx with
  | none => none
  | some (m, pm) =>
    match hiB ρ len m hi mx with
    | none => none
    | some (h, ph) => loB ρ h m pm ph lo

/-- 'md': sums, differences, products, and turned kinds of ints are owed to lie in int. -/
def special (P : Program) (md : Bool) (ρ : Operand → Value) (o : Go.Op) : Option (Value × List Prop) :=
  match o with
  | .index t x ix => match P.underlying t, ρ x, ρ ix with
    | some .string, .string s, .int _ i => some (.int .u8 (bt s i), [0 ≤ i ∧ i < (s.size : Int)])
    | _, _, _ => none
  | .indexAddr t x ix => match P.underlying t, ρ x, ρ ix with
    | some (.slice e), .slice (some a) len _, .int _ i =>
      match P.info? e, a.spot with
      | some inf, none => some (.pointer (some ⟨a.block, a.off + i.toNat * inf.size, none⟩), [0 ≤ i ∧ i < (len : Int)])
      | _, _ => none
    | some (.array n e), .pointer (some a), .int _ i =>
      match P.info? e, a.spot with
      | some inf, none => some (.pointer (some ⟨a.block, a.off + i.toNat * inf.size, none⟩), [0 ≤ i ∧ i < (n : Int)])
      | _, _ => none
    | _, _, _ => none
  | .slice t x lo hi mx => match P.underlying t, ρ x with
    | some .string, .string s => match mx, bnds ρ s.size s.size lo hi none with
      | none, some (l, h, _, ps) => some (.string (mkS ((s.data.toList.drop l.toNat).take (h - l).toNat)), ps)
      | _, _ => none
    | some (.slice e), .slice a len cap => match P.info? e, bnds ρ len cap lo hi mx with
      | some inf, some (l, h, m, ps) =>
        match lo with
        | none => some (.slice a h.toNat m.toNat, ps)
        | some _ => match a with
          | some a => match a.spot with
            | none => some (.slice (some ⟨a.block, sOff a.off l m inf.size, none⟩) (h - l).toNat (m - l).toNat, ps)
            | _ => none
          | none => some (.slice none (h - l).toNat (m - l).toNat, ps)
      | _, _ => none
    | some (.array n e), .pointer (some a) => match P.info? e, bnds ρ n n lo hi mx, a.spot with
      | some inf, some (l, h, m, ps), none => some (.slice (some ⟨a.block, sOff a.off l m inf.size, none⟩) (h - l).toNat (m - l).toNat, ps)
      | _, _, _ => none
    | _, _ => none
  | .binOp op t x y _ => match op, ρ x, ρ y with
    | .add, .int .i64 a, .int .i64 b => if md then some (.int .i64 (a + b), [inI64 (a + b)]) else none
    | .sub, .int .i64 a, .int .i64 b => if md then some (.int .i64 (a - b), [inI64 (a - b)]) else none
    | .mul, .int .i64 a, .int .i64 b => if md then some (.int .i64 (a * b), [inI64 (a * b)]) else none
    | .add, .string a, .string b => some (.string (mkS (a.data.toList ++ b.data.toList)), [a.size + b.size ≤ 9223372036854775807])
    | .quo, .int .i64 a, .int .i64 b => if md then some (.int .i64 (a.tdiv b), [b ≠ 0 ∧ inI64 (a.tdiv b)]) else some (.int .i64 (IntKind.wrap .i64 (a.tdiv b)), [b ≠ 0])
    | .quo, .int .u64 a, .int .u64 b => if md then some (.int .u64 (a.tdiv b), [b ≠ 0 ∧ 0 ≤ a.tdiv b ∧ a.tdiv b < 18446744073709551616]) else some (.int .u64 (IntKind.wrap .u64 (a.tdiv b)), [b ≠ 0])
    | .rem, .int k a, .int k' b => match k, k' with
      | .i64, .i64 => some (.int .i64 (a.tmod b), [b ≠ 0])
      | .u64, .u64 => some (.int .u64 (a.tmod b), [b ≠ 0])
      | .u32, .u32 => some (.int .u32 (a.tmod b), [b ≠ 0])
      | _, _ => none
    | .eql, .string a, .string b => some (.bool (decide (a.data.toList = b.data.toList)), [])
    | .neq, .string a, .string b => some (.bool (!decide (a.data.toList = b.data.toList)), [])
    | .shl, .int k a, .int _ b => some (.int k (k.wrap (a * 2 ^ (min b.toNat k.bits))), [0 ≤ b])
    | .shr, .int k a, .int _ b => some (.int k (a.fdiv (2 ^ (min b.toNat k.bits))), [0 ≤ b])
    | _, _, _ => none
  | .pick c x y => match ρ c, ρ x, ρ y with
    | .bool c, .bool x, .bool y => some (.bool (cond c x y), [])
    | .bool c, .int k x, .int k' y => match k, k' with
      | .i64, .i64 => some (.int .i64 (cond c x y), [])
      | _, _ => none
    | _, _, _ => none
  | .call c => match c.callee, c.args.toList, c.argTypes.toList with
    | .builtin .len, [x], [t] => match ρ x, P.underlying t with
      | .string s, some .string => some (.int .i64 (s.data.toList.length : Int), [])
      | _, _ => none
    | _, _, _ => none
  | .convert s d x => match P.underlying d, ρ x with
    | some (.int .i64), .int .i64 n => match P.underlying s with | some _ => (if md then some (.int .i64 n, [inI64 n]) else none) | none => none
    | some (.int .i64), .int .u8 n => match P.underlying s with | some _ => (if md then some (.int .i64 n, [inI64 n]) else none) | none => none
    | _, _ => none
  | _ => none

end Go.Sx

/-
  The operations with a condition of their own do what 'special' says.
-/
namespace Go.Sx
open Go

variable {P : Program} {md : Bool} {ρ : Operand → Value} {w : World}

theorem run_sliceBound {k : IntKind} {n : Int} {y : Nat} {code : BoundsCode} (h0 : 0 ≤ n) (h1 : n ≤ (y : Int)) : (Instr.sliceBound (.int k n) y code).run P w = .ok n.toNat w := by
  simp [Instr.sliceBound, asIntOf, h0, h1]

theorem bnds_ok {sl : Bool} {len cap : Nat} {lo hi mx : Option Operand} {l h m : Int} {ps : List Prop} (e : bnds ρ len cap lo hi mx = some (l, h, m, ps)) (hp : AllP ps) :
    (Instr.sliceBounds sl len cap (lo.map ρ) (hi.map ρ) (mx.map ρ)).run P w = .ok (l.toNat, h.toNat, m.toNat) w ∧ 0 ≤ l ∧ 0 ≤ h ∧ 0 ≤ m ∧ (lo = none → l = 0) ∧ (hi = none → h = len) ∧ (mx = none → m = cap) ∧ (hi ≠ none → h ≤ m) ∧ (lo ≠ none → l ≤ h) := by
  unfold bnds at e
  have key : ∀ (m : Int) (pm : List Prop) (h : Int) (ph : List Prop) (l : Int) (ps : List Prop), AllP ps →
      mxB ρ cap mx = some (m, pm) → hiB ρ len m hi mx = some (h, ph) → loB ρ h m pm ph lo = some (l, h, m, ps) →
      (Instr.sliceBounds sl len cap (lo.map ρ) (hi.map ρ) (mx.map ρ)).run P w = .ok (l.toNat, h.toNat, m.toNat) w ∧ 0 ≤ l ∧ 0 ≤ h ∧ 0 ≤ m ∧ (lo = none → l = 0) ∧ (hi = none → h = len) ∧ (mx = none → m = cap) ∧ (hi ≠ none → h ≤ m) ∧ (lo ≠ none → l ≤ h) := by
    intro m pm h ph l ps hp e1 e2 e3
    unfold mxB at e1
    unfold hiB at e2
    unfold loB at e3
    have hall : AllP pm ∧ AllP ph ∧ (lo ≠ none → 0 ≤ l ∧ l ≤ h) ∧ (lo = none → l = 0) := by
      cases lo with
      | none =>
        simp only [Option.some.injEq, Prod.mk.injEq] at e3
        obtain ⟨rfl, _, _, rfl⟩ := e3
        rw [allP_append] at hp
        exact ⟨hp.1, hp.2, fun h => absurd rfl h, fun _ => rfl⟩
      | some x =>
        simp only at e3
        split at e3
        case h_2 => cases e3
        case h_1 k n hx =>
          simp only [Option.some.injEq, Prod.mk.injEq] at e3
          obtain ⟨rfl, _, _, rfl⟩ := e3
          rw [allP_append, allP_append] at hp
          exact ⟨hp.1.1, hp.1.2, fun _ => hp.2.1, fun h => by cases h⟩
    obtain ⟨hpm, hph, hl1, hl0⟩ := hall
    have hm : 0 ≤ m ∧ (mx = none → m = cap) ∧ (mx ≠ none → m ≤ cap) := by
      cases mx with
      | none => simp only [Option.some.injEq, Prod.mk.injEq] at e1; obtain ⟨rfl, rfl⟩ := e1; exact ⟨by omega, fun _ => rfl, fun h => absurd rfl h⟩
      | some x =>
        simp only at e1
        split at e1
        case h_2 => cases e1
        case h_1 k n hx => simp only [Option.some.injEq, Prod.mk.injEq] at e1; obtain ⟨rfl, rfl⟩ := e1; exact ⟨hpm.1.1, fun h => (by cases h), fun _ => hpm.1.2⟩
    have hh : 0 ≤ h ∧ (hi = none → h = len) ∧ (hi ≠ none → h ≤ m) := by
      cases hi with
      | none =>
        cases mx with
        | none => simp only [Option.some.injEq, Prod.mk.injEq] at e2; obtain ⟨rfl, rfl⟩ := e2; exact ⟨by omega, fun _ => rfl, fun h => absurd rfl h⟩
        | some x => simp at e2
      | some x =>
        simp only at e2
        split at e2
        case h_2 => cases e2
        case h_1 k n hx => simp only [Option.some.injEq, Prod.mk.injEq] at e2; obtain ⟨rfl, rfl⟩ := e2; exact ⟨hph.1.1, fun h => (by cases h), fun _ => hph.1.2⟩
    have hl : 0 ≤ l := by
      by_cases hlo : lo = none
      · rw [hl0 hlo]; omega
      · exact (hl1 hlo).1
    refine ⟨?_, hl, hh.1, hm.1, hl0, hh.2.1, hm.2.1, hh.2.2, fun h => (hl1 h).2⟩
    have hcap : (m.toNat : Int) = m := Int.toNat_of_nonneg hm.1
    have hhN : (h.toNat : Int) = h := Int.toNat_of_nonneg hh.1
    unfold Instr.sliceBounds
    cases mx with
    | none =>
      have := hm.2.1 rfl
      subst this
      cases hi with
      | none =>
        have := hh.2.1 rfl
        subst this
        cases lo with
        | none => have := hl0 rfl; subst this; simp
        | some z =>
          simp only at e3
          split at e3
          case h_2 => cases e3
          case h_1 k n hx =>
            simp only [Option.some.injEq, Prod.mk.injEq] at e3
            obtain ⟨rfl, _⟩ := e3
            have h2 := hl1 (by simp)
            simp [hx, run_sliceBound h2.1 h2.2]
      | some y =>
        simp only at e2
        split at e2
        case h_2 => cases e2
        case h_1 k n hx =>
          simp only [Option.some.injEq, Prod.mk.injEq] at e2
          obtain ⟨rfl, _⟩ := e2
          have h3 := hh.2.2 (by simp)
          cases lo with
          | none => have := hl0 rfl; subst this; simp [hx, run_sliceBound hh.1 h3]
          | some z =>
            simp only at e3
            split at e3
            case h_2 => cases e3
            case h_1 k' n' hx' =>
              simp only [Option.some.injEq, Prod.mk.injEq] at e3
              obtain ⟨rfl, _⟩ := e3
              have h2 := hl1 (by simp)
              simp [hx, hx', run_sliceBound hh.1 h3, run_sliceBound h2.1 (by rw [hhN]; exact h2.2)]
    | some q =>
      simp only at e1
      split at e1
      case h_2 => cases e1
      case h_1 kq nq hq =>
        simp only [Option.some.injEq, Prod.mk.injEq] at e1
        obtain ⟨rfl, _⟩ := e1
        have h4 := hm.2.2 (by simp)
        cases hi with
        | none => simp at e2
        | some y =>
          simp only at e2
          split at e2
          case h_2 => cases e2
          case h_1 k n hx =>
            simp only [Option.some.injEq, Prod.mk.injEq] at e2
            obtain ⟨rfl, _⟩ := e2
            have h3 := hh.2.2 (by simp)
            cases lo with
            | none => have := hl0 rfl; subst this; simp [hq, hx, run_sliceBound hm.1 h4, run_sliceBound hh.1 (by rw [hcap]; exact h3)]
            | some z =>
              simp only at e3
              split at e3
              case h_2 => cases e3
              case h_1 k' n' hx' =>
                simp only [Option.some.injEq, Prod.mk.injEq] at e3
                obtain ⟨rfl, _⟩ := e3
                have h2 := hl1 (by simp)
                simp [hq, hx, hx', run_sliceBound hm.1 h4, run_sliceBound hh.1 (by rw [hcap]; exact h3), run_sliceBound h2.1 (by rw [hhN]; exact h2.2)]
  split at e
  case h_1 => cases e
  case h_2 m' pm e1 =>
    split at e
    case h_1 => cases e
    case h_2 h' ph e2 =>
      have : h' = h ∧ m' = m := by
        unfold loB at e
        split at e
        · simp only [Option.some.injEq, Prod.mk.injEq] at e; exact ⟨e.2.1, e.2.2.1⟩
        · split at e
          · simp only [Option.some.injEq, Prod.mk.injEq] at e; exact ⟨e.2.1, e.2.2.1⟩
          · cases e
      obtain ⟨rfl, rfl⟩ := this
      exact key m' pm h' ph l ps hp e1 e2 e

theorem byte_at {s : ByteArray} {i : Int} (h0 : 0 ≤ i) (h1 : i < (s.size : Int)) : ∃ b, s[i.toNat]? = some b ∧ ((b.toNat : Int)) = bt s i := by
  have h : i.toNat < s.size := by omega
  refine ⟨s[i.toNat], by simp [getElem?_pos, h], ?_⟩
  unfold bt
  have h' : i.toNat < s.data.toList.length := by simpa using h
  rw [List.getD_eq_getElem?_getD, List.getElem?_eq_getElem h']
  rfl

theorem extract_mkS (s : ByteArray) (i j : Nat) : s.extract i j = mkS ((s.data.toList.drop i).take (j - i)) := by
  apply ByteArray.ext
  simp only [mkS, ByteArray.data_extract]
  apply Array.ext'
  simp [Array.toList_extract, List.extract_eq_take_drop]
theorem append_mkS (a b : ByteArray) : a ++ b = mkS (a.data.toList ++ b.data.toList) := by
  apply ByteArray.ext
  simp [mkS]

theorem wrap_in {x : Int} (h : inI64 x) : IntKind.wrap .i64 x = x := by
  unfold IntKind.wrap inI64 at *
  simp only [IntKind.bits, IntKind.signed]
  obtain ⟨h1, h2⟩ := h
  by_cases h0 : 0 ≤ x
  · have : x % 2 ^ 64 = x := Int.emod_eq_of_lt h0 (by omega)
    simp only [this]
    rw [if_neg (by simp; omega)]
  · have : x % 2 ^ 64 = x + 2 ^ 64 := by omega
    simp only [this]
    rw [if_pos (by simp; omega)]
    omega

theorem eqGuard_int {op : BinOp} {t : TypeId} {x y : Operand} {k k' : IntKind} {a b : Int} : (eqGuard op t x y (.int k a) (.int k' b)).run P w = .ok () w := by
  cases op <;> simp [eqGuard]
theorem eqGuard_str {op : BinOp} {t : TypeId} {x y : Operand} {a b : ByteArray} : (eqGuard op t x y (.string a) (.string b)).run P w = .ok () w := by
  cases op <;> simp [eqGuard]

theorem toList_data (s : ByteArray) : s.toList = s.data.toList := Go.ByteArray.toList_eq s
theorem beq_decide (a b : List UInt8) : (a == b) = decide (a = b) := by
  rw [Bool.eq_iff_iff]; simp

theorem special_sound {o : Oper} {v : Value} {ps : List Prop} (h : special P md ρ o.op = some (v, ps)) (hp : AllP ps) (w : World) : (execOp ρ o).run P w = .ok (.value v) w := by
  obtain ⟨dst, op, ty, pos, after, guard⟩ := o
  simp only at h
  unfold special at h
  split at h
  · -- index
    split at h
    · rename_i t x ix s k i ht hx hi
      simp only [Option.some.injEq, Prod.mk.injEq] at h
      obtain ⟨rfl, rfl⟩ := h
      obtain ⟨b, hb1, hb2⟩ := byte_at hp.1.1 hp.1.2
      simp [execOp, Instr.index, hx, hi, asIntOf, run_underlying ht, hp.1.1, hb1, hb2]
    · cases h
  · -- indexAddr
    split at h
    · rename_i t x ix e a len cap k i ht hx hi
      split at h
      · rename_i inf hinf hsp
        simp only [Option.some.injEq, Prod.mk.injEq] at h
        obtain ⟨rfl, rfl⟩ := h
        have h2 := hp.1
        have hadd : ∀ n, a.add n = ⟨a.block, a.off + n, none⟩ := fun n => by
          obtain ⟨ab, ao, asp⟩ := a
          simp only at hsp
          subst hsp
          unfold Addr.add
          split <;> simp_all
        simp [execOp, Instr.indexAt, hx, hi, asIntOf, run_underlying ht, h2.1, h2.2, sizeOf, typeInfo, hinf, hadd]
      · cases h
    · rename_i t x ix n e a k i ht hx hi
      split at h
      · rename_i inf hinf hsp
        simp only [Option.some.injEq, Prod.mk.injEq] at h
        obtain ⟨rfl, rfl⟩ := h
        have h2 := hp.1
        have hadd : ∀ n, a.add n = ⟨a.block, a.off + n, none⟩ := fun n => by
          obtain ⟨ab, ao, asp⟩ := a
          simp only at hsp
          subst hsp
          unfold Addr.add
          split <;> simp_all
        simp [execOp, Instr.indexAt, Instr.sureAddr, hx, hi, asIntOf, run_underlying ht, h2.1, h2.2, sizeOf, typeInfo, hinf, hadd]
      · cases h
    · cases h
  · -- slice
    rename_i t x lo hi mx
    have hsz : ∀ (sl : Bool) (n : Nat) (e : TypeDesc), P.underlying t = some e → (∀ n m, e ≠ .array n m) → (execOp ρ { dst := dst, op := Go.Op.slice t x lo hi mx, type := ty, pos := pos, after := after, guard := guard }).run P w = ((fun v => Next.value v) <$> Instr.slice t (ρ x) (lo.map ρ) (hi.map ρ) (mx.map ρ)).run P w := by
      intro sl n e ht hne
      cases e <;> first | exact absurd rfl (hne _ _) | (simp [execOp, Instr.sliceAt, run_underlying ht])
    split at h
    · rename_i s ht hx
      split at h
      · rename_i l hh m ps' hmx hb
        simp only [Option.some.injEq, Prod.mk.injEq] at h
        obtain ⟨rfl, rfl⟩ := h
        have e1 := bnds_ok (P := P) (w := w) (sl := false) hb hp
        rw [hsz false 0 _ ht (by intro n m e; cases e)]
        have h1 := e1.1
        simp only [Option.map_none] at h1
        have hm : (h : Int) → True := fun _ => trivial
        simp [Instr.slice, run_underlying ht, hx, h1, extract_mkS]
        have := e1.2.1; have := e1.2.2.1
        congr 2
        omega
      · cases h
    · rename_i e a len cap ht hx
      split at h
      · rename_i inf l hh m ps' hinf hb
        have hrun : ∀ ps', bnds ρ len cap lo hi mx = some (l, hh, m, ps') → AllP ps' → (execOp ρ { dst := dst, op := Go.Op.slice t x lo hi mx, type := ty, pos := pos, after := after, guard := guard }).run P w =
            .ok (.value (.slice (if m = l then a else a.map (·.add (l.toNat * inf.size))) (hh - l).toNat (m - l).toNat)) w ∧ (lo = none → l = 0) := by
          intro ps' hb hp'
          have e1 := bnds_ok (P := P) (w := w) (sl := true) hb hp'
          have := e1.2.1; have := e1.2.2.1; have := e1.2.2.2.1
          refine ⟨?_, e1.2.2.2.2.1⟩
          rw [hsz false 0 _ ht (by intro n m e; cases e)]
          have e2 : (m.toNat = l.toNat) = (m = l) := by apply propext; constructor <;> intro <;> omega
          simp [Instr.slice, run_underlying ht, hx, e1.1, sizeOf, typeInfo, hinf, e2]
          constructor <;> omega
        split at h
        · simp only [Option.some.injEq, Prod.mk.injEq] at h
          obtain ⟨rfl, rfl⟩ := h
          obtain ⟨h1, h2⟩ := hrun _ hb hp
          have := h2 rfl
          subst this
          rw [h1]
          have hadd0 : a.map (fun x => x.add (Int.toNat 0 * inf.size)) = a := by cases a <;> simp [Addr.add]
          rw [hadd0]
          simp
        · split at h
          · split at h
            · rename_i a' _ hsp
              simp only [Option.some.injEq, Prod.mk.injEq] at h
              obtain ⟨rfl, rfl⟩ := h
              obtain ⟨h1, h2⟩ := hrun _ hb hp
              rw [h1]
              have hadd : ∀ n, a'.add n = ⟨a'.block, a'.off + n, none⟩ := fun n => by
                obtain ⟨ab, ao, asp⟩ := a'
                simp only at hsp
                subst hsp
                unfold Addr.add
                split <;> simp_all
              have ha' : a' = ⟨a'.block, a'.off, none⟩ := by
                obtain ⟨ab, ao, asp⟩ := a'
                simp only at hsp
                subst hsp; rfl
              unfold sOff
              by_cases hml : m = l
              · rw [if_pos hml, if_pos hml, ← ha']
              · rw [if_neg hml, if_neg hml]; simp [hadd]
            · cases h
          · simp only [Option.some.injEq, Prod.mk.injEq] at h
            obtain ⟨rfl, rfl⟩ := h
            obtain ⟨h1, h2⟩ := hrun _ hb hp
            rw [h1]
            simp
      · cases h
    · rename_i n e a ht hx
      split at h
      · rename_i inf l hh m ps' hinf hb hsp
        simp only [Option.some.injEq, Prod.mk.injEq] at h
        obtain ⟨rfl, rfl⟩ := h
        have e1 := bnds_ok (P := P) (w := w) (sl := false) hb hp
        have := e1.2.1; have := e1.2.2.1; have := e1.2.2.2.1
        have hadd : ∀ n, a.add n = ⟨a.block, a.off + n, none⟩ := fun n => by
          obtain ⟨ab, ao, asp⟩ := a
          simp only at hsp
          subst hsp
          unfold Addr.add
          split <;> simp_all
        have ha' : a = ⟨a.block, a.off, none⟩ := by
          obtain ⟨ab, ao, asp⟩ := a
          simp only at hsp
          subst hsp; rfl
        have e2 : (m.toNat = l.toNat) = (m = l) := by apply propext; constructor <;> intro <;> omega
        have e3 : (if m = l then a else a.add (l.toNat * inf.size)) = ⟨a.block, sOff a.off l m inf.size, none⟩ := by
          unfold sOff
          by_cases hml : m = l
          · rw [if_pos hml, if_pos hml]; exact ha'
          · rw [if_neg hml, if_neg hml]; exact hadd _
        simp only [execOp, Instr.sliceAt, Sem.run_bind, Sem.run_map, run_underlying ht, Result.andThen_ok, hx, Instr.sureAddr, Sem.run_pure, e1.1, sizeOf, typeInfo, run_program, hinf, e2, e3]
        simp
        constructor <;> omega
      · cases h
    · cases h
  · -- binOp
    rename_i op t x y yt
    split at h
    · split at h
      · rename_i hx hy _; simp only [Option.some.injEq, Prod.mk.injEq] at h; obtain ⟨rfl, rfl⟩ := h
        simp [execOp, binOp, hx, hy, eqGuard_int, Op.intArith, wrap_in hp.1]
      · cases h
    · split at h
      · rename_i hx hy _; simp only [Option.some.injEq, Prod.mk.injEq] at h; obtain ⟨rfl, rfl⟩ := h
        simp [execOp, binOp, hx, hy, eqGuard_int, Op.intArith, wrap_in hp.1]
      · cases h
    · split at h
      · rename_i hx hy _; simp only [Option.some.injEq, Prod.mk.injEq] at h; obtain ⟨rfl, rfl⟩ := h
        simp [execOp, binOp, hx, hy, eqGuard_int, Op.intArith, wrap_in hp.1]
      · cases h
    · rename_i a b hx hy; simp only [Option.some.injEq, Prod.mk.injEq] at h; obtain ⟨rfl, rfl⟩ := h
      have h1 := hp.1
      have h2 : ¬ (((a.size + b.size : Nat) : Int) > IntKind.i64.max) := by
        have : IntKind.i64.max = 9223372036854775807 := by decide
        rw [this]; omega
      have h3 : ¬ (IntKind.i64.max < (a.size : Int) + (b.size : Int)) := by simpa using h2
      simp [execOp, binOp, hx, hy, eqGuard_str, Op.stringOp, h3, append_mkS a b]
      omega
    · split at h
      · rename_i hx hy _; simp only [Option.some.injEq, Prod.mk.injEq] at h; obtain ⟨rfl, rfl⟩ := h
        simp [execOp, binOp, hx, hy, eqGuard_int, Op.intDiv, hp.1.1, wrap_in hp.1.2]
      · rename_i hx hy _; simp only [Option.some.injEq, Prod.mk.injEq] at h; obtain ⟨rfl, rfl⟩ := h
        simp [execOp, binOp, hx, hy, eqGuard_int, Op.intDiv, hp.1]
    · split at h
      · rename_i a b hx hy _; simp only [Option.some.injEq, Prod.mk.injEq] at h; obtain ⟨rfl, rfl⟩ := h
        have e : IntKind.wrap .u64 (a.tdiv b) = a.tdiv b := by
          unfold IntKind.wrap
          simp only [IntKind.bits, IntKind.signed]
          have := hp.1.2
          simp
          omega
        simp [execOp, binOp, hx, hy, eqGuard_int, Op.intDiv, hp.1.1, e]
      · rename_i hx hy _; simp only [Option.some.injEq, Prod.mk.injEq] at h; obtain ⟨rfl, rfl⟩ := h
        simp [execOp, binOp, hx, hy, eqGuard_int, Op.intDiv, hp.1]
    · rename_i hx hy
      split at h
      all_goals first | (cases h; done) | (simp only [Option.some.injEq, Prod.mk.injEq] at h; obtain ⟨rfl, rfl⟩ := h; simp [execOp, binOp, hx, hy, eqGuard_int, Op.intDiv, hp.1])
    · rename_i a b hx hy; simp only [Option.some.injEq, Prod.mk.injEq] at h; obtain ⟨rfl, rfl⟩ := h
      simp only [execOp, binOp, hx, hy, eqGuard_str, Op.stringOp, toList_data, beq_decide, Sem.run_bind, Sem.run_pure, Result.andThen_ok]
    · rename_i a b hx hy; simp only [Option.some.injEq, Prod.mk.injEq] at h; obtain ⟨rfl, rfl⟩ := h
      simp only [execOp, binOp, hx, hy, eqGuard_str, Op.stringOp, toList_data, beq_decide, Sem.run_bind, Sem.run_pure, Result.andThen_ok]
    · rename_i hx hy; simp only [Option.some.injEq, Prod.mk.injEq] at h; obtain ⟨rfl, rfl⟩ := h
      simp [execOp, binOp, hx, hy, eqGuard_int, Op.shift, Int.not_lt.2 hp.1]
    · rename_i hx hy; simp only [Option.some.injEq, Prod.mk.injEq] at h; obtain ⟨rfl, rfl⟩ := h
      simp [execOp, binOp, hx, hy, eqGuard_int, Op.shift, Int.not_lt.2 hp.1]
    · cases h
  · -- pick
    split at h
    · rename_i hc hx hy
      simp only [Option.some.injEq, Prod.mk.injEq] at h
      obtain ⟨rfl, rfl⟩ := h
      rename_i c _ _
      cases c <;> simp [execOp, asBool, hc, hx, hy]
    · rename_i hc hx hy
      split at h
      · simp only [Option.some.injEq, Prod.mk.injEq] at h
        obtain ⟨rfl, rfl⟩ := h
        simp only [execOp, asBool, hc, hx, hy]
        simp
        split <;> simp_all
      · cases h
    · cases h
  · -- len
    rename_i c
    split at h
    · rename_i x t hcal hargs hts
      split at h
      · rename_i s hx ht
        simp only [Option.some.injEq, Prod.mk.injEq] at h
        obtain ⟨rfl, rfl⟩ := h
        have e1 : c.args = #[x] := by apply Array.ext'; simpa using hargs
        have e2 : c.argTypes = #[t] := by apply Array.ext'; simpa using hts
        simp [execOp, resolve, hcal, e1, e2, invoke, builtin, Builtin.len_, hx, run_underlying ht, goInt]
      · cases h
    · cases h
  · -- convert
    rename_i s d x
    have hs : ∀ (k : IntKind) (n : Int) (k' : IntKind), P.underlying d = some (.int k') → ρ x = .int k n → (∃ ds, P.underlying s = some ds) →
      (execOp ρ { dst := dst, op := Go.Op.convert s d x, type := ty, pos := pos, after := after, guard := guard }).run P w = .ok (.value (.int k' (k'.wrap n))) w := by
      intro k n k' hd hx ⟨ds, hds⟩
      simp [execOp, hx, convert, run_underlying hd, run_underlying hds, Conv.intToInt]
    split at h
    · rename_i hd hx
      split at h
      · split at h
        · simp only [Option.some.injEq, Prod.mk.injEq] at h; obtain ⟨rfl, rfl⟩ := h
          rename_i hds _
          rw [hs _ _ _ hd hx ⟨_, hds⟩, wrap_in hp.1]
        · cases h
      · cases h
    · rename_i hd hx
      split at h
      · split at h
        · simp only [Option.some.injEq, Prod.mk.injEq] at h; obtain ⟨rfl, rfl⟩ := h
          rename_i hds _
          rw [hs _ _ _ hd hx ⟨_, hds⟩, wrap_in hp.1]
        · cases h
      · cases h
    · cases h
  · cases h
end Go.Sx

/-
  One operation, a row of operations, regions, code: the rules by which a proof goes on.
-/
namespace Go.Sx
open Go

structure Rs where
  fr : Fr
  hp : Hp
  gs : List Nat
  ws : List Nat
  vc : List Prop
  n : Option Nat
  sc : List Nat

def okDst (nt : Nat) : Option Nat → Bool
  | none => true
  | some d => d.blt nt

def sop (P : Program) (md : Bool) (ops : Array Oper) (nt : Nat) (i : Nat) (fr : Fr) (hp : Hp) (n : Option Nat) (sc : List Nat) : Option Rs :=
  match ops[i]? with
  | none => none
  | some o =>
    match okDst nt o.dst, wants ops fr o with
    | true, some false => some ⟨putFr fr o.dst undef, hp, [], [], [], n, sc⟩
    | true, some true =>
      match knownOp fr o with
      | false => none
      | true =>
        match special P md (ev fr) o.op with
        | some (v, ps) => some ⟨putFr fr o.dst v, hp, [], [], ps, n, sc⟩
        | none => match srun P (execOp (ev fr) o) sc n hp with
          | some (.value v, hp', gs, ws, n', sc') => some ⟨putFr fr o.dst v, hp', gs, ws, [], n', sc'⟩
          | some (.skip, hp', gs, ws, n', sc') => some ⟨putFr fr o.dst undef, hp', gs, ws, [], n', sc'⟩
          | _ => none
    | _, _ => none

theorem FrOk.putFr {fr : Fr} {a : Act} (h : FrOk fr a) {nt : Nat} {d : Option Nat} (hs : a.tmps.size = nt) (hd : okDst nt d = true) (v : Value) : FrOk (putFr fr d v) (a.put d v) := by
  cases d with
  | none => exact h
  | some d => exact FrOk.put h (by rw [hs]; exact Nat.le_of_ble_eq_true hd) v
theorem size_put {a : Act} (d : Option Nat) (v : Value) : (a.put d v).tmps.size = a.tmps.size := by cases d <;> simp [Act.put]
theorem defers_put {a : Act} (d : Option Nat) (v : Value) : (a.put d v).defers = a.defers := by cases d <;> rfl

/-- The number that a new block would have. -/
def Fresh (n : Option Nat) (w : World) : Prop := ∀ m, n = some m → m = w.heap.size

theorem Sat.step {Γ : Cx} {fr : Fr} {hp hp' : Hp} {a : Act} {w w' : World} {d : Option Nat} {v : Value} (h : Sat Γ ⟨fr, hp⟩ a w) (hd : okDst Γ.nt d = true)
    (hs : HS hp' w') (he : Ext w w' (foot hp)) (hb : Bd hp' (foot hp) w.heap.size) : Sat Γ ⟨putFr fr d v, hp'⟩ (a.put d v) w' where
  size := (size_put d v).trans h.size
  defers := (defers_put d v).trans h.defers
  fr := FrOk.putFr h.fr h.size hd v
  hs := hs
  ext := h.ext.trans he fun x ⟨c, hc, hr, hx⟩ => h.bd c hc hr x hx
  bd := fun c hc hr k hk => by
    rcases hb c hc hr k hk with ⟨d, hd, hdr, hdk⟩ | h1
    · exact h.bd d hd hdr k hdk
    · exact .inr (Nat.le_trans h.ext.size h1)

theorem sop_sound {Γ : Cx} {md : Bool} {ops : Array Oper} {i : Nat} {fr : Fr} {hp : Hp} {n : Option Nat} {sc : List Nat} {r : Rs} {Q : Exit → Act → World → Prop}
    (h : sop Γ.P md ops Γ.nt i fr hp n sc = some r) (he : r.gs = r.ws) (hv : AllP r.vc) {a : Act} {w : World} (hS : Sat Γ ⟨fr, hp⟩ a w) (hn : Fresh n w)
    {K : Act → World → Prop} (hK : ∀ a' w', Sat Γ ⟨r.fr, r.hp⟩ a' w' → Fresh r.n w' → K a' w') : wpOp Γ.P ops Q i K a w := by
  unfold sop at h
  unfold wpOp
  cases ho : ops[i]? with
  | none => rw [ho] at h; cases h
  | some o =>
    rw [ho] at h
    simp only at h ⊢
    split at h
    · rename_i hd hw
      simp only [Option.some.injEq] at h
      subst h
      rw [wants_ok hS.fr hw]
      simp only [Bool.false_eq_true, if_false]
      exact hK _ _ (hS.step hd hS.hs (Ext.refl _ _) (Bd.self _ _)) hn
    · rename_i hd hw
      rw [wants_ok hS.fr hw]
      simp only [if_true]
      refine .inl ?_
      split at h
      · cases h
      · rename_i hk
        unfold Oper.wp
        rw [ev_eq hS.fr hk]
        split at h
        · rename_i v ps hsp
          simp only [Option.some.injEq] at h
          subst h
          rw [special_sound hsp hv]
          exact hK _ _ (hS.step hd hS.hs (Ext.refl _ _) (Bd.self _ _)) hn
        · split at h
          · rename_i v hp' gs ws n' sc' hr
            simp only [Option.some.injEq] at h
            subst h
            obtain ⟨w', h1, h2, h3, h4, h5⟩ := srun_sound _ _ _ _ _ _ _ _ _ _ hr he w hS.hs hn
            rw [h1]
            exact hK _ _ (hS.step hd h2 h3 h4) h5
          · rename_i hp' gs ws n' sc' hr
            simp only [Option.some.injEq] at h
            subst h
            obtain ⟨w', h1, h2, h3, h4, h5⟩ := srun_sound _ _ _ _ _ _ _ _ _ _ hr he w hS.hs hn
            rw [h1]
            exact hK _ _ (hS.step hd h2 h3 h4) h5
          · cases h
    · cases h

/-- A row of operations. -/
def sops (P : Program) (md : Bool) (ops : Array Oper) (nt : Nat) : List Nat → Fr → Hp → Option Nat → List Nat → Option Rs
  | [], fr, hp, n, sc => some ⟨fr, hp, [], [], [], n, sc⟩
  | i :: l, fr, hp, n, sc =>
    match sop P md ops nt i fr hp n sc with
    | none => none
    | some r => match sops P md ops nt l r.fr r.hp r.n r.sc with
      | none => none
      | some q => some ⟨q.fr, q.hp, r.gs ++ q.gs, r.ws ++ q.ws, r.vc ++ q.vc, q.n, q.sc⟩

def lens : List (List Nat × List Nat) → Bool := fun l => l.all fun (a, b) => a.length == b.length

theorem sop_len {P : Program} {md : Bool} {ops : Array Oper} {nt i : Nat} {fr : Fr} {hp : Hp} {n : Option Nat} {sc : List Nat} {r : Rs} (h : sop P md ops nt i fr hp n sc = some r) : r.gs.length = r.ws.length := by
  have key : ∀ {α : Type} (s : Sem α) (sc : List Nat) (n : Option Nat) (hp : Hp) (x : α) (hp' : Hp) (gs ws : List Nat) (n' : Option Nat) (sc' : List Nat),
      srun P s sc n hp = some (x, hp', gs, ws, n', sc') → gs.length = ws.length := by
    intro α s
    induction s with
    | pure a => intro sc n hp x hp' gs ws n' sc' h; simp only [srun, Option.some.injEq, Prod.mk.injEq] at h; obtain ⟨_, _, rfl, rfl, _⟩ := h; rfl
    | load m a k ih =>
      intro sc n hp x hp' gs ws n' sc' h
      cases sc with
      | nil => simp [srun] at h
      | cons i sc =>
        simp only [srun] at h
        split at h <;> try cases h
        split at h <;> try cases h
        split at h <;> try cases h
        rename_i hr
        simpa using ih _ _ _ _ _ _ _ _ _ _ hr
    | store m a v k ih =>
      intro sc n hp x hp' gs ws n' sc' h
      cases sc with
      | nil => simp [srun] at h
      | cons i sc =>
        simp only [srun] at h
        split at h <;> try cases h
        split at h <;> try cases h
        split at h <;> try cases h
        split at h <;> try cases h
        rename_i hr
        simpa using ih _ _ _ _ _ _ _ _ _ hr
    | new o k ih =>
      intro sc n hp x hp' gs ws n' sc' h
      cases n with
      | none => simp [srun] at h
      | some m =>
        simp only [srun] at h
        split at h <;> try cases h
        exact ih _ _ _ _ _ _ _ _ _ _ h
    | shape r k ih =>
      intro sc n hp x hp' gs ws n' sc' h
      cases sc with
      | nil => simp [srun] at h
      | cons i sc =>
        simp only [srun] at h
        split at h <;> try cases h
        split at h <;> try cases h
        rename_i hr
        simpa using ih _ _ _ _ _ _ _ _ _ _ hr
    | frozen a k ih =>
      intro sc n hp x hp' gs ws n' sc' h
      cases sc with
      | nil => simp [srun] at h
      | cons i sc =>
        simp only [srun] at h
        split at h <;> try cases h
        split at h <;> try cases h
        split at h <;> try cases h
        rename_i hr
        simpa using ih _ _ _ _ _ _ _ _ _ _ hr
    | freeze a z k ih =>
      intro sc n hp x hp' gs ws n' sc' h
      cases sc with
      | nil => simp [srun] at h
      | cons i sc =>
        simp only [srun] at h
        split at h <;> try cases h
        split at h <;> try cases h
        split at h <;> try cases h
        rename_i hr
        simpa using ih _ _ _ _ _ _ _ _ _ hr
    | program k ih =>
      intro sc n hp x hp' gs ws n' sc' h
      have h' : srun P (k P) sc n hp = some (x, hp', gs, ws, n', sc') := by cases sc <;> cases n <;> exact h
      exact ih _ _ _ _ _ _ _ _ _ _ h'
    | mark m k ih =>
      intro sc n hp x hp' gs ws n' sc' h
      have h' : srun P k sc n hp = some (x, hp', gs, ws, n', sc') := by cases sc <;> cases n <;> exact h
      exact ih _ _ _ _ _ _ _ _ _ h'
    | getObj r k ih => intro sc n hp x hp' gs ws n' sc' h; cases sc <;> cases n <;> simp [srun] at h
    | setObj r o k ih => intro sc n hp x hp' gs ws n' sc' h; cases sc <;> cases n <;> simp [srun] at h
    | choose q k ih => intro sc n hp x hp' gs ws n' sc' h; cases sc <;> cases n <;> simp [srun] at h
    | sys c k ih => intro sc n hp x hp' gs ws n' sc' h; cases sc <;> cases n <;> simp [srun] at h
    | halt h => intro sc n hp x hp' gs ws n' sc' h; cases sc <;> cases n <;> simp [srun] at h
  unfold sop at h
  split at h
  · cases h
  · split at h
    · cases h; rfl
    · split at h
      · cases h
      · split at h
        · cases h; rfl
        · split at h
          · cases h; rename_i hr; exact key _ _ _ _ _ _ _ _ _ _ hr
          · cases h; rename_i hr; exact key _ _ _ _ _ _ _ _ _ _ hr
          · cases h
    · cases h

theorem sops_sound {Γ : Cx} {md : Bool} {ops : Array Oper} {Q : Exit → Act → World → Prop} (l : List Nat) : ∀ {fr : Fr} {hp : Hp} {n : Option Nat} {sc : List Nat} {r : Rs},
    sops Γ.P md ops Γ.nt l fr hp n sc = some r → r.gs = r.ws → AllP r.vc → ∀ {a : Act} {w : World}, Sat Γ ⟨fr, hp⟩ a w → Fresh n w →
    ∀ {rest : List Nat}, (∀ a' w', Sat Γ ⟨r.fr, r.hp⟩ a' w' → Fresh r.n w' → wpOps Γ.P ops Q rest a' w') → wpOps Γ.P ops Q (l ++ rest) a w := by
  induction l with
  | nil =>
    intro fr hp n sc r h _ _ a w hS hn rest hK
    simp only [sops, Option.some.injEq] at h
    subst h
    exact hK a w hS hn
  | cons i l ih =>
    intro fr hp n sc r h he hv a w hS hn rest hK
    simp only [sops] at h
    split at h
    · cases h
    · rename_i r1 h1
      split at h
      · cases h
      · rename_i q h2
        simp only [Option.some.injEq] at h
        subst h
        obtain ⟨e1, e2⟩ := List.append_inj he (sop_len h1)
        obtain ⟨v1, v2⟩ := allP_append.1 hv
        rw [List.cons_append, wpOps_cons]
        exact sop_sound h1 e1 v1 hS hn fun a' w' hS' hn' => ih h2 e2 v2 hS' hn' hK

end Go.Sx

/-
  Regions, code, calls: the rules.
-/
namespace Go.Sx
open Go

class PanicOk (Q : Exit → Act → World → Prop) : Prop where
  ok : ∀ c (a a' : Act) w, a.defers = a'.defers → Q (.panic c) a w → Q (.panic c) a' w
instance {P : Program} {fn : Func} {R : Ending → World → Prop} : PanicOk (bodyPost P fn R) := ⟨fun c a a' w h q => ⟨h ▸ q.1, q.2⟩⟩
instance {K : Act → World → Prop} {Q : Exit → Act → World → Prop} [PanicOk Q] : PanicOk (Exit.then K Q) := ⟨fun c a a' w h q => PanicOk.ok (Q := Q) c a a' w h q⟩
instance {id : Nat} {Q : Exit → Act → World → Prop} [PanicOk Q] : PanicOk (Exit.inBlock id Q) := ⟨fun c a a' w h q => PanicOk.ok (Q := Q) c a a' w h q⟩

def WpC (Γ : Cx) (c : Code) (s : St) (Q : Exit → Act → World → Prop) : Prop := ∀ a w, Sat Γ s a w → c.wp Γ.P Q a w
def WpR (Γ : Cx) (ops : Array Oper) (l : List Nat) (s : St) (Q : Exit → Act → World → Prop) : Prop := ∀ a w, Sat Γ s a w → wpOps Γ.P ops Q l a w
def WpA (Γ : Cx) (ops : Array Oper) (hs : Hp) (fuel : Nat) (listed : Array Bool) (s : St) (Q : Exit → Act → World → Prop) : Prop :=
  ∀ a w, Sat Γ s a w → HL hs w → wpAnyH Γ.P .any ops Q (HL hs) fuel listed a w
def Nx (Γ : Cx) (s : St) (Q : Exit → Act → World → Prop) (e : Exit) : Prop := ∀ a w, Sat Γ s a w → Q e a w

variable {Γ : Cx} {Q : Exit → Act → World → Prop} {s : St}

/-! ### code -/
theorem wpc_seq {x y : Code} (h : WpC Γ x s (Exit.then (fun a w => y.wp Γ.P Q a w) Q)) : WpC Γ (.seq x y) s Q := fun a w hS => wp_seq (h a w hS)
theorem wpc_skip (h : Nx Γ s Q .normal) : WpC Γ .skip s Q := fun a w hS => wp_skip (h a w hS)
theorem wpc_ret (h : Nx Γ s Q .ret) : WpC Γ .ret s Q := fun a w hS => wp_ret (h a w hS)
theorem wpc_exit {id : Nat} (h : Nx Γ s Q (.exit id)) : WpC Γ (.exit id) s Q := fun a w hS => wp_exit (h a w hS)
theorem wpc_block {id : Nat} {c : Code} (h : WpC Γ c s (Exit.inBlock id Q)) : WpC Γ (.block id c) s Q := fun a w hS => wp_block (h a w hS)
theorem wpc_region {id : Nat} {ops : Array Oper} (l : List Nat) (hl : List.range ops.size = l) (h : WpR Γ ops l s Q) : WpC Γ (.region id ops false) s Q :=
  fun a w hS => wp_region (by rw [hl]; exact h a w hS)
theorem wpr_nil {ops : Array Oper} (h : Nx Γ s Q .normal) : WpR Γ ops [] s Q := fun a w hS => h a w hS

theorem nx_then {y : Code} (h : WpC Γ y s Q) : Nx Γ s (Exit.then (fun a w => y.wp Γ.P Q a w) Q) .normal := fun a w hS => h a w hS
theorem nx_then' {K : Act → World → Prop} (h : ∀ a w, Sat Γ s a w → K a w) : Nx Γ s (Exit.then K Q) .normal := fun a w hS => h a w hS
theorem nx_then_exit {K : Act → World → Prop} {id : Nat} (h : Nx Γ s Q (.exit id)) : Nx Γ s (Exit.then K Q) (.exit id) := fun a w hS => h a w hS
theorem nx_then_ret {K : Act → World → Prop} (h : Nx Γ s Q .ret) : Nx Γ s (Exit.then K Q) .ret := fun a w hS => h a w hS
theorem nx_block {id : Nat} (h : Nx Γ s Q .normal) : Nx Γ s (Exit.inBlock id Q) .normal := fun a w hS => h a w hS
theorem nx_block_ret {id : Nat} (h : Nx Γ s Q .ret) : Nx Γ s (Exit.inBlock id Q) .ret := fun a w hS => h a w hS
theorem nx_block_here {id : Nat} (h : Nx Γ s Q .normal) : Nx Γ s (Exit.inBlock id Q) (.exit id) := fun a w hS => by simpa [Exit.inBlock] using h a w hS
theorem nx_block_far {id id' : Nat} (hne : (id' == id) = false) (h : Nx Γ s Q (.exit id')) : Nx Γ s (Exit.inBlock id Q) (.exit id') := fun a w hS => by
  have : id' ≠ id := by simpa using hne
  simpa [Exit.inBlock, this] using h a w hS

/-! ### knowing less, or the same in other words -/
theorem Sat.weaken {s' : St} {a : Act} {w : World} (h : Sat Γ s a w) (hf : s'.fr.map (fun p => look s.fr p.1) = s'.fr.map (fun p => some p.2)) (hh : HS s'.hp w) (hb : Bd s'.hp Γ.F Γ.w0.heap.size) : Sat Γ s' a w where
  size := h.size
  defers := h.defers
  fr := fun i v hi => by
    have key : ∀ l : Fr, l.map (fun p => look s.fr p.1) = l.map (fun p => some p.2) → look l i = some v → look s.fr i = some v := by
      intro l
      induction l with
      | nil => intro _ h; cases h
      | cons p l ih =>
        obtain ⟨j, u⟩ := p
        intro he hl
        simp only [List.map_cons, List.cons.injEq] at he
        simp only [look] at hl
        split at hl
        · rename_i e; subst e; rw [← hl]; exact he.1
        · exact ih he.2 hl
    exact h.fr i v (key _ hf hi)
  hs := hh
  ext := h.ext
  bd := hb

theorem Sat.frames {fr' : Fr} {a : Act} {w : World} (h : Sat Γ s a w) (hf : fr'.map (fun p => look s.fr p.1) = fr'.map (fun p => some p.2)) : Sat Γ ⟨fr', s.hp⟩ a w :=
  h.weaken hf h.hs h.bd

/-- Ent: whoever meets s meets s'. -/
def Ent (Γ : Cx) (s s' : St) : Prop := ∀ a w, Sat Γ s a w → Sat Γ s' a w
theorem wpc_ent {s' : St} {c : Code} (e : Ent Γ s s') (h : WpC Γ c s' Q) : WpC Γ c s Q := fun a w hS => h a w (e a w hS)
theorem wpr_ent {s' : St} {ops : Array Oper} {l : List Nat} (e : Ent Γ s s') (h : WpR Γ ops l s' Q) : WpR Γ ops l s Q := fun a w hS => h a w (e a w hS)
theorem nx_ent {s' : St} {x : Exit} (e : Ent Γ s s') (h : Nx Γ s' Q x) : Nx Γ s Q x := fun a w hS => h a w (e a w hS)
theorem ent_fr {fr fr' : Fr} {hp : Hp} (hf : fr'.map (fun p => look fr p.1) = fr'.map (fun p => some p.2)) : Ent Γ ⟨fr, hp⟩ ⟨fr', hp⟩ := fun a w hS => hS.frames hf
theorem Ent.trans {s₁ s₂ s₃ : St} (h : Ent Γ s₁ s₂) (k : Ent Γ s₂ s₃) : Ent Γ s₁ s₃ := fun a w hS => k a w (h a w hS)

/-- A fact that the state bears out may be used. -/
theorem wpc_fact {c : Code} {p : Prop} (hp : ∀ w, HS s.hp w → p) (h : p → WpC Γ c s Q) : WpC Γ c s Q := fun a w hS => h (hp w hS.hs) a w hS
theorem wpr_fact {ops : Array Oper} {l : List Nat} {p : Prop} (hp : ∀ w, HS s.hp w → p) (h : p → WpR Γ ops l s Q) : WpR Γ ops l s Q := fun a w hS => h (hp w hS.hs) a w hS
theorem nx_fact {e : Exit} {p : Prop} (hp : ∀ w, HS s.hp w → p) (h : p → Nx Γ s Q e) : Nx Γ s Q e := fun a w hS => h (hp w hS.hs) a w hS

/-! ### a test -/
theorem wpc_cond {c : Operand} {x y : Code} (b : Bool) (hc : (match c with | .tmp t => look s.fr t | c => some (ev [] c)) = some (.bool b)) (ht : b = true → WpC Γ x s Q) (hf : b = false → WpC Γ y s Q) : WpC Γ (.cond c x y) s Q := fun a w hS => by
  have hev : a.eval c = .bool b := by
    cases c with
    | tmp t => exact hS.fr t _ hc
    | const v => exact Option.some.inj hc
    | global g => simp [ev] at hc
    | func f => simp [ev] at hc
  exact wp_cond_split hev (fun h => ht h a w hS) (fun h => hf h a w hS)

theorem wpc_if {c : Operand} {x y : Code} (p : Prop) [d : Decidable p] (hc : (match c with | .tmp t => look s.fr t | c => some (ev [] c)) = some (.bool (decide p))) (ht : p → WpC Γ x s Q) (hf : ¬ p → WpC Γ y s Q) : WpC Γ (.cond c x y) s Q :=
  wpc_cond (decide p) hc (fun h => ht (of_decide_eq_true h)) (fun h => hf (of_decide_eq_false h))
theorem wpc_true {c : Operand} {x y : Code} (hc : (match c with | .tmp t => look s.fr t | c => some (ev [] c)) = some (.bool true)) (h : WpC Γ x s Q) : WpC Γ (.cond c x y) s Q :=
  wpc_cond true hc (fun _ => h) (fun h => by cases h)
theorem wpc_false {c : Operand} {x y : Code} (hc : (match c with | .tmp t => look s.fr t | c => some (ev [] c)) = some (.bool false)) (h : WpC Γ y s Q) : WpC Γ (.cond c x y) s Q :=
  wpc_cond false hc (fun h => by cases h) (fun _ => h)

/-- A test that a later operation waits for: decided. -/
theorem Sat.setBool {a : Act} {w : World} (h : Sat Γ s a w) {d : Nat} {b c : Bool} (hd : look s.fr d = some (.bool b)) (hb : b = c) : Sat Γ ⟨(d, .bool c) :: s.fr, s.hp⟩ a w := by
  subst hb
  refine ⟨h.size, h.defers, fun i v hi => ?_, h.hs, h.ext, h.bd⟩
  simp only [look] at hi
  split at hi
  · rename_i e; subst e; rw [← Option.some.inj hi]; exact h.fr _ _ hd
  · exact h.fr _ _ hi
theorem ent_set {fr : Fr} {hp : Hp} (d : Nat) (v v' : Value) (hd : look fr d = some v) (h : v = v') : Ent Γ ⟨fr, hp⟩ ⟨(d, v') :: fr, hp⟩ := fun a w hS => by
  subst h
  refine ⟨hS.size, hS.defers, fun i u hi => ?_, hS.hs, hS.ext, hS.bd⟩
  simp only [look] at hi
  split at hi
  · rename_i e; subst e; rw [← Option.some.inj hi]; exact hS.fr _ _ hd
  · exact hS.fr _ _ hi
theorem wpa_ent {s' : St} {ops : Array Oper} {hs : Hp} {n : Nat} {li : Array Bool} (e : Ent Γ s s') (h : WpA Γ ops hs n li s' Q) : WpA Γ ops hs n li s Q := fun a w hS hL => h a w (e a w hS) hL
/-- Ways that meet again. -/
theorem wpr_join {ops : Array Oper} {l : List Nat} (s' : St) (h1 : ∀ Q', PanicOk Q' → Nx Γ s' Q' .normal → WpR Γ ops l s Q') [hQ : PanicOk Q] (h2 : Nx Γ s' Q .normal) : WpR Γ ops l s Q := h1 Q hQ h2
theorem wpa_join {ops : Array Oper} {hs : Hp} {n : Nat} {li : Array Bool} (s' : St) (h1 : ∀ Q', PanicOk Q' → Nx Γ s' Q' .normal → WpA Γ ops hs n li s Q') [hQ : PanicOk Q] (h2 : Nx Γ s' Q .normal) : WpA Γ ops hs n li s Q := h1 Q hQ h2
theorem wpc_join {c : Code} (s' : St) (h1 : ∀ Q', PanicOk Q' → Nx Γ s' Q' .normal → WpC Γ c s Q') [hQ : PanicOk Q] (h2 : Nx Γ s' Q .normal) : WpC Γ c s Q := h1 Q hQ h2
theorem wpr_case {ops : Array Oper} {l : List Nat} (d : Nat) (b : Bool) (hd : look s.fr d = some (.bool b)) (ht : b = true → WpR Γ ops l ⟨(d, .bool true) :: s.fr, s.hp⟩ Q) (hf : b = false → WpR Γ ops l ⟨(d, .bool false) :: s.fr, s.hp⟩ Q) : WpR Γ ops l s Q := fun a w hS => by
  cases h : b
  · exact hf h a w (hS.setBool hd h)
  · exact ht h a w (hS.setBool hd h)
theorem wpa_case {ops : Array Oper} {hs : Hp} {n : Nat} {li : Array Bool} (d : Nat) (b : Bool) (hd : look s.fr d = some (.bool b)) (ht : b = true → WpA Γ ops hs n li ⟨(d, .bool true) :: s.fr, s.hp⟩ Q) (hf : b = false → WpA Γ ops hs n li ⟨(d, .bool false) :: s.fr, s.hp⟩ Q) : WpA Γ ops hs n li s Q := fun a w hS hL => by
  cases h : b
  · exact hf h a w (hS.setBool hd h) hL
  · exact ht h a w (hS.setBool hd h) hL

theorem wpr_casep {ops : Array Oper} {l : List Nat} (d : Nat) (p : Prop) [Decidable p] (hd : look s.fr d = some (.bool (decide p))) (ht : p → WpR Γ ops l ⟨(d, .bool true) :: s.fr, s.hp⟩ Q) (hf : ¬ p → WpR Γ ops l ⟨(d, .bool false) :: s.fr, s.hp⟩ Q) : WpR Γ ops l s Q :=
  wpr_case d _ hd (fun h => ht (of_decide_eq_true h)) (fun h => hf (of_decide_eq_false h))
theorem wpa_casep {ops : Array Oper} {hs : Hp} {n : Nat} {li : Array Bool} (d : Nat) (p : Prop) [Decidable p] (hd : look s.fr d = some (.bool (decide p))) (ht : p → WpA Γ ops hs n li ⟨(d, .bool true) :: s.fr, s.hp⟩ Q) (hf : ¬ p → WpA Γ ops hs n li ⟨(d, .bool false) :: s.fr, s.hp⟩ Q) : WpA Γ ops hs n li s Q :=
  wpa_case d _ hd (fun h => ht (of_decide_eq_true h)) (fun h => hf (of_decide_eq_false h))

/-! ### plain regions -/
/-- What a run must come to: what is kept of the frame, the heap, what is owed. -/
def Comes (r : Option Rs) (fr' : Fr) (hp' : Hp) (vc : List Prop) : Prop :=
  r.isSome = true ∧ r.map (fun r => (fr'.map (fun p => look r.fr p.1), r.hp, r.gs, r.vc)) = r.map (fun r => (fr'.map (fun p => some p.2), hp', r.ws, vc))

theorem wpr_run {ops : Array Oper} (md : Bool) (l₁ : List Nat) {l₂ : List Nat} (sc : List Nat) (fr' : Fr) (hp' : Hp) (vc : List Prop)
    (h1 : (sops Γ.P md ops Γ.nt l₁ s.fr s.hp none sc).isSome = true)
    (h2 : (sops Γ.P md ops Γ.nt l₁ s.fr s.hp none sc).map (fun r => (fr'.map (fun p => look r.fr p.1), r.hp, r.gs, r.vc)) = (sops Γ.P md ops Γ.nt l₁ s.fr s.hp none sc).map (fun r => (fr'.map (fun p => some p.2), hp', r.ws, vc)))
    (hv : AllP vc) (h : WpR Γ ops l₂ ⟨fr', hp'⟩ Q) : WpR Γ ops (l₁ ++ l₂) s Q := fun a w hS => by
  obtain ⟨r, hr⟩ := Option.isSome_iff_exists.1 h1
  rw [hr] at h2
  simp only [Option.map_some, Option.some.injEq, Prod.mk.injEq] at h2
  obtain ⟨h3, h4, h5, h6⟩ := h2
  refine sops_sound l₁ hr h5 (h6 ▸ hv) hS (fun m hm => by cases hm) fun a' w' hS' _ => ?_
  rw [h4] at hS'
  exact h a' w' (hS'.frames h3)

/-- The same, where one new block may be made: its number is g. -/
theorem wpr_new {ops : Array Oper} (md : Bool) (l₁ : List Nat) {l₂ : List Nat} (sc : List Nat) (fr' : Nat → Fr) (hp' : Nat → Hp) (vc : Nat → List Prop)
    (h1 : ∀ g, (sops Γ.P md ops Γ.nt l₁ s.fr s.hp (some g) sc).isSome = true)
    (h2 : ∀ g, (sops Γ.P md ops Γ.nt l₁ s.fr s.hp (some g) sc).map (fun r => ((fr' g).map (fun p => look r.fr p.1), r.hp, r.gs, r.vc)) = (sops Γ.P md ops Γ.nt l₁ s.fr s.hp (some g) sc).map (fun r => ((fr' g).map (fun p => some p.2), hp' g, r.ws, vc g)))
    (hv : ∀ g, AllP (vc g)) (h : ∀ g, WpR Γ ops l₂ ⟨fr' g, hp' g⟩ Q) : WpR Γ ops (l₁ ++ l₂) s Q := fun a w hS => by
  obtain ⟨r, hr⟩ := Option.isSome_iff_exists.1 (h1 w.heap.size)
  have h2 := h2 w.heap.size
  rw [hr] at h2
  simp only [Option.map_some, Option.some.injEq, Prod.mk.injEq] at h2
  obtain ⟨h3, h4, h5, h6⟩ := h2
  refine sops_sound l₁ hr h5 (h6 ▸ hv _) hS (fun m hm => by cases hm; rfl) fun a' w' hS' _ => ?_
  rw [h4] at hS'
  exact h _ a' w' (hS'.frames h3)

/-! ### handing a part of the heap over -/
structure Give (hp pre rest : Hp) : Prop where
  sat : ∀ w, HS hp w → HS pre w ∧ HS rest w ∧ ∀ c ∈ rest, ∀ d ∈ pre, d.rw → ∀ k, c.own k → ¬ d.own k
  foot : ∀ k, Sx.foot pre k → Sx.foot hp k
  sub : ∀ c ∈ rest, c ∈ hp

theorem HS.perm {hp hp' : Hp} {w : World} (h : HS hp w) (e : hp.Perm hp') : HS hp' w :=
  ⟨fun c hc => h.holds c (e.mem_iff.2 hc), (e.pairwise_iff (fun h => Apart.symm h)).1 h.apart⟩
theorem HS.split {hp hp' : Hp} {w : World} (h : HS (hp ++ hp') w) : HS hp w ∧ HS hp' w ∧ ∀ c ∈ hp, ∀ d ∈ hp', Apart c d := by
  obtain ⟨h1, h2⟩ := h
  rw [List.pairwise_append] at h2
  exact ⟨⟨fun c hc => h1 c (List.mem_append.2 (.inl hc)), h2.1⟩, ⟨fun c hc => h1 c (List.mem_append.2 (.inr hc)), h2.2.1⟩, h2.2.2⟩
theorem HS.join {hp hp' : Hp} {w : World} (h : HS hp w) (h' : HS hp' w) (ha : ∀ c ∈ hp, ∀ d ∈ hp', Apart c d) : HS (hp ++ hp') w :=
  ⟨fun c hc => (List.mem_append.1 hc).elim (h.holds c) (h'.holds c), List.pairwise_append.2 ⟨h.apart, h'.apart, ha⟩⟩

/-- The chunks at these places (each place counted in what is left), and the rest. -/
def picks : List Nat → Hp → Option (Hp × Hp)
  | [], hp => some ([], hp)
  | i :: is, hp => match hp[i]? with
    | none => none
    | some c => match picks is (hp.eraseIdx i) with
      | none => none
      | some (pre, rest) => some (c :: pre, rest)
theorem perm_erase {α : Type _} : ∀ (l : List α) (i : Nat) (h : i < l.length), l.Perm (l[i] :: l.eraseIdx i)
  | a :: l, 0, _ => List.Perm.refl _
  | a :: l, i + 1, h => ((perm_erase l i (by simpa using h)).cons a).trans (List.Perm.swap _ _ _)
theorem picks_perm (is : List Nat) : ∀ {hp pre rest : Hp}, picks is hp = some (pre, rest) → hp.Perm (pre ++ rest) := by
  induction is with
  | nil => intro hp pre rest h; simp only [picks, Option.some.injEq, Prod.mk.injEq] at h; obtain ⟨rfl, rfl⟩ := h; exact List.Perm.refl _
  | cons i is ih =>
    intro hp pre rest h
    simp only [picks] at h
    split at h
    · cases h
    · rename_i c hc
      split at h
      · cases h
      · rename_i pre' rest' h'
        simp only [Option.some.injEq, Prod.mk.injEq] at h
        obtain ⟨rfl, rfl⟩ := h
        obtain ⟨hlt, rfl⟩ := List.getElem?_eq_some_iff.1 hc
        exact (perm_erase _ _ hlt).trans ((ih h').cons _)

theorem Give.of_perm {hp pre rest : Hp} (e : hp.Perm (pre ++ rest)) : Give hp pre rest where
  sat := fun w h => by
    obtain ⟨h1, h2, h3⟩ := (h.perm e).split
    refine ⟨h1, h2, fun c hc d hd hr k hk hk' => ?_⟩
    rcases h3 d hd c hc with ⟨h4, _⟩ | h4
    · exact h4 hr
    · exact h4 k hk' hk
  foot := fun k ⟨c, hc, hr, hk⟩ => ⟨c, e.mem_iff.2 (List.mem_append.2 (.inl hc)), hr, hk⟩
  sub := fun c hc => e.mem_iff.2 (List.mem_append.2 (.inr hc))
theorem give {hp : Hp} (is : List Nat) {pre rest : Hp} (h : picks is hp = some (pre, rest)) : Give hp pre rest := .of_perm (picks_perm is h)

theorem give_all {hp : Hp} : Give hp hp [] := .of_perm (by simp)

/-- c' is c, seen by whoever reads alone. -/
structure View (c c' : Ch) : Prop where
  holds : ∀ w, c.holds w → c'.holds w
  own : ∀ w, c.holds w → ∀ k, c'.own k → c.own k
  ro : ¬ c'.rw
theorem Give.view {hp pre rest : Hp} (h : Give hp pre rest) (i : Nat) {c c' : Ch} (hc : rest[i]? = some c) (v : View c c') : Give hp (c' :: pre) rest where
  sat := fun w hw => by
    obtain ⟨h1, h2, h3⟩ := h.sat w hw
    have hm := List.mem_of_getElem? hc
    refine ⟨⟨fun d hd => ?_, List.pairwise_cons.2 ⟨fun d hd => ?_, h1.apart⟩⟩, h2, fun d hd e he hr k hk => ?_⟩
    · rcases List.mem_cons.1 hd with rfl | hd
      · exact v.holds w (h2.holds c hm)
      · exact h1.holds d hd
    · by_cases hr : d.rw
      · exact .inr fun k hk => h3 c hm d hd hr k (v.own w (h2.holds c hm) k hk)
      · exact .inl ⟨v.ro, hr⟩
    · rcases List.mem_cons.1 he with rfl | he
      · exact absurd hr v.ro
      · exact h3 d hd e he hr k hk
  foot := fun k ⟨d, hd, hr, hk⟩ => by
    rcases List.mem_cons.1 hd with rfl | hd
    · exact absurd hr v.ro
    · exact h.foot k ⟨d, hd, hr, hk⟩
  sub := h.sub

theorem Give.reorder {hp pre pre' rest : Hp} (g : Give hp pre rest) (is : List Nat) (h : picks is pre = some (pre', [])) : Give hp pre' rest where
  sat := fun w hw => by
    obtain ⟨h1, h2, h3⟩ := g.sat w hw
    have e := picks_perm is h
    rw [List.append_nil] at e
    exact ⟨h1.perm e, h2, fun c hc d hd => h3 c hc d (e.mem_iff.2 hd)⟩
  foot := fun k ⟨c, hc, hr, hk⟩ => by
    have e := picks_perm is h
    rw [List.append_nil] at e
    exact g.foot k ⟨c, e.mem_iff.2 hc, hr, hk⟩
  sub := g.sub

/-! ### calls -/
/-- What stands behind a call that was handed pre. -/
def Post (w : World) (pre : Hp) (R : Value → Hp → Prop) (e : Ending) (w' : World) : Prop :=
  ∃ v hp', R v hp' ∧ e = .returned v ∧ HS hp' w' ∧ Ext w w' (foot pre) ∧ Bd hp' (foot pre) w.heap.size ∧ ∀ c ∈ hp', c.rw
def Does (P : Program) (f : FuncId) (args : List Value) (pre : Hp) (R : Value → Hp → Prop) : Prop :=
  ∀ w, HS pre w → Calls P f args.toArray w (Post w pre R)

theorem Does.mono {P : Program} {f : FuncId} {args : List Value} {pre : Hp} {R R' : Value → Hp → Prop} (h : Does P f args pre R) (k : ∀ v hp', R v hp' → R' v hp') : Does P f args pre R' :=
  fun w hw => (h w hw).mono fun e w' ⟨v, hp', hR, r⟩ => ⟨v, hp', k _ _ hR, r⟩

theorem Sat.behind {a : Act} {w w' : World} {pre rest hp' : Hp} (hS : Sat Γ s a w) (g : Give s.hp pre rest) (hhs : HS hp' w') (he : Ext w w' (foot pre)) (hb : Bd hp' (foot pre) w.heap.size) (hr : ∀ c ∈ hp', c.rw) :
    HS (hp' ++ rest) w' ∧ Ext Γ.w0 w' Γ.F ∧ Bd (hp' ++ rest) Γ.F Γ.w0.heap.size := by
  obtain ⟨h1, h2, h3⟩ := g.sat w hS.hs
  have hkeep : ∀ c ∈ rest, ∀ k, c.own k → k < w.heap.size ∧ ¬ foot pre k := fun c hc k hk =>
    ⟨c.lt (h2.holds c hc) hk, fun ⟨d, hd, hdr, hdk⟩ => h3 c hc d hd hdr k hk hdk⟩
  have hrest : HS rest w' := ⟨fun c hc => c.loc (fun k hk => he.block k (hkeep c hc k hk).1 (hkeep c hc k hk).2) (h2.holds c hc), h2.apart⟩
  have hF : ∀ k, foot pre k → Γ.F k ∨ Γ.w0.heap.size ≤ k := fun k hk => by
    obtain ⟨c, hc, hcr, hck⟩ := g.foot k hk
    exact hS.bd c hc hcr k hck
  refine ⟨hhs.join hrest fun c hc d hd => .inr fun k hk hk' => ?_, hS.ext.trans he hF, ?_⟩
  · rcases hb c hc (hr c hc) k hk with h | h
    · exact (hkeep d hd k hk').2 h
    · have := (hkeep d hd k hk').1; omega
  · intro c hc hcr k hk
    rcases List.mem_append.1 hc with hc | hc
    · rcases hb c hc hcr k hk with h | h
      · exact hF k h
      · exact .inr (Nat.le_trans hS.ext.size h)
    · exact hS.bd c (g.sub c hc) hcr k hk

/-- Which function is called, with what, and where the answer goes. -/
def callOf (P : Program) (ops : Array Oper) (nt : Nat) (i : Nat) (fr : Fr) : Option (FuncId × List Value × Option Nat) :=
  match ops[i]? with
  | none => none
  | some o =>
    match okDst nt o.dst, wants ops fr o, knownOp fr o with
    | true, some true, true => match sread P (execOp (ev fr) o) [] [] with
      | some (.enter f args, [], [], []) => some (f, args.toList, o.dst)
      | _ => none
    | _, _, _ => none

theorem callOf_sound {ops : Array Oper} {i : Nat} {f : FuncId} {args : List Value} {dst : Option Nat} (hc : callOf Γ.P ops Γ.nt i s.fr = some (f, args, dst))
    {pre rest : Hp} {R : Value → Hp → Prop} (hf : Does Γ.P f args pre R) (g : Give s.hp pre rest) {a : Act} {w : World} (hS : Sat Γ s a w) {K : Act → World → Prop}
    (hK : ∀ v hp', R v hp' → ∀ a' w', Sat Γ ⟨putFr s.fr dst v, hp' ++ rest⟩ a' w' → K a' w') : wpOp Γ.P ops Q i K a w := by
  unfold callOf at hc
  unfold wpOp
  split at hc
  · cases hc
  · rename_i o ho
    rw [ho]
    simp only
    split at hc
    · rename_i hd hw hk
      split at hc
      · rename_i f' args' hr
        simp only [Option.some.injEq, Prod.mk.injEq] at hc
        obtain ⟨rfl, rfl, rfl⟩ := hc
        rw [wants_ok hS.fr hw]
        simp only [if_true]
        refine .inl ?_
        unfold Oper.wp
        rw [ev_eq hS.fr hk, sread_sound _ _ _ _ _ _ _ hr rfl w (fun c hc => by cases hc)]
        refine Calls.mono (hf w (g.sat w hS.hs).1) ?_
        rintro e w' ⟨v, hp', hR, rfl, h1, h2, h3, h4⟩
        obtain ⟨k1, k2, k3⟩ := hS.behind g h1 h2 h3 h4
        exact hK v hp' hR _ _ ⟨(size_put _ _).trans hS.size, (defers_put _ _).trans hS.defers, FrOk.putFr hS.fr hS.size hd v, k1, k2, k3⟩
      · cases hc
    · cases hc

theorem wpr_call {ops : Array Oper} {i : Nat} {l₂ : List Nat} {f : FuncId} {args : List Value} {dst : Option Nat} (hc : callOf Γ.P ops Γ.nt i s.fr = some (f, args, dst))
    {pre rest : Hp} {R : Value → Hp → Prop} (hf : Does Γ.P f args pre R) (g : Give s.hp pre rest)
    (h : ∀ v hp', R v hp' → WpR Γ ops l₂ ⟨putFr s.fr dst v, hp' ++ rest⟩ Q) : WpR Γ ops (i :: l₂) s Q := fun a w hS => by
  rw [wpOps_cons]
  exact callOf_sound hc hf g hS fun v hp' hR a' w' hS' => h v hp' hR a' w' hS'

theorem wpr_call_all {ops : Array Oper} {i : Nat} {l₂ : List Nat} {f : FuncId} {args : List Value} {dst : Option Nat} (hc : callOf Γ.P ops Γ.nt i s.fr = some (f, args, dst))
    {pre : Hp} {R : Value → Hp → Prop} (hf : Does Γ.P f args pre R) (g : Give s.hp pre [])
    (h : ∀ v hp', R v hp' → WpR Γ ops l₂ ⟨putFr s.fr dst v, hp'⟩ Q) : WpR Γ ops (i :: l₂) s Q :=
  wpr_call hc hf g fun v hp' hR => by rw [List.append_nil]; exact h v hp' hR

/-! ### regions that draw their order -/
theorem Sat.drawn {a : Act} {w : World} (h : Sat Γ s a w) : Sat Γ s a { w with drawn := w.drawn + 1 } where
  size := h.size
  defers := h.defers
  fr := h.fr
  hs := ⟨fun c hc => c.loc (w := w) (fun _ _ => rfl) (h.hs.holds c hc), h.hs.apart⟩
  ext := ⟨h.ext.os, h.ext.tape, h.ext.output, h.ext.size, h.ext.block⟩
  bd := h.bd

/-- hs: what is read whenever it comes: none of the region's operations turns it. -/
def Sub (hs hp : Hp) : Prop := ∀ c ∈ hs, c ∈ hp
theorem sub_of {hs hp : Hp} (is : List Nat) (h : is.map (fun i => hp[i]?) = hs.map some) : Sub hs hp := fun c hc => by
  have h1 : some c ∈ hs.map some := List.mem_map.2 ⟨c, hc, rfl⟩
  rw [← h] at h1
  obtain ⟨i, _, hi⟩ := List.mem_map.1 h1
  exact List.mem_of_getElem? hi

theorem wpc_draw {id : Nat} {ops : Array Oper} (hm : Γ.P.follows .mixedOrders = true) (hs : Hp) (hsub : Sub hs s.hp) (n : Nat) (hn : ops.size = n) (h : WpA Γ ops hs n (Array.replicate n false) s Q) : WpC Γ (.region id ops true) s Q :=
  fun a w hS => wp_region_held hm (by rw [hn]; exact h a _ hS.drawn fun c hc => hS.drawn.hs.holds c (hsub c hc))

theorem wpa_done {ops : Array Oper} {hs : Hp} {listed : Array Bool} (n : Nat) (hr : Region.ready .any ops listed = []) (h : Nx Γ s Q .normal) : WpA Γ ops hs n listed s Q :=
  fun a w hS _ => wpAnyH_done hr (h a w hS) n

/-- Quiet operations, taken first: they read hs alone. -/
structure Qs where
  fr : Fr
  listed : Array Bool
  gs : List Nat
  ws : List Nat
  vc : List Prop
def stake (P : Program) (md : Bool) (ops : Array Oper) (nt : Nat) (hs : Hp) : List (Nat × List Nat) → Fr → Array Bool → Option Qs
  | [], fr, li => some ⟨fr, li, [], [], []⟩
  | (i, sc) :: l, fr, li =>
    match ops[i]? with
    | none => none
    | some o =>
      match okDst nt o.dst, (Region.ready .any ops li).contains i, Region.free .any ops li i with
      | true, true, true =>
        match wants ops fr o with
        | some false => stake P md ops nt hs l (putFr fr o.dst undef) (li.setIfInBounds i true)
        | some true =>
          match knownOp fr o with
          | false => none
          | true =>
            match special P md (ev fr) o.op with
            | some (v, ps) => match stake P md ops nt hs l (putFr fr o.dst v) (li.setIfInBounds i true) with
              | some q => some ⟨q.fr, q.listed, q.gs, q.ws, ps ++ q.vc⟩
              | none => none
            | none => match sread P (execOp (ev fr) o) sc hs with
              | some (.value v, gs, ws, _) => match stake P md ops nt hs l (putFr fr o.dst v) (li.setIfInBounds i true) with
                | some q => some ⟨q.fr, q.listed, gs ++ q.gs, ws ++ q.ws, q.vc⟩
                | none => none
              | _ => none
        | none => none
      | _, _, _ => none

theorem sread_len {α : Type} {P : Program} (s : Sem α) : ∀ (sc : List Nat) (hp : Hp) (x : α) (gs ws sc' : List Nat), sread P s sc hp = some (x, gs, ws, sc') → gs.length = ws.length := by
  induction s with
  | pure a => intro sc hp x gs ws sc' h; simp only [sread, Option.some.injEq, Prod.mk.injEq] at h; obtain ⟨_, rfl, rfl, _⟩ := h; rfl
  | load m a k ih =>
    intro sc hp x gs ws sc' h
    cases sc with
    | nil => simp [sread] at h
    | cons i sc =>
      simp only [sread] at h
      split at h <;> try cases h
      split at h <;> try cases h
      split at h <;> try cases h
      rename_i hr
      simpa using ih _ _ _ _ _ _ _ hr
  | shape r k ih =>
    intro sc hp x gs ws sc' h
    cases sc with
    | nil => simp [sread] at h
    | cons i sc =>
      simp only [sread] at h
      split at h <;> try cases h
      split at h <;> try cases h
      rename_i hr
      simpa using ih _ _ _ _ _ _ _ hr
  | frozen a k ih =>
    intro sc hp x gs ws sc' h
    cases sc with
    | nil => simp [sread] at h
    | cons i sc =>
      simp only [sread] at h
      split at h <;> try cases h
      split at h <;> try cases h
      split at h <;> try cases h
      rename_i hr
      simpa using ih _ _ _ _ _ _ _ hr
  | program k ih =>
    intro sc hp x gs ws sc' h
    have h' : sread P (k P) sc hp = some (x, gs, ws, sc') := by cases sc <;> exact h
    exact ih _ _ _ _ _ _ _ h'
  | mark m k ih =>
    intro sc hp x gs ws sc' h
    have h' : sread P k sc hp = some (x, gs, ws, sc') := by cases sc <;> exact h
    exact ih _ _ _ _ _ _ h'
  | store m a v k ih => intro sc hp x gs ws sc' h; cases sc <;> simp [sread] at h
  | new o k ih => intro sc hp x gs ws sc' h; cases sc <;> simp [sread] at h
  | freeze a n k ih => intro sc hp x gs ws sc' h; cases sc <;> simp [sread] at h
  | getObj r k ih => intro sc hp x gs ws sc' h; cases sc <;> simp [sread] at h
  | setObj r o k ih => intro sc hp x gs ws sc' h; cases sc <;> simp [sread] at h
  | choose q k ih => intro sc hp x gs ws sc' h; cases sc <;> simp [sread] at h
  | sys c k ih => intro sc hp x gs ws sc' h; cases sc <;> simp [sread] at h
  | halt h => intro sc hp x gs ws sc' h; cases sc <;> simp [sread] at h

theorem Sat.put {a : Act} {w : World} (h : Sat Γ s a w) {d : Option Nat} (hd : okDst Γ.nt d = true) (v : Value) : Sat Γ ⟨putFr s.fr d v, s.hp⟩ (a.put d v) w where
  size := (size_put d v).trans h.size
  defers := (defers_put d v).trans h.defers
  fr := FrOk.putFr h.fr h.size hd v
  hs := h.hs
  ext := h.ext
  bd := h.bd

theorem stake_sound [PanicOk Q] {md : Bool} {ops : Array Oper} {hs : Hp} (hns : Region.noSelect ops = true) (l : List (Nat × List Nat)) : ∀ {fr : Fr} {hp : Hp} {li : Array Bool} {q : Qs} {n : Nat},
    stake Γ.P md ops Γ.nt hs l fr li = some q → q.gs = q.ws → AllP q.vc → WpA Γ ops hs n q.listed ⟨q.fr, hp⟩ Q → WpA Γ ops hs (n + l.length) li ⟨fr, hp⟩ Q := by
  induction l with
  | nil =>
    intro fr hp li q n h _ _ hK
    simp only [stake, Option.some.injEq] at h
    subst h
    exact hK
  | cons p l ih =>
    obtain ⟨i, sc⟩ := p
    intro fr hp li q n h he hv hK a w hS hL
    simp only [stake] at h
    split at h
    · cases h
    · rename_i o ho
      split at h
      · rename_i hd hr hf
        have hQ : ∀ (v : Value) c (a : Act) w, Q (.panic c) (a.put o.dst v) w → Q (.panic c) a w := fun v c a w h => PanicOk.ok (Q := Q) c _ a w (defers_put _ _) h
        split at h
        · rename_i hw
          exact wpAnyH_take ho hns hf hr (hQ undef) (.inr ⟨wants_ok hS.fr hw, rfl⟩) hL (ih h he hv hK _ _ (hS.put hd undef) hL)
        · rename_i hw
          split at h
          · cases h
          · rename_i hk
            split at h
            · rename_i v ps hsp
              split at h
              · rename_i q1 h1
                simp only [Option.some.injEq] at h
                subst h
                obtain ⟨v1, v2⟩ := allP_append.1 hv
                exact wpAnyH_take ho hns hf hr (hQ v) (.inl ⟨wants_ok hS.fr hw, fun w' hw' => by rw [ev_eq hS.fr hk]; exact special_sound hsp v1 w'⟩) hL (ih h1 he v2 hK _ _ (hS.put hd v) hL)
              · cases h
            · split at h
              · rename_i v gs ws _ hrd
                split at h
                · rename_i q1 h1
                  simp only [Option.some.injEq] at h
                  subst h
                  obtain ⟨e1, e2⟩ := List.append_inj he (sread_len _ _ _ _ _ _ _ hrd)
                  exact wpAnyH_take ho hns hf hr (hQ v) (.inl ⟨wants_ok hS.fr hw, fun w' hw' => by rw [ev_eq hS.fr hk]; exact sread_sound _ _ _ _ _ _ _ hrd e1 w' hw'⟩) hL (ih h1 e2 hv hK _ _ (hS.put hd v) hL)
                · cases h
              · cases h
        · cases h
      · cases h

theorem wpa_take [PanicOk Q] {ops : Array Oper} {hs : Hp} {li : Array Bool} (md : Bool) (l : List (Nat × List Nat)) (fr' : Fr) (li' : Array Bool) (vc : List Prop) {n : Nat}
    (hns : Region.noSelect ops = true) (h1 : (stake Γ.P md ops Γ.nt hs l s.fr li).isSome = true)
    (h2 : (stake Γ.P md ops Γ.nt hs l s.fr li).map (fun r => (fr'.map (fun p => look r.fr p.1), r.listed, r.gs, r.vc)) = (stake Γ.P md ops Γ.nt hs l s.fr li).map (fun r => (fr'.map (fun p => some p.2), li', r.ws, vc)))
    (hv : AllP vc) (h : WpA Γ ops hs n li' ⟨fr', s.hp⟩ Q) : WpA Γ ops hs (n + l.length) li s Q := by
  obtain ⟨r, hr⟩ := Option.isSome_iff_exists.1 h1
  rw [hr] at h2
  simp only [Option.map_some, Option.some.injEq, Prod.mk.injEq] at h2
  obtain ⟨h3, h4, h5, h6⟩ := h2
  refine stake_sound hns l hr h5 (h6 ▸ hv) (fun a w hS hL => ?_)
  rw [h4]
  exact h a w (hS.frames h3) hL

/-- The one that alone may come up, by evaluation. -/
theorem wpa_one {ops : Array Oper} {hs : Hp} {li : Array Bool} (md : Bool) (i : Nat) (sc : List Nat) (fr' : Fr) (hp' : Hp) (vc : List Prop) {n : Nat} (hr : Region.ready .any ops li = [i])
    (h1 : (sop Γ.P md ops Γ.nt i s.fr s.hp none sc).isSome = true)
    (h2 : (sop Γ.P md ops Γ.nt i s.fr s.hp none sc).map (fun r => (fr'.map (fun p => look r.fr p.1), r.hp, r.gs, r.vc)) = (sop Γ.P md ops Γ.nt i s.fr s.hp none sc).map (fun r => (fr'.map (fun p => some p.2), hp', r.ws, vc)))
    (hv : AllP vc) (hsub : Sub hs hp') (h : WpA Γ ops hs n (li.setIfInBounds i true) ⟨fr', hp'⟩ Q) : WpA Γ ops hs (n + 1) li s Q := fun a w hS hL => by
  obtain ⟨r, hrs⟩ := Option.isSome_iff_exists.1 h1
  rw [hrs] at h2
  simp only [Option.map_some, Option.some.injEq, Prod.mk.injEq] at h2
  obtain ⟨h3, h4, h5, h6⟩ := h2
  refine wpAnyH_all hr (by simp) fun j hj => ?_
  rw [List.mem_singleton.1 hj]
  refine sop_sound hrs h5 (h6 ▸ hv) hS (fun m hm => by cases hm) fun a' w' hS' _ => ?_
  rw [h4] at hS'
  have hL' : HL hs w' := fun c hc => hS'.hs.holds c (hsub c hc)
  exact ⟨hL', h a' w' (hS'.frames h3) hL'⟩
theorem wpa_new {ops : Array Oper} {hs : Hp} {li : Array Bool} (md : Bool) (i : Nat) (sc : List Nat) (fr' : Nat → Fr) (hp' : Nat → Hp) (vc : Nat → List Prop) {n : Nat} (hr : Region.ready .any ops li = [i])
    (h1 : ∀ g, (sop Γ.P md ops Γ.nt i s.fr s.hp (some g) sc).isSome = true)
    (h2 : ∀ g, (sop Γ.P md ops Γ.nt i s.fr s.hp (some g) sc).map (fun r => ((fr' g).map (fun p => look r.fr p.1), r.hp, r.gs, r.vc)) = (sop Γ.P md ops Γ.nt i s.fr s.hp (some g) sc).map (fun r => ((fr' g).map (fun p => some p.2), hp' g, r.ws, vc g)))
    (hv : ∀ g, AllP (vc g)) (hsub : ∀ g, Sub hs (hp' g)) (h : ∀ g, WpA Γ ops hs n (li.setIfInBounds i true) ⟨fr' g, hp' g⟩ Q) : WpA Γ ops hs (n + 1) li s Q := fun a w hS hL => by
  obtain ⟨r, hrs⟩ := Option.isSome_iff_exists.1 (h1 w.heap.size)
  have h2 := h2 w.heap.size
  rw [hrs] at h2
  simp only [Option.map_some, Option.some.injEq, Prod.mk.injEq] at h2
  obtain ⟨h3, h4, h5, h6⟩ := h2
  refine wpAnyH_all hr (by simp) fun j hj => ?_
  rw [List.mem_singleton.1 hj]
  refine sop_sound hrs h5 (h6 ▸ hv _) hS (fun m hm => by cases hm; rfl) fun a' w' hS' _ => ?_
  rw [h4] at hS'
  have hL' : HL hs w' := fun c hc => hS'.hs.holds c (hsub _ c hc)
  exact ⟨hL', h _ a' w' (hS'.frames h3) hL'⟩
theorem wpa_call {ops : Array Oper} {hs : Hp} {li : Array Bool} {i : Nat} {n : Nat} (hr : Region.ready .any ops li = [i]) {f : FuncId} {args : List Value} {dst : Option Nat} (hc : callOf Γ.P ops Γ.nt i s.fr = some (f, args, dst))
    {pre rest : Hp} {R : Value → Hp → Prop} (hf : Does Γ.P f args pre R) (g : Give s.hp pre rest) (hsub : Sub hs rest)
    (h : ∀ v hp', R v hp' → WpA Γ ops hs n (li.setIfInBounds i true) ⟨putFr s.fr dst v, hp' ++ rest⟩ Q) : WpA Γ ops hs (n + 1) li s Q := fun a w hS hL => by
  refine wpAnyH_all hr (by simp) fun j hj => ?_
  rw [List.mem_singleton.1 hj]
  refine callOf_sound hc hf g hS fun v hp' hR a' w' hS' => ?_
  have hL' : HL hs w' := fun c hc => hS'.hs.holds c (List.mem_append.2 (.inr (hsub c hc)))
  exact ⟨hL', h v hp' hR a' w' hS' hL'⟩

/-! ### a function's beginning and end -/
def enum : Nat → List Value → Fr
  | _, [] => []
  | i, v :: l => (i, v) :: enum (i + 1) l
theorem look_enum : ∀ (l : List Value) (k i : Nat) (v : Value), look (enum k l) i = some v → k ≤ i ∧ l[i - k]? = some v := by
  intro l
  induction l with
  | nil => intro k i v h; cases h
  | cons u l ih =>
    intro k i v h
    simp only [enum, look] at h
    split at h
    · rename_i e; subst e; exact ⟨Nat.le_refl _, by simpa using h⟩
    · rename_i e
      obtain ⟨h1, h2⟩ := ih (k + 1) i v h
      refine ⟨by omega, ?_⟩
      have : i - k = (i - (k + 1)) + 1 := by omega
      rw [this]; simpa using h2

theorem fn_enter {P : Program} {f : FuncId} {fn : Func} {c : Code} {args : List Value} {pre : Hp} {R : Value → Hp → Prop} (hf : P.funcs[f]? = some fn) (hb : fn.body = some c)
    (nt : Nat) (hnt : args.length + (fn.ntmps - args.length) = nt) (h : ∀ w0, HS pre w0 → WpC ⟨P, w0, foot pre, nt, []⟩ c ⟨enum 0 args, pre⟩ (bodyPost P fn (Post w0 pre R))) : Does P f args pre R := fun w hw => by
  refine calls_of_wp hf hb (h w hw _ w ⟨by simp [hnt], rfl, fun i v hi => ?_, hw, Ext.refl _ _, Bd.self _ _⟩)
  obtain ⟨_, h1⟩ := look_enum _ _ _ _ hi
  simp only [Nat.sub_zero] at h1
  obtain ⟨hlt, h2⟩ := List.getElem?_eq_some_iff.1 h1
  simp [Array.getD_eq_getD_getElem?, Array.getElem?_append, hlt, h2]

def resL (ρ : Nat → Value) : List ResultVar → Sem (List Value)
  | [] => pure []
  | .tmp t :: r => do let vs ← resL ρ r; pure (ρ t :: vs)
  | .cell a t :: r => do let v ← loadVar t (← asAddr (ρ a)); let vs ← resL ρ r; pure (v :: vs)
def oneOf : List Value → Value
  | [v] => v
  | l => .tuple l.toArray
def resV (ρ : Nat → Value) (l : List ResultVar) : Sem Value := do let vs ← resL ρ l; pure (oneOf vs)

theorem oneOf_eq (l : List Value) : (if h : l.toArray.size = 1 then l.toArray[0] else .tuple l.toArray) = oneOf l := by
  match l with
  | [] => rfl
  | [v] => rfl
  | a :: b :: r => simp [oneOf]

def resOne (tmps : Array Value) : ResultVar → Sem Value
  | .tmp t => pure (tmps.getD t undef)
  | .cell a t => do loadVar t (← asAddr (tmps.getD a undef))
theorem results_eq (fn : Func) (tmps : Array Value) : results fn tmps = resV (fun t => tmps.getD t undef) fn.results.toList := by
  have key : ∀ l : List ResultVar, (l.mapM (resOne tmps)) = resL (fun t => tmps.getD t undef) l := by
    intro l
    induction l with
    | nil => rfl
    | cons x l ih =>
      rw [List.mapM_cons, ih]
      cases x with
      | tmp t => simp [resL, resOne]
      | cell a t => simp [resL, resOne]
  have e : results fn tmps = (do let vs ← fn.results.mapM (resOne tmps); pure (if h : vs.size = 1 then vs[0] else .tuple vs)) := by
    unfold results
    congr 1
  rw [e]
  unfold resV
  obtain ⟨l, hl⟩ : ∃ l : List ResultVar, fn.results = l.toArray := ⟨fn.results.toList, by simp⟩
  rw [hl, List.mapM_toArray, key]
  have hf : (fun a : List Value => if h : a.length = 1 then a[0] else Value.tuple a.toArray) = oneOf := funext fun l => by simpa using oneOf_eq l
  simp [hf]

theorem resL_congr {ρ ρ' : Nat → Value} (l : List ResultVar) (h : ∀ x ∈ l, ρ (match x with | .tmp t => t | .cell a _ => a) = ρ' (match x with | .tmp t => t | .cell a _ => a)) : resL ρ l = resL ρ' l := by
  induction l with
  | nil => rfl
  | cons x l ih =>
    have h1 := h x (by simp)
    have h2 := ih fun y hy => h y (by simp [hy])
    cases x with
    | tmp t => simp only [resL, h2]; rw [show ρ t = ρ' t from h1]
    | cell a t => simp only [resL, h2]; rw [show ρ a = ρ' a from h1]

def knownRes (fr : Fr) (l : List ResultVar) : Bool := l.all fun x => (look fr (match x with | .tmp t => t | .cell a _ => a)).isSome

/-- The end: the results read. -/
def resOf (P : Program) (fn : Func) (fr : Fr) (hp : Hp) (sc : List Nat) : Option (Value × List Nat × List Nat × List Nat) :=
  match knownRes fr fn.results.toList with
  | true => sread P (resV (fun t => (look fr t).getD undef) fn.results.toList) sc hp
  | false => none
theorem resOf_sound {fn : Func} {sc : List Nat} {v : Value} {gs ws sc' : List Nat} (h : resOf Γ.P fn s.fr s.hp sc = some (v, gs, ws, sc')) (he : gs = ws) {a : Act} {w : World} (hS : Sat Γ s a w) :
    (results fn a.tmps).run Γ.P w = .ok v w := by
  unfold resOf at h
  split at h
  · rename_i hk
    rw [results_eq]
    have : resV (fun t => a.tmps.getD t undef) fn.results.toList = resV (fun t => (look s.fr t).getD undef) fn.results.toList := by
      unfold resV
      rw [resL_congr]
      intro x hx
      have h1 := List.all_eq_true.1 hk x hx
      obtain ⟨u, hu⟩ := Option.isSome_iff_exists.1 h1
      rw [hu]
      exact hS.fr _ _ hu
    rw [this]
    exact sread_sound _ _ _ _ _ _ _ h he w hS.hs.holds
  · cases h

def AllRw : Hp → Prop
  | [] => True
  | c :: r => c.rw ∧ AllRw r
theorem allRw_mem {hp : Hp} (h : AllRw hp) : ∀ c ∈ hp, c.rw := by
  induction hp with
  | nil => intro c hc; cases hc
  | cons d r ih =>
    intro c hc
    rcases List.mem_cons.1 hc with rfl | hc
    · exact h.1
    · exact ih h.2 c hc

/-- The function's end: what is handed back of the heap is picked. -/
theorem nx_end {P : Program} {w0 : World} {pre : Hp} {nt : Nat} {fn : Func} {R : Value → Hp → Prop} (sc : List Nat) (v : Value)
    (h1 : (resOf P fn s.fr s.hp sc).isSome = true) (h2 : (resOf P fn s.fr s.hp sc).map (fun r => (r.1, r.2.1)) = (resOf P fn s.fr s.hp sc).map (fun r => (v, r.2.2.1)))
    {hp' rest : Hp} (g : Give s.hp hp' rest) (hrw : AllRw hp') (hR : R v hp') {e : Exit} (he : e = .normal ∨ e = .ret) : Nx ⟨P, w0, foot pre, nt, []⟩ s (bodyPost P fn (Post w0 pre R)) e := fun a w hS => by
  obtain ⟨r, hr⟩ := Option.isSome_iff_exists.1 h1
  rw [hr] at h2
  simp only [Option.map_some, Option.some.injEq, Prod.mk.injEq] at h2
  obtain ⟨h3, h4⟩ := h2
  have hres := resOf_sound (Γ := ⟨P, w0, foot pre, nt, []⟩) (s := s) (v := r.1) (gs := r.2.1) (ws := r.2.2.1) (sc' := r.2.2.2) hr h4 hS
  rw [h3] at hres
  have hP : Post w0 pre R (.returned v) w := ⟨v, hp', hR, rfl, (g.sat w hS.hs).1, hS.ext, fun c hc hcr k hk => by
    obtain ⟨d, hd, hdr, hdk⟩ := g.foot k ⟨c, hc, hcr, hk⟩
    exact hS.bd d hd hdr k hdk, allRw_mem hrw⟩
  rcases he with rfl | rfl
  · exact ⟨hS.defers, v, hres, hP⟩
  · exact ⟨hS.defers, v, hres, hP⟩

/-! ### loops -/
theorem wpc_loop {X : Type} {c : Code} (S : X → St) (μ : X → Nat) (x₀ : X) (h0 : Ent Γ s (S x₀))
    (h : ∀ x, WpC Γ c (S x) (Exit.then (fun a w => ∃ y, μ y < μ x ∧ Sat Γ (S y) a w) Q)) : WpC Γ (.loop c) s Q := fun a w hS => by
  refine wp_loop_ghost (fun n a w => ∃ x, μ x = n ∧ Sat Γ (S x) a w) (μ x₀) ⟨x₀, rfl, h0 a w hS⟩ ?_
  rintro n a w ⟨x, rfl, hx⟩
  refine wp_mono (h x a w hx) ?_
  intro e a' w' hq
  cases e with
  | normal => obtain ⟨y, h1, h2⟩ := hq; exact ⟨μ y, h1, y, rfl, h2⟩
  | _ => exact hq
theorem nx_round {X : Type} {S : X → St} {μ : X → Nat} {x : X} (y : X) (hμ : μ y < μ x) (h : Ent Γ s (S y)) : Nx Γ s (Exit.then (fun a w => ∃ y, μ y < μ x ∧ Sat Γ (S y) a w) Q) .normal :=
  fun a w hS => ⟨y, hμ, h a w hS⟩

end Go.Sx
