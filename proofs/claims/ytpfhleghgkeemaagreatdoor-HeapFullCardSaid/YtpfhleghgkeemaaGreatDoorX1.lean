import Derived.Calls
import Derived.Orders
import Derived.OrdersHeld
import Derived.Below
import Derived.Laws.World
import Derived.Laws.Sem
import Derived.Deep.LoopGhost
import Derived.KernelRfl
/-
  A small separation logic over the model, by evaluation: 'chunks' own blocks; straight-line code is run by a Lean function (srun, sops) whose result the kernel computes.
-/
namespace Go.Sx
open Go
set_option linter.unusedVariables false

/-- An opaque chunk: what it says hangs on the blocks that it owns alone. -/
structure Oq where
  own : Nat → Prop
  rw : Prop
  holds : World → Prop
  loc : ∀ w w' : World, (∀ k, own k → w'.heap[k]? = w.heap[k]?) → holds w → holds w'
  lt : ∀ (w : World) k, holds w → own k → k < w.heap.size

/-- A chunk: a block whose cells are all known; or an opaque one. -/
inductive Ch where
  | blk (g : Nat) (T : TypeId) (l : List Value)
  | op (c : Oq)

def Ch.own : Ch → Nat → Prop
  | .blk g _ _ => fun k => k = g
  | .op c => c.own
def Ch.rw : Ch → Prop
  | .blk _ _ _ => True
  | .op c => c.rw
/-- Nothing of n cells is frozen (behind them something may be). -/
def FzOk (n : Nat) (fz : Nat × Nat) : Prop := fz.1 = fz.2 ∨ n ≤ fz.1
def blkH (w : World) (g T : Nat) (l : List Value) : Prop := ∃ fz, w.heap[g]? = some (.cells l.toArray T fz) ∧ FzOk l.length fz
def Ch.holds : Ch → World → Prop
  | .blk g T l => fun w => blkH w g T l
  | .op c => c.holds

theorem lt_of_get {w : World} {g : Nat} {o : Obj} (h : w.heap[g]? = some o) : g < w.heap.size := by
  rcases Nat.lt_or_ge g w.heap.size with h' | h'
  · exact h'
  · rw [Array.getElem?_eq_none h'] at h; cases h

theorem Ch.lt {c : Ch} {w : World} {k : Nat} (h : c.holds w) (ho : c.own k) : k < w.heap.size := by
  cases c with
  | blk g T l => cases ho; obtain ⟨fz, h, _⟩ := h; exact lt_of_get h
  | op c => exact c.lt w k h ho
theorem Ch.loc {c : Ch} {w w' : World} (hk : ∀ k, c.own k → w'.heap[k]? = w.heap[k]?) (h : c.holds w) : c.holds w' := by
  cases c with
  | blk g T l => obtain ⟨fz, h, hf⟩ := h; exact ⟨fz, (hk g rfl).trans h, hf⟩
  | op c => exact c.loc w w' hk h

/-- Two chunks may lie in one heap: no block in common, or neither writes. -/
def Apart (c d : Ch) : Prop := (¬ c.rw ∧ ¬ d.rw) ∨ ∀ k, c.own k → ¬ d.own k
theorem Apart.symm {c d : Ch} (h : Apart c d) : Apart d c := h.imp (fun ⟨a, b⟩ => ⟨b, a⟩) fun h k hd hc => h k hc hd

abbrev Hp := List Ch
structure HS (hp : Hp) (w : World) : Prop where
  holds : ∀ c ∈ hp, c.holds w
  apart : hp.Pairwise Apart

def foot (hp : Hp) (k : Nat) : Prop := ∃ c ∈ hp, c.rw ∧ c.own k

/-- From w to w' nothing was changed but blocks in F, and new ones. -/
structure Ext (w w' : World) (F : Nat → Prop) : Prop where
  os : w'.os = w.os
  tape : w'.tape = w.tape
  output : w'.output = w.output
  size : w.heap.size ≤ w'.heap.size
  block : ∀ k, k < w.heap.size → ¬ F k → w'.heap[k]? = w.heap[k]?

theorem Ext.refl (w : World) (F : Nat → Prop) : Ext w w F := ⟨rfl, rfl, rfl, Nat.le_refl _, fun _ _ _ => rfl⟩

/-- Blocks that a heap may write: those of F, and what is new since w. -/
def Bd (hp : Hp) (F : Nat → Prop) (n : Nat) : Prop := ∀ c ∈ hp, c.rw → ∀ k, c.own k → F k ∨ n ≤ k

theorem Ext.trans {a b c : World} {F G : Nat → Prop} (h : Ext a b F) (k : Ext b c G) (hG : ∀ x, G x → F x ∨ a.heap.size ≤ x) : Ext a c F :=
  ⟨k.os.trans h.os, k.tape.trans h.tape, k.output.trans h.output, Nat.le_trans h.size k.size, fun x hx hF =>
    (k.block x (Nat.lt_of_lt_of_le hx h.size) (fun g => (hG x g).elim hF (by omega))).trans (h.block x hx hF)⟩

/-- What is known in a function's body: entry world, footprint. -/
structure Cx where
  P : Program
  w0 : World
  F : Nat → Prop
  nt : Nat
  ds : List Deferred

abbrev Fr := List (Nat × Value)
def look : Fr → Nat → Option Value
  | [], _ => none
  | (i, v) :: r, j => if i = j then some v else look r j

structure St where
  fr : Fr
  hp : Hp

structure Sat (Γ : Cx) (s : St) (a : Act) (w : World) : Prop where
  size : a.tmps.size = Γ.nt
  defers : a.defers = Γ.ds
  fr : ∀ i v, look s.fr i = some v → a.tmps.getD i undef = v
  hs : HS s.hp w
  ext : Ext Γ.w0 w Γ.F
  bd : Bd s.hp Γ.F Γ.w0.heap.size

/-! ### Running one operation -/
/-- One operation's meaning, run over known blocks. 'n': the number that a new block would have, if it may make one; 'sc': which chunk each access meets; what comes out: the value, the heap, the block numbers that were met and those of the chunks named (they are to be equal), and the number not used up, the script not used up. -/
def srun {α : Type} (P : Program) : Sem α → List Nat → Option Nat → Hp → Option (α × Hp × List Nat × List Nat × Option Nat × List Nat)
  | .pure a, sc, n, hp => some (a, hp, [], [], n, sc)
  | .load _ a k, i :: sc, n, hp =>
    match hp[i]?, a.spot with
    | some (.blk b _ l), none =>
      match l[a.off]? with
      | some v => match srun P (k v) sc n hp with
        | some (x, hp', gs, ws, n') => some (x, hp', a.block :: gs, b :: ws, n')
        | none => none
      | none => none
    | _, _ => none
  | .store _ a v k, i :: sc, n, hp =>
    match hp[i]?, a.spot with
    | some (.blk b T l), none =>
      match v with
      | .agg _ | .tuple _ => none
      | v => match l[a.off]? with
        | some _ => match srun P k sc n (hp.set i (.blk b T (l.set a.off v))) with
          | some (x, hp', gs, ws, n') => some (x, hp', a.block :: gs, b :: ws, n')
          | none => none
        | none => none
    | _, _ => none
  | .new o k, sc, some m, hp =>
    match o with
    | .cells c T (0, 0) => srun P (k m) sc none (hp ++ [.blk m T c.toList])
    | _ => none
  | .shape r k, i :: sc, n, hp =>
    match hp[i]? with
    | some (.blk b T l) => match srun P (k (some (T, l.length))) sc n hp with
      | some (x, hp', gs, ws, n') => some (x, hp', r :: gs, b :: ws, n')
      | none => none
    | _ => none
  | .frozen a k, i :: sc, n, hp =>
    match hp[i]? with
    | some (.blk b _ l) => match l[a.off]? with
      | some _ => match srun P (k false) sc n hp with
        | some (x, hp', gs, ws, n') => some (x, hp', a.block :: gs, b :: ws, n')
        | none => none
      | none => none
    | _ => none
  | .freeze a z k, i :: sc, n, hp =>
    match hp[i]? with
    | some (.blk b _ l) => match l.length.ble a.off with
      | true => match srun P k sc n hp with
        | some (x, hp', gs, ws, n') => some (x, hp', a.block :: gs, b :: ws, n')
        | none => none
      | false => none
    | _ => none
  | .program k, sc, n, hp => srun P (k P) sc n hp
  | .mark _ k, sc, n, hp => srun P k sc n hp
  | _, _, _, _ => none

theorem HS.blk {hp : Hp} {w : World} (h : HS hp w) {i b : Nat} {T : TypeId} {l : List Value} (hi : hp[i]? = some (.blk b T l)) : blkH w b T l :=
  h.holds _ (List.mem_of_getElem? hi)

theorem cell_blk {w : World} {b T : Nat} {l : List Value} (h : blkH w b T l) (a : Addr) (ha : a.block = b) (hs : a.spot = none) : w.cell? a = l[a.off]? := by
  obtain ⟨fz, h, _⟩ := h
  unfold World.cell?
  rw [ha, h]
  simp [hs]
theorem frozen_blk {w : World} {b T : Nat} {l : List Value} (h : blkH w b T l) (a : Addr) (ha : a.block = b) (hl : a.off < l.length) : w.frozen? a = false := by
  obtain ⟨fz, h, hf⟩ := h
  unfold World.frozen?
  rw [ha, h]
  simp only [Bool.and_eq_false_iff, decide_eq_false_iff_not]
  unfold FzOk at hf
  omega
theorem shape_blk {w : World} {b T : Nat} {l : List Value} (h : blkH w b T l) : w.shape? b = some (T, l.length) := by
  obtain ⟨fz, h, _⟩ := h
  unfold World.shape?
  rw [h]
  simp

theorem heap_set {w : World} {b T : Nat} {l : List Value} (h : blkH w b T l) (a : Addr) (v : Value) (ha : a.block = b) (hs : a.spot = none) :
    blkH (w.setCell a v) b T (l.set a.off v) := by
  obtain ⟨fz, h, hf⟩ := h
  refine ⟨fz, ?_, by rwa [List.length_set]⟩
  simp only [World.setCell, Array.getElem?_modify, ha, h]
  simp [hs]
theorem heap_freeze {w : World} {b T : Nat} {l : List Value} (h : blkH w b T l) (a : Addr) (n : Nat) (ha : a.block = b) (hl : l.length ≤ a.off) : blkH (w.freeze a n) b T l := by
  obtain ⟨fz, h, hf⟩ := h
  unfold World.freeze
  split
  · exact ⟨fz, h, hf⟩
  · refine ⟨if fz.1 == fz.2 then (a.off, a.off + n) else (min fz.1 a.off, max fz.2 (a.off + n)), ?_, ?_⟩
    · simp only [Array.getElem?_modify, ha, h]
      simp
    · unfold FzOk at *
      split
      · exact .inr hl
      · rename_i hne
        have : fz.1 ≠ fz.2 := by simpa using hne
        right
        simp only
        omega
theorem heap_freeze_ne {w : World} (a : Addr) (n : Nat) {k : Nat} (hk : k ≠ a.block) : (w.freeze a n).heap[k]? = w.heap[k]? := by
  unfold World.freeze
  split
  · rfl
  · simp only [Array.getElem?_modify]
    rw [if_neg (fun e => hk e.symm)]
theorem heap_set_ne {w : World} (a : Addr) (v : Value) {k : Nat} (hk : k ≠ a.block) : (w.setCell a v).heap[k]? = w.heap[k]? := by
  simp only [World.setCell, Array.getElem?_modify]
  rw [if_neg (fun e => hk e.symm)]

theorem pairwise_get {hp : Hp} (h : hp.Pairwise Apart) {i j : Nat} (hij : i ≠ j) {c d : Ch} (hi : hp[i]? = some c) (hj : hp[j]? = some d) : Apart c d := by
  rw [List.pairwise_iff_getElem] at h
  obtain ⟨hi1, rfl⟩ := List.getElem?_eq_some_iff.1 hi
  obtain ⟨hj1, rfl⟩ := List.getElem?_eq_some_iff.1 hj
  rcases Nat.lt_or_gt_of_ne hij with hlt | hlt
  · exact h i j hi1 hj1 hlt
  · exact (h j i hj1 hi1 hlt).symm

/-- A chunk is put in the place of one that owns as much. -/
theorem HS.set {hp : Hp} {w w' : World} (h : HS hp w) {i : Nat} {c c' : Ch} (hi : hp[i]? = some c) (hc : c.rw) (hown : ∀ k, c'.own k → c.own k) (hholds : c'.holds w')
    (hrest : ∀ k, ¬ c.own k → k < w.heap.size → w'.heap[k]? = w.heap[k]?) : HS (hp.set i c') w' := by
  obtain ⟨hi1, hi2⟩ := List.getElem?_eq_some_iff.1 hi
  have hap : ∀ j, j ≠ i → ∀ d, hp[j]? = some d → ∀ k, c.own k → ¬ d.own k := fun j hj d hd => by
    rcases pairwise_get h.apart (Ne.symm hj) hi hd with ⟨h1, _⟩ | h1
    · exact absurd hc h1
    · exact h1
  constructor
  · intro d hd
    obtain ⟨j, hj1, hj⟩ := List.getElem_of_mem hd
    rw [List.getElem_set] at hj
    split at hj
    · subst hj; exact hholds
    · rename_i hne
      have hjl : j < hp.length := by simpa using hj1
      have hd' : hp[j]? = some d := by rw [List.getElem?_eq_getElem hjl, hj]
      have hdw := h.holds d (List.mem_of_getElem? hd')
      exact d.loc (fun k hk => hrest k (fun hck => hap j (fun e => hne e.symm) d hd' k hck hk) (d.lt hdw hk)) hdw
  · rw [List.pairwise_iff_getElem]
    intro x y hx hy hxy
    have hx' : x < hp.length := by simpa using hx
    have hy' : y < hp.length := by simpa using hy
    have hp' := List.pairwise_iff_getElem.1 h.apart x y hx' hy' hxy
    rw [List.getElem_set, List.getElem_set]
    by_cases hxi : i = x
    · subst hxi
      rw [if_pos rfl, if_neg (by omega)]
      exact .inr fun k hk => hap y (by omega) _ (List.getElem?_eq_getElem hy') k (hown k hk)
    · rw [if_neg hxi]
      by_cases hyi : i = y
      · subst hyi
        rw [if_pos rfl]
        exact .inr fun k hk hk' => hap x (by omega) _ (List.getElem?_eq_getElem hx') k (hown k hk') hk
      · rw [if_neg hyi]; exact hp'

theorem HS.append {hp : Hp} {w w' : World} (h : HS hp w) (hsame : ∀ k, k < w.heap.size → w'.heap[k]? = w.heap[k]?) {c : Ch} (hc : c.holds w') (hnew : ∀ k, c.own k → w.heap.size ≤ k) : HS (hp ++ [c]) w' := by
  constructor
  · intro d hd
    rcases List.mem_append.1 hd with hd | hd
    · exact d.loc (fun k hk => hsame k (d.lt (h.holds d hd) hk)) (h.holds d hd)
    · rw [List.mem_singleton.1 hd]; exact hc
  · rw [List.pairwise_append]
    refine ⟨h.apart, List.pairwise_singleton _ _, fun d hd e he => ?_⟩
    rw [List.mem_singleton.1 he]
    exact .inr fun k hk hk' => absurd (d.lt (h.holds d hd) hk) (by have := hnew k hk'; omega)

theorem Bd.self (hp : Hp) (n : Nat) : Bd hp (foot hp) n := fun c hc hr k hk => .inl ⟨c, hc, hr, hk⟩

theorem foot_set {hp : Hp} {i : Nat} {c c' : Ch} (hi : hp[i]? = some c) (hc : c.rw) (hown : ∀ k, c'.own k → c.own k) (k : Nat) (h : foot (hp.set i c') k) : foot hp k := by
  obtain ⟨d, hd, hr, hk⟩ := h
  rcases List.mem_or_eq_of_mem_set hd with hd | hd
  · exact ⟨d, hd, hr, hk⟩
  · subst hd; exact ⟨c, List.mem_of_getElem? hi, hc, hown k hk⟩

theorem run_load_some {α : Type} {P : Program} {m : Mode} {a : Addr} {k : Value → Sem α} {w : World} {v : Value} (h : w.cell? a = some v) : (Sem.load m a k).run P w = (k v).run P w := by
  simp only [Sem.run, h]
theorem run_store_some {α : Type} {P : Program} {m : Mode} {a : Addr} {v : Value} {k : Sem α} {w : World} {u : Value} (h : w.cell? a = some u) (hf : w.frozen? a = false)
    (h1 : ∀ c, v ≠ .agg c) (h2 : ∀ c, v ≠ .tuple c) : (Sem.store m a v k).run P w = k.run P (w.setCell a v) := by
  cases v <;> first | exact absurd rfl (h1 _) | exact absurd rfl (h2 _) | (simp only [Sem.run, h, hf]; rfl)

/-- Reading alone: the world stays. -/
def sread {α : Type} (P : Program) : Sem α → List Nat → Hp → Option (α × List Nat × List Nat × List Nat)
  | .pure a, sc, hp => some (a, [], [], sc)
  | .load _ a k, i :: sc, hp =>
    match hp[i]?, a.spot with
    | some (.blk b _ l), none =>
      match l[a.off]? with
      | some v => match sread P (k v) sc hp with
        | some (x, gs, ws, sc') => some (x, a.block :: gs, b :: ws, sc')
        | none => none
      | none => none
    | _, _ => none
  | .shape r k, i :: sc, hp =>
    match hp[i]? with
    | some (.blk b T l) => match sread P (k (some (T, l.length))) sc hp with
      | some (x, gs, ws, sc') => some (x, r :: gs, b :: ws, sc')
      | none => none
    | _ => none
  | .frozen a k, i :: sc, hp =>
    match hp[i]? with
    | some (.blk b _ l) => match l[a.off]? with
      | some _ => match sread P (k false) sc hp with
        | some (x, gs, ws, sc') => some (x, a.block :: gs, b :: ws, sc')
        | none => none
      | none => none
    | _ => none
  | .program k, sc, hp => sread P (k P) sc hp
  | .mark _ k, sc, hp => sread P k sc hp
  | _, _, _ => none

def HL (hp : Hp) (w : World) : Prop := ∀ c ∈ hp, c.holds w

theorem sread_sound {α : Type} {P : Program} (s : Sem α) : ∀ (sc : List Nat) (hp : Hp) (x : α) (gs ws sc' : List Nat),
    sread P s sc hp = some (x, gs, ws, sc') → gs = ws → ∀ w, HL hp w → s.run P w = .ok x w := by
  induction s with
  | pure a =>
    intro sc hp x gs ws sc' h _ w hw
    simp only [sread, Option.some.injEq, Prod.mk.injEq] at h
    obtain ⟨rfl, rfl, rfl, rfl⟩ := h
    rfl
  | load m a k ih =>
    intro sc hp x gs ws sc' h he w hw
    cases sc with
    | nil => simp [sread] at h
    | cons i sc =>
      simp only [sread] at h
      split at h
      case h_2 => cases h
      case h_1 b T l hi hs =>
        split at h
        case h_2 => cases h
        case h_1 v hv =>
          split at h
          case h_2 => cases h
          case h_1 x1 gs1 ws1 sc1 hr =>
            simp only [Option.some.injEq, Prod.mk.injEq] at h
            obtain ⟨rfl, rfl, rfl, rfl⟩ := h
            injection he with he1 he2
            exact (run_load_some ((cell_blk (hw _ (List.mem_of_getElem? hi)) a he1 hs).trans hv)).trans (ih v sc hp _ _ _ _ hr he2 w hw)
  | shape r k ih =>
    intro sc hp x gs ws sc' h he w hw
    cases sc with
    | nil => simp [sread] at h
    | cons i sc =>
      simp only [sread] at h
      split at h
      case h_2 => cases h
      case h_1 b T l hi =>
        split at h
        case h_2 => cases h
        case h_1 x1 gs1 ws1 sc1 hr =>
          simp only [Option.some.injEq, Prod.mk.injEq] at h
          obtain ⟨rfl, rfl, rfl, rfl⟩ := h
          injection he with he1 he2
          show (k (w.shape? r)).run P w = _
          rw [he1, shape_blk (hw _ (List.mem_of_getElem? hi))]
          exact ih _ sc hp _ _ _ _ hr he2 w hw
  | frozen a k ih =>
    intro sc hp x gs ws sc' h he w hw
    cases sc with
    | nil => simp [sread] at h
    | cons i sc =>
      simp only [sread] at h
      split at h
      case h_2 => cases h
      case h_1 b T l hi =>
        split at h
        case h_2 => cases h
        case h_1 u hu =>
          split at h
          case h_2 => cases h
          case h_1 x1 gs1 ws1 sc1 hr =>
            simp only [Option.some.injEq, Prod.mk.injEq] at h
            obtain ⟨rfl, rfl, rfl, rfl⟩ := h
            injection he with he1 he2
            show (k (w.frozen? a)).run P w = _
            rw [frozen_blk (hw _ (List.mem_of_getElem? hi)) a he1 (List.getElem?_eq_some_iff.1 hu).1]
            exact ih _ sc hp _ _ _ _ hr he2 w hw
  | program k ih =>
    intro sc hp x gs ws sc' h he w hw
    have h' : sread P (k P) sc hp = some (x, gs, ws, sc') := by cases sc <;> exact h
    exact ih P sc hp _ _ _ _ h' he w hw
  | mark m k ih =>
    intro sc hp x gs ws sc' h he w hw
    have h' : sread P k sc hp = some (x, gs, ws, sc') := by cases sc <;> exact h
    exact ih sc hp _ _ _ _ h' he w hw
  | store m a v k ih => intro sc hp x gs ws sc' h; cases sc <;> simp [sread] at h
  | new o k ih => intro sc hp x gs ws sc' h; cases sc <;> simp [sread] at h
  | freeze a n k ih => intro sc hp x gs ws sc' h; cases sc <;> simp [sread] at h
  | getObj r k ih => intro sc hp x gs ws sc' h; cases sc <;> simp [sread] at h
  | setObj r o k ih => intro sc hp x gs ws sc' h; cases sc <;> simp [sread] at h
  | choose q k ih => intro sc hp x gs ws sc' h; cases sc <;> simp [sread] at h
  | sys c k ih => intro sc hp x gs ws sc' h; cases sc <;> simp [sread] at h
  | halt h => intro sc hp x gs ws sc' h; cases sc <;> simp [sread] at h

theorem srun_sound {α : Type} {P : Program} (s : Sem α) : ∀ (sc : List Nat) (n : Option Nat) (hp : Hp) (x : α) (hp' : Hp) (gs ws : List Nat) (n' : Option Nat) (sc' : List Nat),
    srun P s sc n hp = some (x, hp', gs, ws, n', sc') → gs = ws → ∀ w, HS hp w → (∀ m, n = some m → m = w.heap.size) →
    ∃ w', s.run P w = .ok x w' ∧ HS hp' w' ∧ Ext w w' (foot hp) ∧ Bd hp' (foot hp) w.heap.size ∧ (∀ m, n' = some m → m = w'.heap.size) := by
  induction s with
  | pure a =>
    intro sc n hp x hp' gs ws n' sc' h _ w hw hn
    simp only [srun, Option.some.injEq, Prod.mk.injEq] at h
    obtain ⟨rfl, rfl, rfl, rfl, rfl, rfl⟩ := h
    exact ⟨w, rfl, hw, Ext.refl _ _, Bd.self _ _, hn⟩
  | load m a k ih =>
    intro sc n hp x hp' gs ws n' sc' h he w hw hn
    cases sc with
    | nil => simp [srun] at h
    | cons i sc =>
      simp only [srun] at h
      split at h
      case h_2 => cases h
      case h_1 b T l hi hs =>
        split at h
        case h_2 => cases h
        case h_1 v hv =>
          split at h
          case h_2 => cases h
          case h_1 x1 hp1 gs1 ws1 n1 hr =>
            simp only [Option.some.injEq, Prod.mk.injEq] at h
            obtain ⟨rfl, rfl, rfl, rfl, rfl⟩ := h
            injection he with he1 he2
            obtain ⟨w', h1, h2⟩ := ih v sc n hp _ _ _ _ _ _ hr he2 w hw hn
            exact ⟨w', (run_load_some ((cell_blk (hw.blk hi) a he1 hs).trans hv)).trans h1, h2⟩
  | store m a v k ih =>
    intro sc n hp x hp' gs ws n' sc' h he w hw hn
    cases sc with
    | nil => simp [srun] at h
    | cons i sc =>
      simp only [srun] at h
      split at h
      case h_2 => cases h
      case h_1 b T l hi hs =>
        split at h
        case h_1 => cases h
        case h_2 => cases h
        case h_3 hna hnt =>
          split at h
          case h_2 => cases h
          case h_1 u hu =>
            split at h
            case h_2 => cases h
            case h_1 x1 hp1 gs1 ws1 n1 hr =>
              simp only [Option.some.injEq, Prod.mk.injEq] at h
              obtain ⟨rfl, rfl, rfl, rfl, rfl⟩ := h
              injection he with he1 he2
              have hb := hw.blk hi
              have hset := heap_set hb a v he1 hs
              have hrest : ∀ k, k ≠ b → k < w.heap.size → (w.setCell a v).heap[k]? = w.heap[k]? := fun k hk _ => heap_set_ne a v (by rw [he1]; exact hk)
              have hsz : (w.setCell a v).heap.size = w.heap.size := by simp [World.setCell]
              obtain ⟨w', h1, h2, h3, h4, h5⟩ := ih sc n _ _ _ _ _ _ _ hr he2 (w.setCell a v) (hw.set hi trivial (fun _ h => h) hset hrest) (fun m hm => by rw [hsz]; exact hn m hm)
              have hfoot := fun k h => foot_set (c' := .blk b T (l.set a.off v)) hi trivial (fun _ h => h) k h
              refine ⟨w', (run_store_some ((cell_blk hb a he1 hs).trans hu) (frozen_blk hb a he1 (List.getElem?_eq_some_iff.1 hu).1) (fun c e => hna c e) (fun c e => hnt c e)).trans h1, h2, ?_, ?_, h5⟩
              · refine Ext.trans (b := w.setCell a v) ⟨rfl, rfl, rfl, by omega, fun k hk hF => hrest k (fun e => hF ⟨_, List.mem_of_getElem? hi, trivial, e⟩) hk⟩ h3 (fun k hk => .inl (hfoot k hk))
              · intro c hc hr k hk
                rcases h4 c hc hr k hk with h | h
                · exact .inl (hfoot k h)
                · exact .inr (by omega)
  | new o k ih =>
    intro sc n hp x hp' gs ws n' sc' h he w hw hn
    cases n with
    | none => simp [srun] at h
    | some m =>
      simp only [srun] at h
      split at h
      case h_2 => cases h
      case h_1 c T =>
        have hm := hn m rfl
        subst hm
        obtain ⟨w', h1, h2, h3, h4, h5⟩ := ih _ sc none _ _ _ _ _ _ _ h he { w with heap := w.heap.push (.cells c T (0, 0)) }
          (hw.append (fun k hk => by show (w.heap.push _)[k]? = _; rw [Array.getElem?_push, if_neg (by omega)]) ⟨(0, 0), (by show (w.heap.push _)[_]? = _; simp), .inl rfl⟩ (fun k hk => by cases hk; exact Nat.le_refl _)) (fun m hm => by cases hm)
        refine ⟨w', h1, h2, ?_, ?_, h5⟩
        · refine Ext.trans (b := { w with heap := w.heap.push (.cells c T (0, 0)) }) ⟨rfl, rfl, rfl, by simp, fun k hk hF => by show (w.heap.push _)[k]? = _; rw [Array.getElem?_push, if_neg (by omega)]⟩ h3 ?_
          rintro x ⟨d, hd, hr, hx⟩
          rcases List.mem_append.1 hd with hd | hd
          · exact .inl ⟨d, hd, hr, hx⟩
          · rw [List.mem_singleton.1 hd] at hx; cases hx; exact .inr (Nat.le_refl _)
        · intro d hd hr k hk
          rcases h4 d hd hr k hk with ⟨e, he, her, hek⟩ | h
          · rcases List.mem_append.1 he with he | he
            · exact .inl ⟨e, he, her, hek⟩
            · rw [List.mem_singleton.1 he] at hek; cases hek; exact .inr (Nat.le_refl _)
          · exact .inr (by simp at h; omega)
  | shape r k ih =>
    intro sc n hp x hp' gs ws n' sc' h he w hw hn
    cases sc with
    | nil => simp [srun] at h
    | cons i sc =>
      simp only [srun] at h
      split at h
      case h_2 => cases h
      case h_1 b T l hi =>
        split at h
        case h_2 => cases h
        case h_1 x1 hp1 gs1 ws1 n1 hr =>
          simp only [Option.some.injEq, Prod.mk.injEq] at h
          obtain ⟨rfl, rfl, rfl, rfl, rfl⟩ := h
          injection he with he1 he2
          obtain ⟨w', h1, h2⟩ := ih _ sc n hp _ _ _ _ _ _ hr he2 w hw hn
          refine ⟨w', ?_, h2⟩
          show (k (w.shape? r)).run P w = _
          rw [he1, shape_blk (hw.blk hi)]; exact h1
  | frozen a k ih =>
    intro sc n hp x hp' gs ws n' sc' h he w hw hn
    cases sc with
    | nil => simp [srun] at h
    | cons i sc =>
      simp only [srun] at h
      split at h
      case h_2 => cases h
      case h_1 b T l hi =>
        split at h
        case h_2 => cases h
        case h_1 u hu =>
          split at h
          case h_2 => cases h
          case h_1 x1 hp1 gs1 ws1 n1 hr =>
            simp only [Option.some.injEq, Prod.mk.injEq] at h
            obtain ⟨rfl, rfl, rfl, rfl, rfl⟩ := h
            injection he with he1 he2
            obtain ⟨w', h1, h2⟩ := ih _ sc n hp _ _ _ _ _ _ hr he2 w hw hn
            refine ⟨w', ?_, h2⟩
            show (k (w.frozen? a)).run P w = _
            rw [frozen_blk (hw.blk hi) a he1 (List.getElem?_eq_some_iff.1 hu).1]; exact h1
  | freeze a z k ih =>
    intro sc n hp x hp' gs ws n' sc' h he w hw hn
    cases sc with
    | nil => simp [srun] at h
    | cons i sc =>
      simp only [srun] at h
      split at h
      case h_2 => cases h
      case h_1 b T l hi =>
        split at h
        case h_2 => cases h
        case h_1 hle =>
          split at h
          case h_2 => cases h
          case h_1 x1 hp1 gs1 ws1 n1 hr =>
            simp only [Option.some.injEq, Prod.mk.injEq] at h
            obtain ⟨rfl, rfl, rfl, rfl, rfl⟩ := h
            injection he with he1 he2
            have hz : (w.freeze a z).heap.size = w.heap.size ∧ (w.freeze a z).os = w.os ∧ (w.freeze a z).tape = w.tape ∧ (w.freeze a z).output = w.output := by
              unfold World.freeze; split <;> simp
            have hrest : ∀ k, k ≠ b → (w.freeze a z).heap[k]? = w.heap[k]? := fun k hk => heap_freeze_ne a z (by rw [he1]; exact hk)
            have hset : HS hp (w.freeze a z) := by
              have h9 := hw.set (w' := w.freeze a z) hi trivial (fun _ h => h) (heap_freeze (hw.blk hi) a z he1 (Nat.le_of_ble_eq_true hle)) (fun k hk _ => hrest k hk)
              have e : hp.set i (.blk b T l) = hp := by
                obtain ⟨hi1, hi2⟩ := List.getElem?_eq_some_iff.1 hi
                rw [← hi2]; exact List.set_getElem_self hi1
              rwa [e] at h9
            obtain ⟨w', h1, h2, h3, h4, h5⟩ := ih sc n hp _ _ _ _ _ _ hr he2 (w.freeze a z) hset (fun m hm => by rw [hz.1]; exact hn m hm)
            refine ⟨w', h1, h2, ?_, ?_, h5⟩
            · exact Ext.trans (b := w.freeze a z) ⟨hz.2.1, hz.2.2.1, hz.2.2.2, by rw [hz.1]; exact Nat.le_refl _, fun k hk hF => hrest k (fun e => hF ⟨_, List.mem_of_getElem? hi, trivial, e⟩)⟩ h3 (fun k hk => .inl hk)
            · intro c hc hr k hk
              rcases h4 c hc hr k hk with h | h
              · exact .inl h
              · exact .inr (by rw [← hz.1]; exact h)
  | program k ih =>
    intro sc n hp x hp' gs ws n' sc' h he w hw hn
    have h' : srun P (k P) sc n hp = some (x, hp', gs, ws, n', sc') := by cases sc <;> cases n <;> exact h
    obtain ⟨w', h1, h2⟩ := ih P sc n hp _ _ _ _ _ _ h' he w hw hn
    exact ⟨w', h1, h2⟩
  | mark m k ih =>
    intro sc n hp x hp' gs ws n' sc' h he w hw hn
    have h' : srun P k sc n hp = some (x, hp', gs, ws, n', sc') := by cases sc <;> cases n <;> exact h
    obtain ⟨w', h1, h2⟩ := ih sc n hp _ _ _ _ _ _ h' he w hw hn
    exact ⟨w', h1, h2⟩
  | getObj r k ih => intro sc n hp x hp' gs ws n' sc' h; cases sc <;> cases n <;> simp [srun] at h
  | setObj r o k ih => intro sc n hp x hp' gs ws n' sc' h; cases sc <;> cases n <;> simp [srun] at h
  | choose q k ih => intro sc n hp x hp' gs ws n' sc' h; cases sc <;> cases n <;> simp [srun] at h
  | sys c k ih => intro sc n hp x hp' gs ws n' sc' h; cases sc <;> cases n <;> simp [srun] at h
  | halt h => intro sc n hp x hp' gs ws n' sc' h; cases sc <;> cases n <;> simp [srun] at h

end Go.Sx
