import Derived.Test.YtpfhleghgkeemaaGreatDoorX21
import Derived.Test.YtpfhleghgkeemaaGreatDoorX17
import Derived.Lib.OthersKept
import Derived.Laws.RangeAny
/-
  A range over a text: its place stands in a block of its own.
-/
namespace Go.Sx
open Go
set_option linter.unusedVariables false
variable {Γ : Cx} {s : St} {Q : Exit → Act → World → Prop}

/-- A text's iterator. -/
def itS (g : Nat) (l : List UInt8) (pos : Nat) : Ch := ob g (.stringIter (mkS l) pos)
def rngOf (P : Program) (ops : Array Oper) (nt : Nat) (i : Nat) (fr : Fr) : Option (Value × Option Nat) :=
  match opAt ops nt i fr with
  | some o => match o.op with
    | .range t x => match P.underlying t with
      | some .string => some (ev fr x, o.dst)
      | _ => none
    | _ => none
  | none => none
theorem step_rng {ops : Array Oper} {i : Nat} {l : List UInt8} {dst : Option Nat} (hc : rngOf Γ.P ops Γ.nt i s.fr = some (.string (mkS l), dst)) :
    Step Γ ops i s (fun s' => ∃ g, s' = ⟨putFr s.fr dst (.pointer (some ⟨g, 0, none⟩)), s.hp ++ [itS g l 0]⟩) := by
  unfold rngOf at hc
  split at hc
  case h_2 => cases hc
  case h_1 o ho =>
    split at hc
    case h_2 => cases hc
    case h_1 t x hop =>
      split at hc
      case h_2 => cases hc
      case h_1 hu =>
        simp only [Option.some.injEq, Prod.mk.injEq] at hc
        obtain ⟨hx, rfl⟩ := hc
        intro Q b' w' hS K hK
        refine step_sem ho (fun v hp' => ∃ g, v = .pointer (some ⟨g, 0, none⟩) ∧ hp' = s.hp ++ [itS g l 0]) (fun w hw => ?_) Q b' w' hS K (fun s' ⟨v, hp', ⟨g, h1, h2⟩, h3⟩ => hK s' ⟨g, by rw [h3, h1, h2]⟩)
        have hold : ∀ k, k < w.heap.size → (w.alloc (.stringIter (mkS l) 0)).heap[k]? = w.heap[k]? := fun k hk => alloc_old hk
        refine ⟨_, _, s.hp ++ [itS w.heap.size l 0], w.alloc (.stringIter (mkS l) 0), ?_, .inl rfl, ⟨w.heap.size, rfl, rfl⟩, hw.append hold (World.alloc_heap_new w _) (fun k hk => Nat.le_of_eq (Eq.symm hk)), ?_, ?_⟩
        · simp only [execOp, hop, hx, Instr.range, run_underlying hu, newObj, Sem.run_bind, Sem.run_pure, Result.andThen_ok, Sem.run]
          rfl
        · exact ⟨rfl, rfl, rfl, by show w.heap.size ≤ (w.heap.push _).size; simp, fun k hk _ => hold k hk⟩
        · intro c hcm hcr k hk
          rcases List.mem_append.1 hcm with hcm | hcm
          · exact .inl ⟨c, hcm, hcr, hk⟩
          · rw [List.mem_singleton.1 hcm] at hk
            exact .inr (Nat.le_of_eq (Eq.symm hk))
def nxtOf (ops : Array Oper) (nt : Nat) (i : Nat) (fr : Fr) : Option (Value × Option Nat) :=
  match opAt ops nt i fr with
  | some o => match o.op with
    | .next x true => some (ev fr x, o.dst)
    | _ => none
  | none => none
theorem step_nxt_end {ops : Array Oper} {i g : Nat} {l : List UInt8} {pos : Nat} {dst : Option Nat} (hc : nxtOf ops Γ.nt i s.fr = some (.pointer (some ⟨g, 0, none⟩), dst)) (p : Nat) (hp : s.hp[p]? = some (itS g l pos)) (hn : l.length ≤ pos) :
    Step Γ ops i s (fun s' => s' = ⟨putFr s.fr dst (.tuple #[.bool false]), s.hp⟩) := by
  unfold nxtOf at hc
  split at hc
  case h_2 => cases hc
  case h_1 o ho =>
    split at hc
    case h_2 => cases hc
    case h_1 x hop =>
      simp only [Option.some.injEq, Prod.mk.injEq] at hc
      obtain ⟨hx, rfl⟩ := hc
      intro Q b' w' hS K hK
      refine step_sem ho (fun v hp' => v = .tuple #[.bool false] ∧ hp' = s.hp) (fun w hw => ⟨_, _, _, w, ?_, .inl rfl, ⟨rfl, rfl⟩, hw, Ext.refl _ _, Bd.self _ _⟩) Q b' w' hS K (fun s' ⟨v, hp', ⟨h1, h2⟩, h3⟩ => hK s' (by rw [h3, h1, h2]))
      have hk : w.heap[g]? = some (.stringIter (mkS l) pos) := hw.holds _ (List.mem_of_getElem? hp)
      simp only [execOp, hop, hx, Go.Lib.run_next_end_at w g (mkS l) pos _ hk (by rw [mkS_size]; omega), Sem.run_bind, Sem.run_pure, Result.andThen_ok]
theorem step_nxt {ops : Array Oper} {i g : Nat} {l : List UInt8} {pos : Nat} {dst : Option Nat} (hc : nxtOf ops Γ.nt i s.fr = some (.pointer (some ⟨g, 0, none⟩), dst)) (p : Nat) (hp : s.hp[p]? = some (itS g l pos)) (hn : pos < l.length) :
    Step Γ ops i s (fun s' => s' = ⟨putFr s.fr dst (.tuple #[.bool true, .int .i64 (pos : Int), .int .i32 (Utf8.decode (mkS l) pos).1]), s.hp.set p (itS g l (pos + (Utf8.decode (mkS l) pos).2))⟩) := by
  unfold nxtOf at hc
  split at hc
  case h_2 => cases hc
  case h_1 o ho =>
    split at hc
    case h_2 => cases hc
    case h_1 x hop =>
      simp only [Option.some.injEq, Prod.mk.injEq] at hc
      obtain ⟨hx, rfl⟩ := hc
      intro Q b' w' hS K hK
      refine step_sem ho (fun v hp' => v = .tuple #[.bool true, .int .i64 (pos : Int), .int .i32 (Utf8.decode (mkS l) pos).1] ∧ hp' = s.hp.set p (itS g l (pos + (Utf8.decode (mkS l) pos).2))) (fun w hw => ?_) Q b' w' hS K (fun s' ⟨v, hp', ⟨h1, h2⟩, h3⟩ => hK s' (by rw [h3, h1, h2]))
      have hk : w.heap[g]? = some (.stringIter (mkS l) pos) := hw.holds _ (List.mem_of_getElem? hp)
      obtain ⟨p', hp'⟩ : ∃ p', p' = pos + (Utf8.decode (mkS l) pos).2 := ⟨_, rfl⟩
      have hrest : ∀ k, ¬ (itS g l pos).own k → k < w.heap.size → (w.iterAt g (mkS l) p').heap[k]? = w.heap[k]? := fun k hk' _ => by
        show (w.heap.setIfInBounds g _)[k]? = _
        rw [Array.getElem?_setIfInBounds, if_neg (fun e => hk' e.symm)]
      refine ⟨_, _, s.hp.set p (itS g l p'), w.iterAt g (mkS l) p', ?_, .inl rfl, ⟨rfl, by rw [hp']⟩, hw.put (c' := itS g l p') hp trivial (fun k h => .inl h) (Go.Lib.iterAt_heap w g (mkS l) pos p' hk) hrest, ?_, Bd.put (c' := itS g l p') hp trivial (fun k h => .inl h)⟩
      · rw [hp']
        simp only [execOp, hop, hx, Go.Lib.run_next_any_at w g (mkS l) pos _ hk (by rw [mkS_size]; exact hn), Sem.run_bind, Sem.run_pure, Result.andThen_ok]
      · exact ⟨rfl, rfl, rfl, by show w.heap.size ≤ (w.heap.setIfInBounds g _).size; simp, fun k hk' hF => hrest k (fun ho => hF ⟨_, List.mem_of_getElem? hp, trivial, ho⟩) hk'⟩
end Go.Sx
