import Derived.Test.YtpfhleghgkeemaaGreatDoorX3
/-
  One operation, a row of operations, regions, code: the rules by which a proof goes on.
-/
namespace Go.Sx
open Go
set_option linter.unusedVariables false
set_option linter.unusedSimpArgs false

structure Rs where
  fr : Fr
  hp : Hp
  gs : List Nat
  ws : List Nat
  vc : List Prop
  n : Option Nat
  sc : List Nat

def okDst (nt : Nat) : Option Nat → Bool
  | none => true
  | some d => d.blt nt

def sop (P : Program) (md : Bool) (ops : Array Oper) (nt : Nat) (i : Nat) (fr : Fr) (hp : Hp) (n : Option Nat) (sc : List Nat) : Option Rs :=
  match ops[i]? with
  | none => none
  | some o =>
    match okDst nt o.dst, wants ops fr o with
    | true, some false => some ⟨putFr fr o.dst undef, hp, [], [], [], n, sc⟩
    | true, some true =>
      match knownOp fr o with
      | false => none
      | true =>
        match special P md (ev fr) o.op with
        | some (v, ps) => some ⟨putFr fr o.dst v, hp, [], [], ps, n, sc⟩
        | none => match srun P (execOp (ev fr) o) sc n hp with
          | some (.value v, hp', gs, ws, n', sc') => some ⟨putFr fr o.dst v, hp', gs, ws, [], n', sc'⟩
          | some (.skip, hp', gs, ws, n', sc') => some ⟨putFr fr o.dst undef, hp', gs, ws, [], n', sc'⟩
          | _ => none
    | _, _ => none

theorem FrOk.putFr {fr : Fr} {a : Act} (h : FrOk fr a) {nt : Nat} {d : Option Nat} (hs : a.tmps.size = nt) (hd : okDst nt d = true) (v : Value) : FrOk (putFr fr d v) (a.put d v) := by
  cases d with
  | none => exact h
  | some d => exact FrOk.put h (by rw [hs]; exact Nat.le_of_ble_eq_true hd) v
theorem size_put {a : Act} (d : Option Nat) (v : Value) : (a.put d v).tmps.size = a.tmps.size := by cases d <;> simp [Act.put]
theorem defers_put {a : Act} (d : Option Nat) (v : Value) : (a.put d v).defers = a.defers := by cases d <;> rfl

/-- The number that a new block would have. -/
def Fresh (n : Option Nat) (w : World) : Prop := ∀ m, n = some m → m = w.heap.size

theorem Sat.step {Γ : Cx} {fr : Fr} {hp hp' : Hp} {a : Act} {w w' : World} {d : Option Nat} {v : Value} (h : Sat Γ ⟨fr, hp⟩ a w) (hd : okDst Γ.nt d = true)
    (hs : HS hp' w') (he : Ext w w' (foot hp)) (hb : Bd hp' (foot hp) w.heap.size) : Sat Γ ⟨putFr fr d v, hp'⟩ (a.put d v) w' where
  size := (size_put d v).trans h.size
  defers := (defers_put d v).trans h.defers
  fr := FrOk.putFr h.fr h.size hd v
  hs := hs
  ext := h.ext.trans he fun x ⟨c, hc, hr, hx⟩ => h.bd c hc hr x hx
  bd := fun c hc hr k hk => by
    rcases hb c hc hr k hk with ⟨d, hd, hdr, hdk⟩ | h1
    · exact h.bd d hd hdr k hdk
    · exact .inr (Nat.le_trans h.ext.size h1)

theorem sop_sound {Γ : Cx} {md : Bool} {ops : Array Oper} {i : Nat} {fr : Fr} {hp : Hp} {n : Option Nat} {sc : List Nat} {r : Rs} {Q : Exit → Act → World → Prop}
    (h : sop Γ.P md ops Γ.nt i fr hp n sc = some r) (he : r.gs = r.ws) (hv : AllP r.vc) {a : Act} {w : World} (hS : Sat Γ ⟨fr, hp⟩ a w) (hn : Fresh n w)
    {K : Act → World → Prop} (hK : ∀ a' w', Sat Γ ⟨r.fr, r.hp⟩ a' w' → Fresh r.n w' → K a' w') : wpOp Γ.P ops Q i K a w := by
  unfold sop at h
  unfold wpOp
  cases ho : ops[i]? with
  | none => rw [ho] at h; cases h
  | some o =>
    rw [ho] at h
    simp only at h ⊢
    split at h
    · rename_i hd hw
      simp only [Option.some.injEq] at h
      subst h
      rw [wants_ok hS.fr hw]
      simp only [Bool.false_eq_true, if_false]
      exact hK _ _ (hS.step hd hS.hs (Ext.refl _ _) (Bd.self _ _)) hn
    · rename_i hd hw
      rw [wants_ok hS.fr hw]
      simp only [if_true]
      refine .inl ?_
      split at h
      · cases h
      · rename_i hk
        unfold Oper.wp
        rw [ev_eq hS.fr hk]
        split at h
        · rename_i v ps hsp
          simp only [Option.some.injEq] at h
          subst h
          rw [special_sound hsp hv]
          exact hK _ _ (hS.step hd hS.hs (Ext.refl _ _) (Bd.self _ _)) hn
        · split at h
          · rename_i v hp' gs ws n' sc' hr
            simp only [Option.some.injEq] at h
            subst h
            obtain ⟨w', h1, h2, h3, h4, h5⟩ := srun_sound _ _ _ _ _ _ _ _ _ _ hr he w hS.hs hn
            rw [h1]
            exact hK _ _ (hS.step hd h2 h3 h4) h5
          · rename_i hp' gs ws n' sc' hr
            simp only [Option.some.injEq] at h
            subst h
            obtain ⟨w', h1, h2, h3, h4, h5⟩ := srun_sound _ _ _ _ _ _ _ _ _ _ hr he w hS.hs hn
            rw [h1]
            exact hK _ _ (hS.step hd h2 h3 h4) h5
          · cases h
    · cases h

/-- A row of operations. -/
def sops (P : Program) (md : Bool) (ops : Array Oper) (nt : Nat) : List Nat → Fr → Hp → Option Nat → List Nat → Option Rs
  | [], fr, hp, n, sc => some ⟨fr, hp, [], [], [], n, sc⟩
  | i :: l, fr, hp, n, sc =>
    match sop P md ops nt i fr hp n sc with
    | none => none
    | some r => match sops P md ops nt l r.fr r.hp r.n r.sc with
      | none => none
      | some q => some ⟨q.fr, q.hp, r.gs ++ q.gs, r.ws ++ q.ws, r.vc ++ q.vc, q.n, q.sc⟩

def lens : List (List Nat × List Nat) → Bool := fun l => l.all fun (a, b) => a.length == b.length

theorem sop_len {P : Program} {md : Bool} {ops : Array Oper} {nt i : Nat} {fr : Fr} {hp : Hp} {n : Option Nat} {sc : List Nat} {r : Rs} (h : sop P md ops nt i fr hp n sc = some r) : r.gs.length = r.ws.length := by
  have key : ∀ {α : Type} (s : Sem α) (sc : List Nat) (n : Option Nat) (hp : Hp) (x : α) (hp' : Hp) (gs ws : List Nat) (n' : Option Nat) (sc' : List Nat),
      srun P s sc n hp = some (x, hp', gs, ws, n', sc') → gs.length = ws.length := by
    intro α s
    induction s with
    | pure a => intro sc n hp x hp' gs ws n' sc' h; simp only [srun, Option.some.injEq, Prod.mk.injEq] at h; obtain ⟨_, _, rfl, rfl, _⟩ := h; rfl
    | load m a k ih =>
      intro sc n hp x hp' gs ws n' sc' h
      cases sc with
      | nil => simp [srun] at h
      | cons i sc =>
        simp only [srun] at h
        split at h <;> try cases h
        split at h <;> try cases h
        split at h <;> try cases h
        rename_i hr
        simpa using ih _ _ _ _ _ _ _ _ _ _ hr
    | store m a v k ih =>
      intro sc n hp x hp' gs ws n' sc' h
      cases sc with
      | nil => simp [srun] at h
      | cons i sc =>
        simp only [srun] at h
        split at h <;> try cases h
        split at h <;> try cases h
        split at h <;> try cases h
        split at h <;> try cases h
        rename_i hr
        simpa using ih _ _ _ _ _ _ _ _ _ hr
    | new o k ih =>
      intro sc n hp x hp' gs ws n' sc' h
      cases n with
      | none => simp [srun] at h
      | some m =>
        simp only [srun] at h
        split at h <;> try cases h
        exact ih _ _ _ _ _ _ _ _ _ _ h
    | shape r k ih =>
      intro sc n hp x hp' gs ws n' sc' h
      cases sc with
      | nil => simp [srun] at h
      | cons i sc =>
        simp only [srun] at h
        split at h <;> try cases h
        split at h <;> try cases h
        rename_i hr
        simpa using ih _ _ _ _ _ _ _ _ _ _ hr
    | frozen a k ih =>
      intro sc n hp x hp' gs ws n' sc' h
      cases sc with
      | nil => simp [srun] at h
      | cons i sc =>
        simp only [srun] at h
        split at h <;> try cases h
        split at h <;> try cases h
        split at h <;> try cases h
        rename_i hr
        simpa using ih _ _ _ _ _ _ _ _ _ _ hr
    | freeze a z k ih =>
      intro sc n hp x hp' gs ws n' sc' h
      cases sc with
      | nil => simp [srun] at h
      | cons i sc =>
        simp only [srun] at h
        split at h <;> try cases h
        split at h <;> try cases h
        split at h <;> try cases h
        rename_i hr
        simpa using ih _ _ _ _ _ _ _ _ _ hr
    | program k ih =>
      intro sc n hp x hp' gs ws n' sc' h
      have h' : srun P (k P) sc n hp = some (x, hp', gs, ws, n', sc') := by cases sc <;> cases n <;> exact h
      exact ih _ _ _ _ _ _ _ _ _ _ h'
    | mark m k ih =>
      intro sc n hp x hp' gs ws n' sc' h
      have h' : srun P k sc n hp = some (x, hp', gs, ws, n', sc') := by cases sc <;> cases n <;> exact h
      exact ih _ _ _ _ _ _ _ _ _ h'
    | getObj r k ih => intro sc n hp x hp' gs ws n' sc' h; cases sc <;> cases n <;> simp [srun] at h
    | setObj r o k ih => intro sc n hp x hp' gs ws n' sc' h; cases sc <;> cases n <;> simp [srun] at h
    | choose q k ih => intro sc n hp x hp' gs ws n' sc' h; cases sc <;> cases n <;> simp [srun] at h
    | sys c k ih => intro sc n hp x hp' gs ws n' sc' h; cases sc <;> cases n <;> simp [srun] at h
    | halt h => intro sc n hp x hp' gs ws n' sc' h; cases sc <;> cases n <;> simp [srun] at h
  unfold sop at h
  split at h
  · cases h
  · split at h
    · cases h; rfl
    · split at h
      · cases h
      · split at h
        · cases h; rfl
        · split at h
          · cases h; rename_i hr; exact key _ _ _ _ _ _ _ _ _ _ hr
          · cases h; rename_i hr; exact key _ _ _ _ _ _ _ _ _ _ hr
          · cases h
    · cases h

theorem sops_sound {Γ : Cx} {md : Bool} {ops : Array Oper} {Q : Exit → Act → World → Prop} (l : List Nat) : ∀ {fr : Fr} {hp : Hp} {n : Option Nat} {sc : List Nat} {r : Rs},
    sops Γ.P md ops Γ.nt l fr hp n sc = some r → r.gs = r.ws → AllP r.vc → ∀ {a : Act} {w : World}, Sat Γ ⟨fr, hp⟩ a w → Fresh n w →
    ∀ {rest : List Nat}, (∀ a' w', Sat Γ ⟨r.fr, r.hp⟩ a' w' → Fresh r.n w' → wpOps Γ.P ops Q rest a' w') → wpOps Γ.P ops Q (l ++ rest) a w := by
  induction l with
  | nil =>
    intro fr hp n sc r h _ _ a w hS hn rest hK
    simp only [sops, Option.some.injEq] at h
    subst h
    exact hK a w hS hn
  | cons i l ih =>
    intro fr hp n sc r h he hv a w hS hn rest hK
    simp only [sops] at h
    split at h
    · cases h
    · rename_i r1 h1
      split at h
      · cases h
      · rename_i q h2
        simp only [Option.some.injEq] at h
        subst h
        obtain ⟨e1, e2⟩ := List.append_inj he (sop_len h1)
        obtain ⟨v1, v2⟩ := allP_append.1 hv
        rw [List.cons_append, wpOps_cons]
        exact sop_sound h1 e1 v1 hS hn fun a' w' hS' hn' => ih h2 e2 v2 hS' hn' hK

end Go.Sx
