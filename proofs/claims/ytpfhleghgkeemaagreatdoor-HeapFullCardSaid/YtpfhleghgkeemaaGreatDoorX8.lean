import Derived.Test.YtpfhleghgkeemaaGreatDoorX7
/-
  The same steps, read off the code by evaluation.
-/
namespace Go.Sx
open Go
set_option linter.unusedVariables false
set_option linter.unusedSimpArgs false
variable {P : Program} {Γ : Cx} {Q : Exit → Act → World → Prop} {s : St}

theorem wpr_eq {ops : Array Oper} {i : Nat} {l₂ : List Nat} {t : St} (st : Step Γ ops i s (fun s' => s' = t)) (h : WpR Γ ops l₂ t Q) : WpR Γ ops (i :: l₂) s Q :=
  wpr_step st fun s' hs' => by subst hs'; exact h
theorem wpa_eq {ops : Array Oper} {hs : Hp} {li : Array Bool} {i n : Nat} {t : St} (hr : Region.ready .any ops li = [i]) (st : Step Γ ops i s (fun s' => s' = t)) (hsub : Sub hs t.hp)
    (h : WpA Γ ops hs n (li.setIfInBounds i true) t Q) : WpA Γ ops hs (n + 1) li s Q :=
  wpa_step hr st (fun s' hs' => by subst hs'; exact hsub) fun s' hs' => by subst hs'; exact h

def convOf (ops : Array Oper) (nt i : Nat) (fr : Fr) : Option (TypeId × TypeId × Value × Option Nat) :=
  match opAt ops nt i fr with
  | some o => match o.op with | .convert a b x => some (a, b, ev fr x, o.dst) | _ => none
  | none => none
def loadOf (ops : Array Oper) (nt i : Nat) (fr : Fr) : Option (TypeId × Value × Option Nat) :=
  match opAt ops nt i fr with
  | some o => match o.op with | .load t p => some (t, ev fr p, o.dst) | _ => none
  | none => none
def storeOf (ops : Array Oper) (nt i : Nat) (fr : Fr) : Option (TypeId × Value × Value × Option Nat) :=
  match opAt ops nt i fr with
  | some o => match o.op with | .store t p x => some (t, ev fr p, ev fr x, o.dst) | _ => none
  | none => none
def b2sTy (P : Program) (a b : TypeId) : Bool :=
  match P.underlying a, P.underlying b with
  | some (.slice e), some .string => match P.underlying e with | some (.int .u8) => true | _ => false
  | _, _ => false
def s2bTy (P : Program) (a b : TypeId) : Option TypeId :=
  match P.underlying a, P.underlying b with
  | some .string, some (.slice e) =>
    match P.underlying e, P.info? e with
    | some (.int .u8), some i => (match i.size == 1 with | true => some e | false => none)
    | _, _ => none
  | _, _ => none

theorem b2s {ops : Array Oper} {i : Nat} {a b : TypeId} {ad : Option Addr} {n c : Nat} {dst : Option Nat} (hc : convOf ops Γ.nt i s.fr = some (a, b, .slice ad n c, dst)) (ht : b2sTy Γ.P a b = true) (l : List UInt8) (hn : n = l.length)
    (hl : ∀ w, HS s.hp w → (ad = none → l = []) ∧ ∀ x, ad = some x → cellsAt w x (u8s l)) : Step Γ ops i s (fun s' => s' = ⟨putFr s.fr dst (.string (mkS l)), s.hp⟩) := by
  unfold convOf at hc
  split at hc
  · rename_i o ho
    split at hc
    · rename_i a' b' x hop
      simp only [Option.some.injEq, Prod.mk.injEq] at hc
      obtain ⟨rfl, rfl, hx, rfl⟩ := hc
      unfold b2sTy at ht
      split at ht
      · rename_i e hs hd
        split at ht
        · rename_i he
          exact step_b2s ho a' b' x hop hs he hd hx l hn hl
        · cases ht
      · cases ht
    · cases hc
  · cases hc

theorem ld {ops : Array Oper} {i : Nat} {t : TypeId} {a : Addr} {dst : Option Nat} (hc : loadOf ops Γ.nt i s.fr = some (t, .pointer (some a), dst)) (b : Bool) (k : Nat) (ht : aggTy Γ.P t = some (b, k)) (hb : b = false → k = 1) (vs : List Value) (hv : vs.length = k)
    (hl : ∀ w, HS s.hp w → cellsAt w a vs) : Step Γ ops i s (fun s' => s' = ⟨putFr s.fr dst (valOf b vs), s.hp⟩) := by
  unfold loadOf at hc
  split at hc
  · rename_i o ho
    split at hc
    · rename_i t' p hop
      simp only [Option.some.injEq, Prod.mk.injEq] at hc
      obtain ⟨rfl, hp, rfl⟩ := hc
      exact step_load ho t' p hop a hp b k ht hb vs hv hl
    · cases hc
  · cases hc

theorem stq {ops : Array Oper} {i : Nat} {t : TypeId} {g off q : Nat} {v : Value} {dst : Option Nat} (hc : storeOf ops Γ.nt i s.fr = some (t, .pointer (some ⟨g, off + q, none⟩), v, dst)) (pi : Nat) {T sz n cap : Nat} {xs : List Value} (hpi : s.hp[pi]? = some (row T sz (some ⟨g, off, none⟩) n cap xs))
    (vs : List Value) (hvs : v.cells = vs.toArray) (hk : (Γ.P.info? t).map (·.size) = some vs.length) (h1 : One vs) (hq : q + vs.length ≤ xs.length) :
    Step Γ ops i s (fun s' => s' = ⟨putFr s.fr dst undef, s.hp.set pi (row T sz (some ⟨g, off, none⟩) n cap (xs.take q ++ vs ++ xs.drop (q + vs.length)))⟩) := by
  unfold storeOf at hc
  split at hc
  · rename_i o ho
    split at hc
    · rename_i t' p x hop
      simp only [Option.some.injEq, Prod.mk.injEq] at hc
      obtain ⟨rfl, hp, hx, rfl⟩ := hc
      obtain ⟨inf, hi, hk'⟩ := Option.map_eq_some_iff.1 hk
      exact step_store ho t' p x hop pi hpi q hp vs (by rw [hx]; exact hvs) inf hi hk' h1 hq
    · cases hc
  · cases hc

end Go.Sx
