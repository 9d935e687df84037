import Derived.Test.YtpfhleghgkeemaaGreatDoorX4
import Derived.Tactics
/-
  Regions, code, calls: the rules.
-/
namespace Go.Sx
open Go
set_option linter.unusedVariables false
set_option linter.unusedSimpArgs false

class PanicOk (Q : Exit → Act → World → Prop) : Prop where
  ok : ∀ c (a a' : Act) w, a.defers = a'.defers → Q (.panic c) a w → Q (.panic c) a' w
instance {P : Program} {fn : Func} {R : Ending → World → Prop} : PanicOk (bodyPost P fn R) := ⟨fun c a a' w h q => ⟨h ▸ q.1, q.2⟩⟩
instance {K : Act → World → Prop} {Q : Exit → Act → World → Prop} [PanicOk Q] : PanicOk (Exit.then K Q) := ⟨fun c a a' w h q => PanicOk.ok (Q := Q) c a a' w h q⟩
instance {id : Nat} {Q : Exit → Act → World → Prop} [PanicOk Q] : PanicOk (Exit.inBlock id Q) := ⟨fun c a a' w h q => PanicOk.ok (Q := Q) c a a' w h q⟩

def WpC (Γ : Cx) (c : Code) (s : St) (Q : Exit → Act → World → Prop) : Prop := ∀ a w, Sat Γ s a w → c.wp Γ.P Q a w
def WpR (Γ : Cx) (ops : Array Oper) (l : List Nat) (s : St) (Q : Exit → Act → World → Prop) : Prop := ∀ a w, Sat Γ s a w → wpOps Γ.P ops Q l a w
def WpA (Γ : Cx) (ops : Array Oper) (hs : Hp) (fuel : Nat) (listed : Array Bool) (s : St) (Q : Exit → Act → World → Prop) : Prop :=
  ∀ a w, Sat Γ s a w → HL hs w → wpAnyH Γ.P .any ops Q (HL hs) fuel listed a w
def Nx (Γ : Cx) (s : St) (Q : Exit → Act → World → Prop) (e : Exit) : Prop := ∀ a w, Sat Γ s a w → Q e a w

variable {Γ : Cx} {Q : Exit → Act → World → Prop} {s : St}

/-! ### code -/
theorem wpc_seq {x y : Code} (h : WpC Γ x s (Exit.then (fun a w => y.wp Γ.P Q a w) Q)) : WpC Γ (.seq x y) s Q := fun a w hS => wp_seq (h a w hS)
theorem wpc_skip (h : Nx Γ s Q .normal) : WpC Γ .skip s Q := fun a w hS => wp_skip (h a w hS)
theorem wpc_ret (h : Nx Γ s Q .ret) : WpC Γ .ret s Q := fun a w hS => wp_ret (h a w hS)
theorem wpc_exit {id : Nat} (h : Nx Γ s Q (.exit id)) : WpC Γ (.exit id) s Q := fun a w hS => wp_exit (h a w hS)
theorem wpc_block {id : Nat} {c : Code} (h : WpC Γ c s (Exit.inBlock id Q)) : WpC Γ (.block id c) s Q := fun a w hS => wp_block (h a w hS)
theorem wpc_region {id : Nat} {ops : Array Oper} (l : List Nat) (hl : List.range ops.size = l) (h : WpR Γ ops l s Q) : WpC Γ (.region id ops false) s Q :=
  fun a w hS => wp_region (by rw [hl]; exact h a w hS)
theorem wpr_nil {ops : Array Oper} (h : Nx Γ s Q .normal) : WpR Γ ops [] s Q := fun a w hS => h a w hS

theorem nx_then {y : Code} (h : WpC Γ y s Q) : Nx Γ s (Exit.then (fun a w => y.wp Γ.P Q a w) Q) .normal := fun a w hS => h a w hS
theorem nx_then' {K : Act → World → Prop} (h : ∀ a w, Sat Γ s a w → K a w) : Nx Γ s (Exit.then K Q) .normal := fun a w hS => h a w hS
theorem nx_then_exit {K : Act → World → Prop} {id : Nat} (h : Nx Γ s Q (.exit id)) : Nx Γ s (Exit.then K Q) (.exit id) := fun a w hS => h a w hS
theorem nx_then_ret {K : Act → World → Prop} (h : Nx Γ s Q .ret) : Nx Γ s (Exit.then K Q) .ret := fun a w hS => h a w hS
theorem nx_block {id : Nat} (h : Nx Γ s Q .normal) : Nx Γ s (Exit.inBlock id Q) .normal := fun a w hS => h a w hS
theorem nx_block_ret {id : Nat} (h : Nx Γ s Q .ret) : Nx Γ s (Exit.inBlock id Q) .ret := fun a w hS => h a w hS
theorem nx_block_here {id : Nat} (h : Nx Γ s Q .normal) : Nx Γ s (Exit.inBlock id Q) (.exit id) := fun a w hS => by simpa [Exit.inBlock] using h a w hS
theorem nx_block_far {id id' : Nat} (hne : (id' == id) = false) (h : Nx Γ s Q (.exit id')) : Nx Γ s (Exit.inBlock id Q) (.exit id') := fun a w hS => by
  have : id' ≠ id := by simpa using hne
  simpa [Exit.inBlock, this] using h a w hS

/-! ### knowing less, or the same in other words -/
theorem Sat.weaken {s' : St} {a : Act} {w : World} (h : Sat Γ s a w) (hf : s'.fr.map (fun p => look s.fr p.1) = s'.fr.map (fun p => some p.2)) (hh : HS s'.hp w) (hb : Bd s'.hp Γ.F Γ.w0.heap.size) : Sat Γ s' a w where
  size := h.size
  defers := h.defers
  fr := fun i v hi => by
    have key : ∀ l : Fr, l.map (fun p => look s.fr p.1) = l.map (fun p => some p.2) → look l i = some v → look s.fr i = some v := by
      intro l
      induction l with
      | nil => intro _ h; cases h
      | cons p l ih =>
        obtain ⟨j, u⟩ := p
        intro he hl
        simp only [List.map_cons, List.cons.injEq] at he
        simp only [look] at hl
        split at hl
        · rename_i e; subst e; rw [← hl]; exact he.1
        · exact ih he.2 hl
    exact h.fr i v (key _ hf hi)
  hs := hh
  ext := h.ext
  bd := hb

theorem Sat.frames {fr' : Fr} {a : Act} {w : World} (h : Sat Γ s a w) (hf : fr'.map (fun p => look s.fr p.1) = fr'.map (fun p => some p.2)) : Sat Γ ⟨fr', s.hp⟩ a w :=
  h.weaken hf h.hs h.bd

/-- Ent: whoever meets s meets s'. -/
def Ent (Γ : Cx) (s s' : St) : Prop := ∀ a w, Sat Γ s a w → Sat Γ s' a w
theorem wpc_ent {s' : St} {c : Code} (e : Ent Γ s s') (h : WpC Γ c s' Q) : WpC Γ c s Q := fun a w hS => h a w (e a w hS)
theorem wpr_ent {s' : St} {ops : Array Oper} {l : List Nat} (e : Ent Γ s s') (h : WpR Γ ops l s' Q) : WpR Γ ops l s Q := fun a w hS => h a w (e a w hS)
theorem nx_ent {s' : St} {x : Exit} (e : Ent Γ s s') (h : Nx Γ s' Q x) : Nx Γ s Q x := fun a w hS => h a w (e a w hS)
theorem ent_fr {fr fr' : Fr} {hp : Hp} (hf : fr'.map (fun p => look fr p.1) = fr'.map (fun p => some p.2)) : Ent Γ ⟨fr, hp⟩ ⟨fr', hp⟩ := fun a w hS => hS.frames hf
theorem Ent.trans {s₁ s₂ s₃ : St} (h : Ent Γ s₁ s₂) (k : Ent Γ s₂ s₃) : Ent Γ s₁ s₃ := fun a w hS => k a w (h a w hS)

/-- A fact that the state bears out may be used. -/
theorem wpc_fact {c : Code} {p : Prop} (hp : ∀ w, HS s.hp w → p) (h : p → WpC Γ c s Q) : WpC Γ c s Q := fun a w hS => h (hp w hS.hs) a w hS
theorem wpr_fact {ops : Array Oper} {l : List Nat} {p : Prop} (hp : ∀ w, HS s.hp w → p) (h : p → WpR Γ ops l s Q) : WpR Γ ops l s Q := fun a w hS => h (hp w hS.hs) a w hS
theorem nx_fact {e : Exit} {p : Prop} (hp : ∀ w, HS s.hp w → p) (h : p → Nx Γ s Q e) : Nx Γ s Q e := fun a w hS => h (hp w hS.hs) a w hS

/-! ### a test -/
theorem wpc_cond {c : Operand} {x y : Code} (b : Bool) (hc : (match c with | .tmp t => look s.fr t | c => some (ev [] c)) = some (.bool b)) (ht : b = true → WpC Γ x s Q) (hf : b = false → WpC Γ y s Q) : WpC Γ (.cond c x y) s Q := fun a w hS => by
  have hev : a.eval c = .bool b := by
    cases c with
    | tmp t => exact hS.fr t _ hc
    | const v => exact Option.some.inj hc
    | global g => simp [ev] at hc
    | func f => simp [ev] at hc
  exact wp_cond_split hev (fun h => ht h a w hS) (fun h => hf h a w hS)

theorem wpc_if {c : Operand} {x y : Code} (p : Prop) [d : Decidable p] (hc : (match c with | .tmp t => look s.fr t | c => some (ev [] c)) = some (.bool (decide p))) (ht : p → WpC Γ x s Q) (hf : ¬ p → WpC Γ y s Q) : WpC Γ (.cond c x y) s Q :=
  wpc_cond (decide p) hc (fun h => ht (of_decide_eq_true h)) (fun h => hf (of_decide_eq_false h))
theorem wpc_true {c : Operand} {x y : Code} (hc : (match c with | .tmp t => look s.fr t | c => some (ev [] c)) = some (.bool true)) (h : WpC Γ x s Q) : WpC Γ (.cond c x y) s Q :=
  wpc_cond true hc (fun _ => h) (fun h => by cases h)
theorem wpc_false {c : Operand} {x y : Code} (hc : (match c with | .tmp t => look s.fr t | c => some (ev [] c)) = some (.bool false)) (h : WpC Γ y s Q) : WpC Γ (.cond c x y) s Q :=
  wpc_cond false hc (fun h => by cases h) (fun _ => h)

/-- A test that a later operation waits for: decided. -/
theorem Sat.setBool {a : Act} {w : World} (h : Sat Γ s a w) {d : Nat} {b c : Bool} (hd : look s.fr d = some (.bool b)) (hb : b = c) : Sat Γ ⟨(d, .bool c) :: s.fr, s.hp⟩ a w := by
  subst hb
  refine ⟨h.size, h.defers, fun i v hi => ?_, h.hs, h.ext, h.bd⟩
  simp only [look] at hi
  split at hi
  · rename_i e; subst e; rw [← Option.some.inj hi]; exact h.fr _ _ hd
  · exact h.fr _ _ hi
theorem ent_set {fr : Fr} {hp : Hp} (d : Nat) (v v' : Value) (hd : look fr d = some v) (h : v = v') : Ent Γ ⟨fr, hp⟩ ⟨(d, v') :: fr, hp⟩ := fun a w hS => by
  subst h
  refine ⟨hS.size, hS.defers, fun i u hi => ?_, hS.hs, hS.ext, hS.bd⟩
  simp only [look] at hi
  split at hi
  · rename_i e; subst e; rw [← Option.some.inj hi]; exact hS.fr _ _ hd
  · exact hS.fr _ _ hi
theorem wpa_ent {s' : St} {ops : Array Oper} {hs : Hp} {n : Nat} {li : Array Bool} (e : Ent Γ s s') (h : WpA Γ ops hs n li s' Q) : WpA Γ ops hs n li s Q := fun a w hS hL => h a w (e a w hS) hL
/-- Ways that meet again. -/
theorem wpr_join {ops : Array Oper} {l : List Nat} (s' : St) (h1 : ∀ Q', PanicOk Q' → Nx Γ s' Q' .normal → WpR Γ ops l s Q') [hQ : PanicOk Q] (h2 : Nx Γ s' Q .normal) : WpR Γ ops l s Q := h1 Q hQ h2
theorem wpa_join {ops : Array Oper} {hs : Hp} {n : Nat} {li : Array Bool} (s' : St) (h1 : ∀ Q', PanicOk Q' → Nx Γ s' Q' .normal → WpA Γ ops hs n li s Q') [hQ : PanicOk Q] (h2 : Nx Γ s' Q .normal) : WpA Γ ops hs n li s Q := h1 Q hQ h2
theorem wpc_join {c : Code} (s' : St) (h1 : ∀ Q', PanicOk Q' → Nx Γ s' Q' .normal → WpC Γ c s Q') [hQ : PanicOk Q] (h2 : Nx Γ s' Q .normal) : WpC Γ c s Q := h1 Q hQ h2
theorem wpr_case {ops : Array Oper} {l : List Nat} (d : Nat) (b : Bool) (hd : look s.fr d = some (.bool b)) (ht : b = true → WpR Γ ops l ⟨(d, .bool true) :: s.fr, s.hp⟩ Q) (hf : b = false → WpR Γ ops l ⟨(d, .bool false) :: s.fr, s.hp⟩ Q) : WpR Γ ops l s Q := fun a w hS => by
  cases h : b
  · exact hf h a w (hS.setBool hd h)
  · exact ht h a w (hS.setBool hd h)
theorem wpa_case {ops : Array Oper} {hs : Hp} {n : Nat} {li : Array Bool} (d : Nat) (b : Bool) (hd : look s.fr d = some (.bool b)) (ht : b = true → WpA Γ ops hs n li ⟨(d, .bool true) :: s.fr, s.hp⟩ Q) (hf : b = false → WpA Γ ops hs n li ⟨(d, .bool false) :: s.fr, s.hp⟩ Q) : WpA Γ ops hs n li s Q := fun a w hS hL => by
  cases h : b
  · exact hf h a w (hS.setBool hd h) hL
  · exact ht h a w (hS.setBool hd h) hL

theorem wpr_casep {ops : Array Oper} {l : List Nat} (d : Nat) (p : Prop) [Decidable p] (hd : look s.fr d = some (.bool (decide p))) (ht : p → WpR Γ ops l ⟨(d, .bool true) :: s.fr, s.hp⟩ Q) (hf : ¬ p → WpR Γ ops l ⟨(d, .bool false) :: s.fr, s.hp⟩ Q) : WpR Γ ops l s Q :=
  wpr_case d _ hd (fun h => ht (of_decide_eq_true h)) (fun h => hf (of_decide_eq_false h))
theorem wpa_casep {ops : Array Oper} {hs : Hp} {n : Nat} {li : Array Bool} (d : Nat) (p : Prop) [Decidable p] (hd : look s.fr d = some (.bool (decide p))) (ht : p → WpA Γ ops hs n li ⟨(d, .bool true) :: s.fr, s.hp⟩ Q) (hf : ¬ p → WpA Γ ops hs n li ⟨(d, .bool false) :: s.fr, s.hp⟩ Q) : WpA Γ ops hs n li s Q :=
  wpa_case d _ hd (fun h => ht (of_decide_eq_true h)) (fun h => hf (of_decide_eq_false h))

/-! ### plain regions -/
/-- What a run must come to: what is kept of the frame, the heap, what is owed. -/
def Comes (r : Option Rs) (fr' : Fr) (hp' : Hp) (vc : List Prop) : Prop :=
  r.isSome = true ∧ r.map (fun r => (fr'.map (fun p => look r.fr p.1), r.hp, r.gs, r.vc)) = r.map (fun r => (fr'.map (fun p => some p.2), hp', r.ws, vc))

theorem wpr_run {ops : Array Oper} (md : Bool) (l₁ : List Nat) {l₂ : List Nat} (sc : List Nat) (fr' : Fr) (hp' : Hp) (vc : List Prop)
    (h1 : (sops Γ.P md ops Γ.nt l₁ s.fr s.hp none sc).isSome = true)
    (h2 : (sops Γ.P md ops Γ.nt l₁ s.fr s.hp none sc).map (fun r => (fr'.map (fun p => look r.fr p.1), r.hp, r.gs, r.vc)) = (sops Γ.P md ops Γ.nt l₁ s.fr s.hp none sc).map (fun r => (fr'.map (fun p => some p.2), hp', r.ws, vc)))
    (hv : AllP vc) (h : WpR Γ ops l₂ ⟨fr', hp'⟩ Q) : WpR Γ ops (l₁ ++ l₂) s Q := fun a w hS => by
  obtain ⟨r, hr⟩ := Option.isSome_iff_exists.1 h1
  rw [hr] at h2
  simp only [Option.map_some, Option.some.injEq, Prod.mk.injEq] at h2
  obtain ⟨h3, h4, h5, h6⟩ := h2
  refine sops_sound l₁ hr h5 (h6 ▸ hv) hS (fun m hm => by cases hm) fun a' w' hS' _ => ?_
  rw [h4] at hS'
  exact h a' w' (hS'.frames h3)

/-- The same, where one new block may be made: its number is g. -/
theorem wpr_new {ops : Array Oper} (md : Bool) (l₁ : List Nat) {l₂ : List Nat} (sc : List Nat) (fr' : Nat → Fr) (hp' : Nat → Hp) (vc : Nat → List Prop)
    (h1 : ∀ g, (sops Γ.P md ops Γ.nt l₁ s.fr s.hp (some g) sc).isSome = true)
    (h2 : ∀ g, (sops Γ.P md ops Γ.nt l₁ s.fr s.hp (some g) sc).map (fun r => ((fr' g).map (fun p => look r.fr p.1), r.hp, r.gs, r.vc)) = (sops Γ.P md ops Γ.nt l₁ s.fr s.hp (some g) sc).map (fun r => ((fr' g).map (fun p => some p.2), hp' g, r.ws, vc g)))
    (hv : ∀ g, AllP (vc g)) (h : ∀ g, WpR Γ ops l₂ ⟨fr' g, hp' g⟩ Q) : WpR Γ ops (l₁ ++ l₂) s Q := fun a w hS => by
  obtain ⟨r, hr⟩ := Option.isSome_iff_exists.1 (h1 w.heap.size)
  have h2 := h2 w.heap.size
  rw [hr] at h2
  simp only [Option.map_some, Option.some.injEq, Prod.mk.injEq] at h2
  obtain ⟨h3, h4, h5, h6⟩ := h2
  refine sops_sound l₁ hr h5 (h6 ▸ hv _) hS (fun m hm => by cases hm; rfl) fun a' w' hS' _ => ?_
  rw [h4] at hS'
  exact h _ a' w' (hS'.frames h3)

/-! ### handing a part of the heap over -/
structure Give (hp pre rest : Hp) : Prop where
  sat : ∀ w, HS hp w → HS pre w ∧ HS rest w ∧ ∀ c ∈ rest, ∀ d ∈ pre, d.rw → ∀ k, c.own k → ¬ d.own k
  foot : ∀ k, Sx.foot pre k → Sx.foot hp k
  sub : ∀ c ∈ rest, c ∈ hp

theorem HS.perm {hp hp' : Hp} {w : World} (h : HS hp w) (e : hp.Perm hp') : HS hp' w :=
  ⟨fun c hc => h.holds c (e.mem_iff.2 hc), (e.pairwise_iff (fun h => Apart.symm h)).1 h.apart⟩
theorem HS.split {hp hp' : Hp} {w : World} (h : HS (hp ++ hp') w) : HS hp w ∧ HS hp' w ∧ ∀ c ∈ hp, ∀ d ∈ hp', Apart c d := by
  obtain ⟨h1, h2⟩ := h
  rw [List.pairwise_append] at h2
  exact ⟨⟨fun c hc => h1 c (List.mem_append.2 (.inl hc)), h2.1⟩, ⟨fun c hc => h1 c (List.mem_append.2 (.inr hc)), h2.2.1⟩, h2.2.2⟩
theorem HS.join {hp hp' : Hp} {w : World} (h : HS hp w) (h' : HS hp' w) (ha : ∀ c ∈ hp, ∀ d ∈ hp', Apart c d) : HS (hp ++ hp') w :=
  ⟨fun c hc => (List.mem_append.1 hc).elim (h.holds c) (h'.holds c), List.pairwise_append.2 ⟨h.apart, h'.apart, ha⟩⟩

/-- The chunks at these places (each place counted in what is left), and the rest. -/
def picks : List Nat → Hp → Option (Hp × Hp)
  | [], hp => some ([], hp)
  | i :: is, hp => match hp[i]? with
    | none => none
    | some c => match picks is (hp.eraseIdx i) with
      | none => none
      | some (pre, rest) => some (c :: pre, rest)
theorem perm_erase {α : Type _} : ∀ (l : List α) (i : Nat) (h : i < l.length), l.Perm (l[i] :: l.eraseIdx i)
  | a :: l, 0, _ => List.Perm.refl _
  | a :: l, i + 1, h => ((perm_erase l i (by simpa using h)).cons a).trans (List.Perm.swap _ _ _)
theorem picks_perm (is : List Nat) : ∀ {hp pre rest : Hp}, picks is hp = some (pre, rest) → hp.Perm (pre ++ rest) := by
  induction is with
  | nil => intro hp pre rest h; simp only [picks, Option.some.injEq, Prod.mk.injEq] at h; obtain ⟨rfl, rfl⟩ := h; exact List.Perm.refl _
  | cons i is ih =>
    intro hp pre rest h
    simp only [picks] at h
    split at h
    · cases h
    · rename_i c hc
      split at h
      · cases h
      · rename_i pre' rest' h'
        simp only [Option.some.injEq, Prod.mk.injEq] at h
        obtain ⟨rfl, rfl⟩ := h
        obtain ⟨hlt, rfl⟩ := List.getElem?_eq_some_iff.1 hc
        exact (perm_erase _ _ hlt).trans ((ih h').cons _)

theorem Give.of_perm {hp pre rest : Hp} (e : hp.Perm (pre ++ rest)) : Give hp pre rest where
  sat := fun w h => by
    obtain ⟨h1, h2, h3⟩ := (h.perm e).split
    refine ⟨h1, h2, fun c hc d hd hr k hk hk' => ?_⟩
    rcases h3 d hd c hc with ⟨h4, _⟩ | h4
    · exact h4 hr
    · exact h4 k hk' hk
  foot := fun k ⟨c, hc, hr, hk⟩ => ⟨c, e.mem_iff.2 (List.mem_append.2 (.inl hc)), hr, hk⟩
  sub := fun c hc => e.mem_iff.2 (List.mem_append.2 (.inr hc))
theorem give {hp : Hp} (is : List Nat) {pre rest : Hp} (h : picks is hp = some (pre, rest)) : Give hp pre rest := .of_perm (picks_perm is h)

theorem give_all {hp : Hp} : Give hp hp [] := .of_perm (by simp)

/-- c' is c, seen by whoever reads alone. -/
structure View (c c' : Ch) : Prop where
  holds : ∀ w, c.holds w → c'.holds w
  own : ∀ w, c.holds w → ∀ k, c'.own k → c.own k
  ro : ¬ c'.rw
theorem Give.view {hp pre rest : Hp} (h : Give hp pre rest) (i : Nat) {c c' : Ch} (hc : rest[i]? = some c) (v : View c c') : Give hp (c' :: pre) rest where
  sat := fun w hw => by
    obtain ⟨h1, h2, h3⟩ := h.sat w hw
    have hm := List.mem_of_getElem? hc
    refine ⟨⟨fun d hd => ?_, List.pairwise_cons.2 ⟨fun d hd => ?_, h1.apart⟩⟩, h2, fun d hd e he hr k hk => ?_⟩
    · rcases List.mem_cons.1 hd with rfl | hd
      · exact v.holds w (h2.holds c hm)
      · exact h1.holds d hd
    · by_cases hr : d.rw
      · exact .inr fun k hk => h3 c hm d hd hr k (v.own w (h2.holds c hm) k hk)
      · exact .inl ⟨v.ro, hr⟩
    · rcases List.mem_cons.1 he with rfl | he
      · exact absurd hr v.ro
      · exact h3 d hd e he hr k hk
  foot := fun k ⟨d, hd, hr, hk⟩ => by
    rcases List.mem_cons.1 hd with rfl | hd
    · exact absurd hr v.ro
    · exact h.foot k ⟨d, hd, hr, hk⟩
  sub := h.sub

theorem Give.reorder {hp pre pre' rest : Hp} (g : Give hp pre rest) (is : List Nat) (h : picks is pre = some (pre', [])) : Give hp pre' rest where
  sat := fun w hw => by
    obtain ⟨h1, h2, h3⟩ := g.sat w hw
    have e := picks_perm is h
    rw [List.append_nil] at e
    exact ⟨h1.perm e, h2, fun c hc d hd => h3 c hc d (e.mem_iff.2 hd)⟩
  foot := fun k ⟨c, hc, hr, hk⟩ => by
    have e := picks_perm is h
    rw [List.append_nil] at e
    exact g.foot k ⟨c, e.mem_iff.2 hc, hr, hk⟩
  sub := g.sub

/-! ### calls -/
/-- What stands behind a call that was handed pre. -/
def Post (w : World) (pre : Hp) (R : Value → Hp → Prop) (e : Ending) (w' : World) : Prop :=
  ∃ v hp', R v hp' ∧ e = .returned v ∧ HS hp' w' ∧ Ext w w' (foot pre) ∧ Bd hp' (foot pre) w.heap.size ∧ ∀ c ∈ hp', c.rw
def Does (P : Program) (f : FuncId) (args : List Value) (pre : Hp) (R : Value → Hp → Prop) : Prop :=
  ∀ w, HS pre w → Calls P f args.toArray w (Post w pre R)

theorem Does.mono {P : Program} {f : FuncId} {args : List Value} {pre : Hp} {R R' : Value → Hp → Prop} (h : Does P f args pre R) (k : ∀ v hp', R v hp' → R' v hp') : Does P f args pre R' :=
  fun w hw => (h w hw).mono fun e w' ⟨v, hp', hR, r⟩ => ⟨v, hp', k _ _ hR, r⟩

theorem Sat.behind {a : Act} {w w' : World} {pre rest hp' : Hp} (hS : Sat Γ s a w) (g : Give s.hp pre rest) (hhs : HS hp' w') (he : Ext w w' (foot pre)) (hb : Bd hp' (foot pre) w.heap.size) (hr : ∀ c ∈ hp', c.rw) :
    HS (hp' ++ rest) w' ∧ Ext Γ.w0 w' Γ.F ∧ Bd (hp' ++ rest) Γ.F Γ.w0.heap.size := by
  obtain ⟨h1, h2, h3⟩ := g.sat w hS.hs
  have hkeep : ∀ c ∈ rest, ∀ k, c.own k → k < w.heap.size ∧ ¬ foot pre k := fun c hc k hk =>
    ⟨c.lt (h2.holds c hc) hk, fun ⟨d, hd, hdr, hdk⟩ => h3 c hc d hd hdr k hk hdk⟩
  have hrest : HS rest w' := ⟨fun c hc => c.loc (fun k hk => he.block k (hkeep c hc k hk).1 (hkeep c hc k hk).2) (h2.holds c hc), h2.apart⟩
  have hF : ∀ k, foot pre k → Γ.F k ∨ Γ.w0.heap.size ≤ k := fun k hk => by
    obtain ⟨c, hc, hcr, hck⟩ := g.foot k hk
    exact hS.bd c hc hcr k hck
  refine ⟨hhs.join hrest fun c hc d hd => .inr fun k hk hk' => ?_, hS.ext.trans he hF, ?_⟩
  · rcases hb c hc (hr c hc) k hk with h | h
    · exact (hkeep d hd k hk').2 h
    · have := (hkeep d hd k hk').1; omega
  · intro c hc hcr k hk
    rcases List.mem_append.1 hc with hc | hc
    · rcases hb c hc hcr k hk with h | h
      · exact hF k h
      · exact .inr (Nat.le_trans hS.ext.size h)
    · exact hS.bd c (g.sub c hc) hcr k hk

/-- Which function is called, with what, and where the answer goes. -/
def callOf (P : Program) (ops : Array Oper) (nt : Nat) (i : Nat) (fr : Fr) : Option (FuncId × List Value × Option Nat) :=
  match ops[i]? with
  | none => none
  | some o =>
    match okDst nt o.dst, wants ops fr o, knownOp fr o with
    | true, some true, true => match sread P (execOp (ev fr) o) [] [] with
      | some (.enter f args, [], [], []) => some (f, args.toList, o.dst)
      | _ => none
    | _, _, _ => none

theorem callOf_sound {ops : Array Oper} {i : Nat} {f : FuncId} {args : List Value} {dst : Option Nat} (hc : callOf Γ.P ops Γ.nt i s.fr = some (f, args, dst))
    {pre rest : Hp} {R : Value → Hp → Prop} (hf : Does Γ.P f args pre R) (g : Give s.hp pre rest) {a : Act} {w : World} (hS : Sat Γ s a w) {K : Act → World → Prop}
    (hK : ∀ v hp', R v hp' → ∀ a' w', Sat Γ ⟨putFr s.fr dst v, hp' ++ rest⟩ a' w' → K a' w') : wpOp Γ.P ops Q i K a w := by
  unfold callOf at hc
  unfold wpOp
  split at hc
  · cases hc
  · rename_i o ho
    rw [ho]
    simp only
    split at hc
    · rename_i hd hw hk
      split at hc
      · rename_i f' args' hr
        simp only [Option.some.injEq, Prod.mk.injEq] at hc
        obtain ⟨rfl, rfl, rfl⟩ := hc
        rw [wants_ok hS.fr hw]
        simp only [if_true]
        refine .inl ?_
        unfold Oper.wp
        rw [ev_eq hS.fr hk, sread_sound _ _ _ _ _ _ _ hr rfl w (fun c hc => by cases hc)]
        refine Calls.mono (hf w (g.sat w hS.hs).1) ?_
        rintro e w' ⟨v, hp', hR, rfl, h1, h2, h3, h4⟩
        obtain ⟨k1, k2, k3⟩ := hS.behind g h1 h2 h3 h4
        exact hK v hp' hR _ _ ⟨(size_put _ _).trans hS.size, (defers_put _ _).trans hS.defers, FrOk.putFr hS.fr hS.size hd v, k1, k2, k3⟩
      · cases hc
    · cases hc

theorem wpr_call {ops : Array Oper} {i : Nat} {l₂ : List Nat} {f : FuncId} {args : List Value} {dst : Option Nat} (hc : callOf Γ.P ops Γ.nt i s.fr = some (f, args, dst))
    {pre rest : Hp} {R : Value → Hp → Prop} (hf : Does Γ.P f args pre R) (g : Give s.hp pre rest)
    (h : ∀ v hp', R v hp' → WpR Γ ops l₂ ⟨putFr s.fr dst v, hp' ++ rest⟩ Q) : WpR Γ ops (i :: l₂) s Q := fun a w hS => by
  rw [wpOps_cons]
  exact callOf_sound hc hf g hS fun v hp' hR a' w' hS' => h v hp' hR a' w' hS'

theorem wpr_call_all {ops : Array Oper} {i : Nat} {l₂ : List Nat} {f : FuncId} {args : List Value} {dst : Option Nat} (hc : callOf Γ.P ops Γ.nt i s.fr = some (f, args, dst))
    {pre : Hp} {R : Value → Hp → Prop} (hf : Does Γ.P f args pre R) (g : Give s.hp pre [])
    (h : ∀ v hp', R v hp' → WpR Γ ops l₂ ⟨putFr s.fr dst v, hp'⟩ Q) : WpR Γ ops (i :: l₂) s Q :=
  wpr_call hc hf g fun v hp' hR => by rw [List.append_nil]; exact h v hp' hR

/-! ### regions that draw their order -/
theorem Sat.drawn {a : Act} {w : World} (h : Sat Γ s a w) : Sat Γ s a { w with drawn := w.drawn + 1 } where
  size := h.size
  defers := h.defers
  fr := h.fr
  hs := ⟨fun c hc => c.loc (w := w) (fun _ _ => rfl) (h.hs.holds c hc), h.hs.apart⟩
  ext := ⟨h.ext.os, h.ext.tape, h.ext.output, h.ext.size, h.ext.block⟩
  bd := h.bd

/-- hs: what is read whenever it comes: none of the region's operations turns it. -/
def Sub (hs hp : Hp) : Prop := ∀ c ∈ hs, c ∈ hp
theorem sub_of {hs hp : Hp} (is : List Nat) (h : is.map (fun i => hp[i]?) = hs.map some) : Sub hs hp := fun c hc => by
  have h1 : some c ∈ hs.map some := List.mem_map.2 ⟨c, hc, rfl⟩
  rw [← h] at h1
  obtain ⟨i, _, hi⟩ := List.mem_map.1 h1
  exact List.mem_of_getElem? hi

theorem wpc_draw {id : Nat} {ops : Array Oper} (hm : Γ.P.follows .mixedOrders = true) (hs : Hp) (hsub : Sub hs s.hp) (n : Nat) (hn : ops.size = n) (h : WpA Γ ops hs n (Array.replicate n false) s Q) : WpC Γ (.region id ops true) s Q :=
  fun a w hS => wp_region_held hm (by rw [hn]; exact h a _ hS.drawn fun c hc => hS.drawn.hs.holds c (hsub c hc))

theorem wpa_done {ops : Array Oper} {hs : Hp} {listed : Array Bool} (n : Nat) (hr : Region.ready .any ops listed = []) (h : Nx Γ s Q .normal) : WpA Γ ops hs n listed s Q :=
  fun a w hS _ => wpAnyH_done hr (h a w hS) n

/-- Quiet operations, taken first: they read hs alone. -/
structure Qs where
  fr : Fr
  listed : Array Bool
  gs : List Nat
  ws : List Nat
  vc : List Prop
def stake (P : Program) (md : Bool) (ops : Array Oper) (nt : Nat) (hs : Hp) : List (Nat × List Nat) → Fr → Array Bool → Option Qs
  | [], fr, li => some ⟨fr, li, [], [], []⟩
  | (i, sc) :: l, fr, li =>
    match ops[i]? with
    | none => none
    | some o =>
      match okDst nt o.dst, (Region.ready .any ops li).contains i, Region.free .any ops li i with
      | true, true, true =>
        match wants ops fr o with
        | some false => stake P md ops nt hs l (putFr fr o.dst undef) (li.setIfInBounds i true)
        | some true =>
          match knownOp fr o with
          | false => none
          | true =>
            match special P md (ev fr) o.op with
            | some (v, ps) => match stake P md ops nt hs l (putFr fr o.dst v) (li.setIfInBounds i true) with
              | some q => some ⟨q.fr, q.listed, q.gs, q.ws, ps ++ q.vc⟩
              | none => none
            | none => match sread P (execOp (ev fr) o) sc hs with
              | some (.value v, gs, ws, _) => match stake P md ops nt hs l (putFr fr o.dst v) (li.setIfInBounds i true) with
                | some q => some ⟨q.fr, q.listed, gs ++ q.gs, ws ++ q.ws, q.vc⟩
                | none => none
              | _ => none
        | none => none
      | _, _, _ => none

theorem sread_len {α : Type} {P : Program} (s : Sem α) : ∀ (sc : List Nat) (hp : Hp) (x : α) (gs ws sc' : List Nat), sread P s sc hp = some (x, gs, ws, sc') → gs.length = ws.length := by
  induction s with
  | pure a => intro sc hp x gs ws sc' h; simp only [sread, Option.some.injEq, Prod.mk.injEq] at h; obtain ⟨_, rfl, rfl, _⟩ := h; rfl
  | load m a k ih =>
    intro sc hp x gs ws sc' h
    cases sc with
    | nil => simp [sread] at h
    | cons i sc =>
      simp only [sread] at h
      split at h <;> try cases h
      split at h <;> try cases h
      split at h <;> try cases h
      rename_i hr
      simpa using ih _ _ _ _ _ _ _ hr
  | shape r k ih =>
    intro sc hp x gs ws sc' h
    cases sc with
    | nil => simp [sread] at h
    | cons i sc =>
      simp only [sread] at h
      split at h <;> try cases h
      split at h <;> try cases h
      rename_i hr
      simpa using ih _ _ _ _ _ _ _ hr
  | frozen a k ih =>
    intro sc hp x gs ws sc' h
    cases sc with
    | nil => simp [sread] at h
    | cons i sc =>
      simp only [sread] at h
      split at h <;> try cases h
      split at h <;> try cases h
      split at h <;> try cases h
      rename_i hr
      simpa using ih _ _ _ _ _ _ _ hr
  | program k ih =>
    intro sc hp x gs ws sc' h
    have h' : sread P (k P) sc hp = some (x, gs, ws, sc') := by cases sc <;> exact h
    exact ih _ _ _ _ _ _ _ h'
  | mark m k ih =>
    intro sc hp x gs ws sc' h
    have h' : sread P k sc hp = some (x, gs, ws, sc') := by cases sc <;> exact h
    exact ih _ _ _ _ _ _ h'
  | store m a v k ih => intro sc hp x gs ws sc' h; cases sc <;> simp [sread] at h
  | new o k ih => intro sc hp x gs ws sc' h; cases sc <;> simp [sread] at h
  | freeze a n k ih => intro sc hp x gs ws sc' h; cases sc <;> simp [sread] at h
  | getObj r k ih => intro sc hp x gs ws sc' h; cases sc <;> simp [sread] at h
  | setObj r o k ih => intro sc hp x gs ws sc' h; cases sc <;> simp [sread] at h
  | choose q k ih => intro sc hp x gs ws sc' h; cases sc <;> simp [sread] at h
  | sys c k ih => intro sc hp x gs ws sc' h; cases sc <;> simp [sread] at h
  | halt h => intro sc hp x gs ws sc' h; cases sc <;> simp [sread] at h

theorem Sat.put {a : Act} {w : World} (h : Sat Γ s a w) {d : Option Nat} (hd : okDst Γ.nt d = true) (v : Value) : Sat Γ ⟨putFr s.fr d v, s.hp⟩ (a.put d v) w where
  size := (size_put d v).trans h.size
  defers := (defers_put d v).trans h.defers
  fr := FrOk.putFr h.fr h.size hd v
  hs := h.hs
  ext := h.ext
  bd := h.bd

theorem stake_sound [PanicOk Q] {md : Bool} {ops : Array Oper} {hs : Hp} (hns : Region.noSelect ops = true) (l : List (Nat × List Nat)) : ∀ {fr : Fr} {hp : Hp} {li : Array Bool} {q : Qs} {n : Nat},
    stake Γ.P md ops Γ.nt hs l fr li = some q → q.gs = q.ws → AllP q.vc → WpA Γ ops hs n q.listed ⟨q.fr, hp⟩ Q → WpA Γ ops hs (n + l.length) li ⟨fr, hp⟩ Q := by
  induction l with
  | nil =>
    intro fr hp li q n h _ _ hK
    simp only [stake, Option.some.injEq] at h
    subst h
    exact hK
  | cons p l ih =>
    obtain ⟨i, sc⟩ := p
    intro fr hp li q n h he hv hK a w hS hL
    simp only [stake] at h
    split at h
    · cases h
    · rename_i o ho
      split at h
      · rename_i hd hr hf
        have hQ : ∀ (v : Value) c (a : Act) w, Q (.panic c) (a.put o.dst v) w → Q (.panic c) a w := fun v c a w h => PanicOk.ok (Q := Q) c _ a w (defers_put _ _) h
        split at h
        · rename_i hw
          exact wpAnyH_take ho hns hf hr (hQ undef) (.inr ⟨wants_ok hS.fr hw, rfl⟩) hL (ih h he hv hK _ _ (hS.put hd undef) hL)
        · rename_i hw
          split at h
          · cases h
          · rename_i hk
            split at h
            · rename_i v ps hsp
              split at h
              · rename_i q1 h1
                simp only [Option.some.injEq] at h
                subst h
                obtain ⟨v1, v2⟩ := allP_append.1 hv
                exact wpAnyH_take ho hns hf hr (hQ v) (.inl ⟨wants_ok hS.fr hw, fun w' hw' => by rw [ev_eq hS.fr hk]; exact special_sound hsp v1 w'⟩) hL (ih h1 he v2 hK _ _ (hS.put hd v) hL)
              · cases h
            · split at h
              · rename_i v gs ws _ hrd
                split at h
                · rename_i q1 h1
                  simp only [Option.some.injEq] at h
                  subst h
                  obtain ⟨e1, e2⟩ := List.append_inj he (sread_len _ _ _ _ _ _ _ hrd)
                  exact wpAnyH_take ho hns hf hr (hQ v) (.inl ⟨wants_ok hS.fr hw, fun w' hw' => by rw [ev_eq hS.fr hk]; exact sread_sound _ _ _ _ _ _ _ hrd e1 w' hw'⟩) hL (ih h1 e2 hv hK _ _ (hS.put hd v) hL)
                · cases h
              · cases h
        · cases h
      · cases h

theorem wpa_take [PanicOk Q] {ops : Array Oper} {hs : Hp} {li : Array Bool} (md : Bool) (l : List (Nat × List Nat)) (fr' : Fr) (li' : Array Bool) (vc : List Prop) {n : Nat}
    (hns : Region.noSelect ops = true) (h1 : (stake Γ.P md ops Γ.nt hs l s.fr li).isSome = true)
    (h2 : (stake Γ.P md ops Γ.nt hs l s.fr li).map (fun r => (fr'.map (fun p => look r.fr p.1), r.listed, r.gs, r.vc)) = (stake Γ.P md ops Γ.nt hs l s.fr li).map (fun r => (fr'.map (fun p => some p.2), li', r.ws, vc)))
    (hv : AllP vc) (h : WpA Γ ops hs n li' ⟨fr', s.hp⟩ Q) : WpA Γ ops hs (n + l.length) li s Q := by
  obtain ⟨r, hr⟩ := Option.isSome_iff_exists.1 h1
  rw [hr] at h2
  simp only [Option.map_some, Option.some.injEq, Prod.mk.injEq] at h2
  obtain ⟨h3, h4, h5, h6⟩ := h2
  refine stake_sound hns l hr h5 (h6 ▸ hv) (fun a w hS hL => ?_)
  rw [h4]
  exact h a w (hS.frames h3) hL

/-- The one that alone may come up, by evaluation. -/
theorem wpa_one {ops : Array Oper} {hs : Hp} {li : Array Bool} (md : Bool) (i : Nat) (sc : List Nat) (fr' : Fr) (hp' : Hp) (vc : List Prop) {n : Nat} (hr : Region.ready .any ops li = [i])
    (h1 : (sop Γ.P md ops Γ.nt i s.fr s.hp none sc).isSome = true)
    (h2 : (sop Γ.P md ops Γ.nt i s.fr s.hp none sc).map (fun r => (fr'.map (fun p => look r.fr p.1), r.hp, r.gs, r.vc)) = (sop Γ.P md ops Γ.nt i s.fr s.hp none sc).map (fun r => (fr'.map (fun p => some p.2), hp', r.ws, vc)))
    (hv : AllP vc) (hsub : Sub hs hp') (h : WpA Γ ops hs n (li.setIfInBounds i true) ⟨fr', hp'⟩ Q) : WpA Γ ops hs (n + 1) li s Q := fun a w hS hL => by
  obtain ⟨r, hrs⟩ := Option.isSome_iff_exists.1 h1
  rw [hrs] at h2
  simp only [Option.map_some, Option.some.injEq, Prod.mk.injEq] at h2
  obtain ⟨h3, h4, h5, h6⟩ := h2
  refine wpAnyH_all hr (by simp) fun j hj => ?_
  rw [List.mem_singleton.1 hj]
  refine sop_sound hrs h5 (h6 ▸ hv) hS (fun m hm => by cases hm) fun a' w' hS' _ => ?_
  rw [h4] at hS'
  have hL' : HL hs w' := fun c hc => hS'.hs.holds c (hsub c hc)
  exact ⟨hL', h a' w' (hS'.frames h3) hL'⟩
theorem wpa_new {ops : Array Oper} {hs : Hp} {li : Array Bool} (md : Bool) (i : Nat) (sc : List Nat) (fr' : Nat → Fr) (hp' : Nat → Hp) (vc : Nat → List Prop) {n : Nat} (hr : Region.ready .any ops li = [i])
    (h1 : ∀ g, (sop Γ.P md ops Γ.nt i s.fr s.hp (some g) sc).isSome = true)
    (h2 : ∀ g, (sop Γ.P md ops Γ.nt i s.fr s.hp (some g) sc).map (fun r => ((fr' g).map (fun p => look r.fr p.1), r.hp, r.gs, r.vc)) = (sop Γ.P md ops Γ.nt i s.fr s.hp (some g) sc).map (fun r => ((fr' g).map (fun p => some p.2), hp' g, r.ws, vc g)))
    (hv : ∀ g, AllP (vc g)) (hsub : ∀ g, Sub hs (hp' g)) (h : ∀ g, WpA Γ ops hs n (li.setIfInBounds i true) ⟨fr' g, hp' g⟩ Q) : WpA Γ ops hs (n + 1) li s Q := fun a w hS hL => by
  obtain ⟨r, hrs⟩ := Option.isSome_iff_exists.1 (h1 w.heap.size)
  have h2 := h2 w.heap.size
  rw [hrs] at h2
  simp only [Option.map_some, Option.some.injEq, Prod.mk.injEq] at h2
  obtain ⟨h3, h4, h5, h6⟩ := h2
  refine wpAnyH_all hr (by simp) fun j hj => ?_
  rw [List.mem_singleton.1 hj]
  refine sop_sound hrs h5 (h6 ▸ hv _) hS (fun m hm => by cases hm; rfl) fun a' w' hS' _ => ?_
  rw [h4] at hS'
  have hL' : HL hs w' := fun c hc => hS'.hs.holds c (hsub _ c hc)
  exact ⟨hL', h _ a' w' (hS'.frames h3) hL'⟩
theorem wpa_call {ops : Array Oper} {hs : Hp} {li : Array Bool} {i : Nat} {n : Nat} (hr : Region.ready .any ops li = [i]) {f : FuncId} {args : List Value} {dst : Option Nat} (hc : callOf Γ.P ops Γ.nt i s.fr = some (f, args, dst))
    {pre rest : Hp} {R : Value → Hp → Prop} (hf : Does Γ.P f args pre R) (g : Give s.hp pre rest) (hsub : Sub hs rest)
    (h : ∀ v hp', R v hp' → WpA Γ ops hs n (li.setIfInBounds i true) ⟨putFr s.fr dst v, hp' ++ rest⟩ Q) : WpA Γ ops hs (n + 1) li s Q := fun a w hS hL => by
  refine wpAnyH_all hr (by simp) fun j hj => ?_
  rw [List.mem_singleton.1 hj]
  refine callOf_sound hc hf g hS fun v hp' hR a' w' hS' => ?_
  have hL' : HL hs w' := fun c hc => hS'.hs.holds c (List.mem_append.2 (.inr (hsub c hc)))
  exact ⟨hL', h v hp' hR a' w' hS' hL'⟩

/-! ### a function's beginning and end -/
def enum : Nat → List Value → Fr
  | _, [] => []
  | i, v :: l => (i, v) :: enum (i + 1) l
theorem look_enum : ∀ (l : List Value) (k i : Nat) (v : Value), look (enum k l) i = some v → k ≤ i ∧ l[i - k]? = some v := by
  intro l
  induction l with
  | nil => intro k i v h; cases h
  | cons u l ih =>
    intro k i v h
    simp only [enum, look] at h
    split at h
    · rename_i e; subst e; exact ⟨Nat.le_refl _, by simpa using h⟩
    · rename_i e
      obtain ⟨h1, h2⟩ := ih (k + 1) i v h
      refine ⟨by omega, ?_⟩
      have : i - k = (i - (k + 1)) + 1 := by omega
      rw [this]; simpa using h2

theorem fn_enter {P : Program} {f : FuncId} {fn : Func} {c : Code} {args : List Value} {pre : Hp} {R : Value → Hp → Prop} (hf : P.funcs[f]? = some fn) (hb : fn.body = some c)
    (nt : Nat) (hnt : args.length + (fn.ntmps - args.length) = nt) (h : ∀ w0, HS pre w0 → WpC ⟨P, w0, foot pre, nt, []⟩ c ⟨enum 0 args, pre⟩ (bodyPost P fn (Post w0 pre R))) : Does P f args pre R := fun w hw => by
  refine calls_of_wp hf hb (h w hw _ w ⟨by simp [hnt], rfl, fun i v hi => ?_, hw, Ext.refl _ _, Bd.self _ _⟩)
  obtain ⟨_, h1⟩ := look_enum _ _ _ _ hi
  simp only [Nat.sub_zero] at h1
  obtain ⟨hlt, h2⟩ := List.getElem?_eq_some_iff.1 h1
  simp [Array.getD_eq_getD_getElem?, Array.getElem?_append, hlt, h2]

def resL (ρ : Nat → Value) : List ResultVar → Sem (List Value)
  | [] => pure []
  | .tmp t :: r => do let vs ← resL ρ r; pure (ρ t :: vs)
  | .cell a t :: r => do let v ← loadVar t (← asAddr (ρ a)); let vs ← resL ρ r; pure (v :: vs)
def oneOf : List Value → Value
  | [v] => v
  | l => .tuple l.toArray
def resV (ρ : Nat → Value) (l : List ResultVar) : Sem Value := do let vs ← resL ρ l; pure (oneOf vs)

theorem oneOf_eq (l : List Value) : (if h : l.toArray.size = 1 then l.toArray[0] else .tuple l.toArray) = oneOf l := by
  match l with
  | [] => rfl
  | [v] => rfl
  | a :: b :: r => simp [oneOf]

def resOne (tmps : Array Value) : ResultVar → Sem Value
  | .tmp t => pure (tmps.getD t undef)
  | .cell a t => do loadVar t (← asAddr (tmps.getD a undef))
theorem results_eq (fn : Func) (tmps : Array Value) : results fn tmps = resV (fun t => tmps.getD t undef) fn.results.toList := by
  have key : ∀ l : List ResultVar, (l.mapM (resOne tmps)) = resL (fun t => tmps.getD t undef) l := by
    intro l
    induction l with
    | nil => rfl
    | cons x l ih =>
      rw [List.mapM_cons, ih]
      cases x with
      | tmp t => simp [resL, resOne]
      | cell a t => simp [resL, resOne]
  have e : results fn tmps = (do let vs ← fn.results.mapM (resOne tmps); pure (if h : vs.size = 1 then vs[0] else .tuple vs)) := by
    unfold results
    congr 1
  rw [e]
  unfold resV
  obtain ⟨l, hl⟩ : ∃ l : List ResultVar, fn.results = l.toArray := ⟨fn.results.toList, by simp⟩
  rw [hl, List.mapM_toArray, key]
  have hf : (fun a : List Value => if h : a.length = 1 then a[0] else Value.tuple a.toArray) = oneOf := funext fun l => by simpa using oneOf_eq l
  simp [hf]

theorem resL_congr {ρ ρ' : Nat → Value} (l : List ResultVar) (h : ∀ x ∈ l, ρ (match x with | .tmp t => t | .cell a _ => a) = ρ' (match x with | .tmp t => t | .cell a _ => a)) : resL ρ l = resL ρ' l := by
  induction l with
  | nil => rfl
  | cons x l ih =>
    have h1 := h x (by simp)
    have h2 := ih fun y hy => h y (by simp [hy])
    cases x with
    | tmp t => simp only [resL, h2]; rw [show ρ t = ρ' t from h1]
    | cell a t => simp only [resL, h2]; rw [show ρ a = ρ' a from h1]

def knownRes (fr : Fr) (l : List ResultVar) : Bool := l.all fun x => (look fr (match x with | .tmp t => t | .cell a _ => a)).isSome

/-- The end: the results read. -/
def resOf (P : Program) (fn : Func) (fr : Fr) (hp : Hp) (sc : List Nat) : Option (Value × List Nat × List Nat × List Nat) :=
  match knownRes fr fn.results.toList with
  | true => sread P (resV (fun t => (look fr t).getD undef) fn.results.toList) sc hp
  | false => none
theorem resOf_sound {fn : Func} {sc : List Nat} {v : Value} {gs ws sc' : List Nat} (h : resOf Γ.P fn s.fr s.hp sc = some (v, gs, ws, sc')) (he : gs = ws) {a : Act} {w : World} (hS : Sat Γ s a w) :
    (results fn a.tmps).run Γ.P w = .ok v w := by
  unfold resOf at h
  split at h
  · rename_i hk
    rw [results_eq]
    have : resV (fun t => a.tmps.getD t undef) fn.results.toList = resV (fun t => (look s.fr t).getD undef) fn.results.toList := by
      unfold resV
      rw [resL_congr]
      intro x hx
      have h1 := List.all_eq_true.1 hk x hx
      obtain ⟨u, hu⟩ := Option.isSome_iff_exists.1 h1
      rw [hu]
      exact hS.fr _ _ hu
    rw [this]
    exact sread_sound _ _ _ _ _ _ _ h he w hS.hs.holds
  · cases h

def AllRw : Hp → Prop
  | [] => True
  | c :: r => c.rw ∧ AllRw r
theorem allRw_mem {hp : Hp} (h : AllRw hp) : ∀ c ∈ hp, c.rw := by
  induction hp with
  | nil => intro c hc; cases hc
  | cons d r ih =>
    intro c hc
    rcases List.mem_cons.1 hc with rfl | hc
    · exact h.1
    · exact ih h.2 c hc

/-- The function's end: what is handed back of the heap is picked. -/
theorem nx_end {P : Program} {w0 : World} {pre : Hp} {nt : Nat} {fn : Func} {R : Value → Hp → Prop} (sc : List Nat) (v : Value)
    (h1 : (resOf P fn s.fr s.hp sc).isSome = true) (h2 : (resOf P fn s.fr s.hp sc).map (fun r => (r.1, r.2.1)) = (resOf P fn s.fr s.hp sc).map (fun r => (v, r.2.2.1)))
    {hp' rest : Hp} (g : Give s.hp hp' rest) (hrw : AllRw hp') (hR : R v hp') {e : Exit} (he : e = .normal ∨ e = .ret) : Nx ⟨P, w0, foot pre, nt, []⟩ s (bodyPost P fn (Post w0 pre R)) e := fun a w hS => by
  obtain ⟨r, hr⟩ := Option.isSome_iff_exists.1 h1
  rw [hr] at h2
  simp only [Option.map_some, Option.some.injEq, Prod.mk.injEq] at h2
  obtain ⟨h3, h4⟩ := h2
  have hres := resOf_sound (Γ := ⟨P, w0, foot pre, nt, []⟩) (s := s) (v := r.1) (gs := r.2.1) (ws := r.2.2.1) (sc' := r.2.2.2) hr h4 hS
  rw [h3] at hres
  have hP : Post w0 pre R (.returned v) w := ⟨v, hp', hR, rfl, (g.sat w hS.hs).1, hS.ext, fun c hc hcr k hk => by
    obtain ⟨d, hd, hdr, hdk⟩ := g.foot k ⟨c, hc, hcr, hk⟩
    exact hS.bd d hd hdr k hdk, allRw_mem hrw⟩
  rcases he with rfl | rfl
  · exact ⟨hS.defers, v, hres, hP⟩
  · exact ⟨hS.defers, v, hres, hP⟩

/-! ### loops -/
theorem wpc_loop {X : Type} {c : Code} (S : X → St) (μ : X → Nat) (x₀ : X) (h0 : Ent Γ s (S x₀))
    (h : ∀ x, WpC Γ c (S x) (Exit.then (fun a w => ∃ y, μ y < μ x ∧ Sat Γ (S y) a w) Q)) : WpC Γ (.loop c) s Q := fun a w hS => by
  refine wp_loop_ghost (fun n a w => ∃ x, μ x = n ∧ Sat Γ (S x) a w) (μ x₀) ⟨x₀, rfl, h0 a w hS⟩ ?_
  rintro n a w ⟨x, rfl, hx⟩
  refine wp_mono (h x a w hx) ?_
  intro e a' w' hq
  cases e with
  | normal => obtain ⟨y, h1, h2⟩ := hq; exact ⟨μ y, h1, y, rfl, h2⟩
  | _ => exact hq
theorem nx_round {X : Type} {S : X → St} {μ : X → Nat} {x : X} (y : X) (hμ : μ y < μ x) (h : Ent Γ s (S y)) : Nx Γ s (Exit.then (fun a w => ∃ y, μ y < μ x ∧ Sat Γ (S y) a w) Q) .normal :=
  fun a w hS => ⟨y, hμ, h a w hS⟩

end Go.Sx
