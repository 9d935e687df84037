import Derived.Test.YtpfhleghgkeemaaGreatDoorX18
import Derived.Laws.StructEq
/-
  One of several chunks taken out and put back; what is read out of several; records compared.
-/
namespace Go.Sx
open Go
set_option linter.unusedVariables false
variable {Γ : Cx} {s : St} {Q : Exit → Act → World → Prop}

theorem ent_perm {fr : Fr} {hp hp' : Hp} (e : hp.Perm hp') : Ent Γ ⟨fr, hp⟩ ⟨fr, hp'⟩ := fun a w h =>
  ⟨h.size, h.defers, h.fr, h.hs.perm e, h.ext, fun c hc => h.bd c (e.mem_iff.2 hc)⟩
theorem ent_star_take {fr : Fr} {l rest : Hp} (i : Nat) {c : Ch} (hi : l[i]? = some c) : Ent Γ ⟨fr, star l :: rest⟩ ⟨fr, c :: star (l.eraseIdx i) :: rest⟩ := fun a w hS => by
  have hrw : ∀ c ∈ l, c.rw := (hS.hs.holds (star l) (List.mem_cons_self ..)).2
  obtain ⟨hlt, rfl⟩ := List.getElem?_eq_some_iff.1 hi
  have h1 := ent_unstar a w hS
  have e1 : (l ++ rest).Perm (l.eraseIdx i ++ (l[i] :: rest)) := ((perm_erase l i hlt).append_right rest).trans List.perm_middle.symm
  have h2 := ent_perm e1 a w h1
  have h3 := ent_star (fun c hc => hrw c (List.mem_of_mem_eraseIdx hc)) a w h2
  exact ent_perm (List.Perm.swap ..) a w h3
theorem ent_star_put {fr : Fr} {l rest : Hp} (i : Nat) {c : Ch} (hi : i < l.length) (hc : c.rw) : Ent Γ ⟨fr, c :: star (l.eraseIdx i) :: rest⟩ ⟨fr, star (l.set i c) :: rest⟩ := fun a w hS => by
  have hrw : ∀ c ∈ l.eraseIdx i, c.rw := (hS.hs.holds (star (l.eraseIdx i)) (by simp)).2
  have h1 := ent_perm (List.Perm.swap ..) a w hS
  have h2 := ent_unstar a w h1
  have hs : i < (l.set i c).length := by simpa using hi
  have e0 := perm_erase (l.set i c) i hs
  rw [List.getElem_set_self, List.eraseIdx_set_eq] at e0
  have e1 : (l.eraseIdx i ++ (c :: rest)).Perm (l.set i c ++ rest) := List.perm_middle.trans (e0.symm.append_right rest)
  have h3 := ent_perm e1 a w h2
  refine ent_star (fun d hd => ?_) a w h3
  have hd2 := e0.mem_iff.1 hd
  rcases List.mem_cons.1 hd2 with rfl | hd2
  · exact hc
  · exact hrw d hd2
theorem ent_star_snoc {fr : Fr} {l rest : Hp} {c : Ch} (hc : c.rw) : Ent Γ ⟨fr, star l :: c :: rest⟩ ⟨fr, star (l ++ [c]) :: rest⟩ := fun a w hS => by
  have hrw : ∀ c ∈ l, c.rw := (hS.hs.holds (star l) (List.mem_cons_self ..)).2
  have h1 := ent_unstar a w hS
  have h2 : Sat Γ ⟨fr, (l ++ [c]) ++ rest⟩ a w := by rw [List.append_assoc]; exact h1
  refine ent_star (fun d hd => ?_) a w h2
  rcases List.mem_append.1 hd with hd | hd
  · exact hrw d hd
  · rw [List.mem_singleton.1 hd]; exact hc
theorem ent_star_nil {fr : Fr} {rest : Hp} : Ent Γ ⟨fr, rest⟩ ⟨fr, star [] :: rest⟩ := fun a w hS =>
  ent_star (hp := []) (fun c hc => by cases hc) a w hS
theorem ent_bag_snoc {fr : Fr} {l rest : Hp} {c : Ch} : Ent Γ ⟨fr, bag l :: c :: rest⟩ ⟨fr, bag (l ++ [c]) :: rest⟩ :=
  ent_ro (hp := [bag l, c]) (rest := rest) (c' := bag (l ++ [c])) (fun w h d hd => by
    rcases List.mem_append.1 hd with hd | hd
    · exact h (bag l) (by simp) d hd
    · rw [List.mem_singleton.1 hd]; exact h c (by simp)) (fun w h k ⟨d, hd, hk⟩ => by
    rcases List.mem_append.1 hd with hd | hd
    · exact ⟨bag l, by simp, d, hd, hk⟩
    · rw [List.mem_singleton.1 hd] at hk; exact ⟨c, by simp, hk⟩) (fun h => h)
theorem ent_bag_nil {fr : Fr} {rest : Hp} : Ent Γ ⟨fr, rest⟩ ⟨fr, bag [] :: rest⟩ := ent_bag (hp := []) (rest := rest)
/-- Fewer of them, or seen otherwise. -/
theorem view_sub {l l' : Hp} (h : ∀ c' ∈ l', ∃ c ∈ l, (∀ w, c.holds w → c'.holds w) ∧ ∀ w, c.holds w → ∀ k, c'.own k → c.own k) : View (bag l) (bag l') :=
  ⟨fun w hw c' hc' => by obtain ⟨c, hc, h1, _⟩ := h c' hc'; exact h1 w (hw c hc), fun w hw k ⟨c', hc', hk⟩ => by
    obtain ⟨c, hc, _, h2⟩ := h c' hc'
    exact ⟨c, hc, h2 w (hw c hc) k hk⟩, fun h => h⟩
theorem view_star_sub {l l' : Hp} (h : ∀ c' ∈ l', ∃ c ∈ l, (∀ w, c.holds w → c'.holds w) ∧ ∀ w, c.holds w → ∀ k, c'.own k → c.own k) : View (star l) (bag l') := view_bag.trans (view_sub h)

theorem star_in {hp : Hp} {w : World} (h : HS hp w) (i : Nat) {l : Hp} (hi : hp[i]? = some (star l)) {c : Ch} (hc : c ∈ l) : c.holds w := (h.holds _ (List.mem_of_getElem? hi)).1.holds c hc
theorem bag_in {hp : Hp} {w : World} (h : HS hp w) (i : Nat) {l : Hp} (hi : hp[i]? = some (bag l)) {c : Ch} (hc : c ∈ l) : c.holds w := h.holds _ (List.mem_of_getElem? hi) c hc
theorem cells_part {w : World} {g off q : Nat} {xs vs : List Value} (h : cellsAt w ⟨g, off, none⟩ xs) (hv : (xs.drop q).take vs.length = vs) : cellsAt w ⟨g, off + q, none⟩ vs := fun j u hu => by
  rw [← hv] at hu
  rw [List.getElem?_take] at hu
  split at hu
  · rw [List.getElem?_drop] at hu
    have h1 := h (q + j) u hu
    rw [add_lit'] at h1 ⊢
    rw [Nat.add_assoc]; exact h1
  · cases hu
theorem ld_star {hp : Hp} {w : World} (h : HS hp w) (i : Nat) {l : Hp} (hi : hp[i]? = some (star l)) {T sz n cap g off : Nat} {xs : List Value} (hc : row T sz (some ⟨g, off, none⟩) n cap xs ∈ l) (q : Nat) {vs : List Value} (hv : (xs.drop q).take vs.length = vs) : cellsAt w ⟨g, off + q, none⟩ vs :=
  cells_part (row_cells (star_in h i hi hc)) hv
theorem ld_bag {hp : Hp} {w : World} (h : HS hp w) (i : Nat) {l : Hp} (hi : hp[i]? = some (bag l)) {g off : Nat} {xs : List Value} (hc : ro (some ⟨g, off, none⟩) xs ∈ l) (q : Nat) {vs : List Value} (hv : (xs.drop q).take vs.length = vs) : cellsAt w ⟨g, off + q, none⟩ vs :=
  cells_part (bag_in h i hi hc).2 hv
theorem ld_bagL {hs : Hp} {w : World} (h : HL hs w) (i : Nat) {l : Hp} (hi : hs[i]? = some (bag l)) {g off : Nat} {xs : List Value} (hc : ro (some ⟨g, off, none⟩) xs ∈ l) (q : Nat) {vs : List Value} (hv : (xs.drop q).take vs.length = vs) : cellsAt w ⟨g, off + q, none⟩ vs :=
  cells_part (h _ (List.mem_of_getElem? hi) _ hc).2 hv
theorem star_addr {hp : Hp} {w : World} (h : HS hp w) (i : Nat) {l : Hp} (hi : hp[i]? = some (star l)) {T sz n cap : Nat} {a : Option Addr} {xs : List Value} (hc : row T sz a n cap xs ∈ l) (hn : 0 < n) : ∃ g off, a = some ⟨g, off, none⟩ := by
  have h1 := star_in h i hi hc
  exact row_addr (hp := [row T sz a n cap xs]) ⟨fun c hc => by rw [List.mem_singleton.1 hc]; exact h1, by simp⟩ 0 rfl hn
theorem bag_addr {hp : Hp} {w : World} (h : HS hp w) (i : Nat) {l : Hp} (hi : hp[i]? = some (bag l)) {a : Option Addr} {xs : List Value} (hc : ro a xs ∈ l) (hn : 0 < xs.length) : ∃ g off, a = some ⟨g, off, none⟩ := by
  have h1 := bag_in h i hi hc
  exact ro_addr (hp := [ro a xs]) ⟨fun c hc => by rw [List.mem_singleton.1 hc]; exact h1, by simp⟩ 0 rfl hn

/-! ### records compared -/
def cellFits (P : Program) (t : TypeId) (v : Value) : Bool := match P.underlying t, v with
  | some (.int k), .int k' _ => k == k'
  | some .string, .string _ => true
  | some .bool, .bool _ => true
  | _, _ => false
def fitsFs (P : Program) : List Field → Nat → List Value → Bool
  | [], o, xs => xs.length == o
  | f :: fs, o, xs => (f.offset == o) && (f.name != "_") && (match xs[o]? with | some v => cellFits P f.type v | none => false) && fitsFs P fs (o + 1) xs
theorem run_part_fit {P : Program} {w : World} {t : TypeId} {xs : List Value} {o : Nat} {v : Value} (hv : xs[o]? = some v) (h : cellFits P t v = true) : (part t xs.toArray o).run P w = .ok v w := by
  unfold cellFits at h
  split at h
  · rename_i k k' n hu
    simp [part, isAgg, run_underlying hu, hv]
  · rename_i s hu
    simp [part, isAgg, run_underlying hu, hv]
  · rename_i b hu
    simp [part, isAgg, run_underlying hu, hv]
  · cases h
theorem run_eq_fit {P : Program} {w : World} {t : TypeId} {x y : Value} (d : Nat) (hx : cellFits P t x = true) (hy : cellFits P t y = true) : ∃ b : Bool, (Op.equalIn (d + 1) t x y).run P w = .ok b w ∧ (b = true ↔ x = y) := by
  unfold cellFits at hx hy
  split at hx
  · rename_i k k' n hu
    rw [hu] at hy
    split at hy
    · rename_i k2 k3 n2 hu2
      cases hu2
      obtain rfl := eq_of_beq hx
      obtain rfl := eq_of_beq hy
      exact ⟨n == n2, run_equalIn_int w d t _ _ n n2 hu, by simp⟩
    · rename_i hu2; cases hu2
    · rename_i hu2; cases hu2
    · cases hy
  · rename_i s hu
    rw [hu] at hy
    split at hy
    · rename_i hu2; cases hu2
    · rename_i s2 hu2
      refine ⟨s.toList == s2.toList, run_equalIn_string w d t s s2 hu, ?_⟩
      rw [beq_iff_eq, Go.ByteArray.toList_eq, Go.ByteArray.toList_eq]
      constructor
      · intro h
        obtain ⟨⟨a⟩⟩ := s
        obtain ⟨⟨b⟩⟩ := s2
        simp only at h
        rw [h]
      · intro h; injection h with h; rw [h]
    · rename_i hu2; cases hu2
    · cases hy
  · rename_i b hu
    rw [hu] at hy
    split at hy
    · rename_i hu2; cases hu2
    · rename_i hu2; cases hu2
    · rename_i b2 hu2
      exact ⟨b == b2, run_equalIn_bool' w d t b b2 hu, by simp⟩
    · cases hy
  · cases hx
theorem run_eqFields_fit {P : Program} {w : World} (d : Nat) : ∀ (fs : List Field) (o : Nat) (xs ys : List Value), fitsFs P fs o xs = true → fitsFs P fs o ys = true →
    ∃ b : Bool, (Op.eqFields (d + 1) xs.toArray ys.toArray fs).run P w = .ok b w ∧ (b = true ↔ xs.drop o = ys.drop o)
  | [], o, xs, ys, hx, hy => by
    simp only [fitsFs, beq_iff_eq] at hx hy
    exact ⟨true, by simp [Op.eqFields], by rw [List.drop_eq_nil_of_le (by omega), List.drop_eq_nil_of_le (by omega)]; simp⟩
  | f :: fs, o, xs, ys, hx, hy => by
    simp only [fitsFs, Bool.and_eq_true, beq_iff_eq, bne_iff_ne, ne_eq] at hx hy
    obtain ⟨⟨⟨ho, hn⟩, hx1⟩, hx2⟩ := hx
    obtain ⟨⟨⟨_, _⟩, hy1⟩, hy2⟩ := hy
    split at hx1
    case h_2 => cases hx1
    case h_1 u hu =>
      split at hy1
      case h_2 => cases hy1
      case h_1 v hv =>
        obtain ⟨r, hr, hiff⟩ := run_eq_fit (w := w) d hx1 hy1
        obtain ⟨b, hb, hbi⟩ := run_eqFields_fit (w := w) d fs (o + 1) xs ys hx2 hy2
        obtain ⟨hu1, rfl⟩ := List.getElem?_eq_some_iff.1 hu
        obtain ⟨hv1, rfl⟩ := List.getElem?_eq_some_iff.1 hv
        have ed : (xs.drop o = ys.drop o) ↔ (xs[o] = ys[o] ∧ xs.drop (o + 1) = ys.drop (o + 1)) := by
          rw [List.drop_eq_getElem_cons hu1, List.drop_eq_getElem_cons hv1, List.cons.injEq]
        simp only [Op.eqFields, hn, ne_eq, not_false_eq_true, if_true, Sem.run_bind, ho, run_part_fit hu hx1, run_part_fit hv hy1, hr, Result.andThen_ok]
        cases r
        · refine ⟨false, by simp, ?_⟩
          rw [ed]
          constructor
          · intro h; cases h
          · intro h; exact absurd (hiff.2 h.1) (by simp)
        · refine ⟨b, by simpa using hb, ?_⟩
          rw [ed, hbi]
          exact ⟨fun h => ⟨hiff.1 rfl, h⟩, fun h => h.2⟩
/-- eql (true) or neq (false), its type, both sides, its slot. -/
def eqOf (ops : Array Oper) (nt i : Nat) (fr : Fr) : Option (Bool × TypeId × Value × Value × Option Nat) :=
  match opAt ops nt i fr with
  | some o => match o.op with
    | .binOp .eql t x y _ => some (true, t, ev fr x, ev fr y, o.dst)
    | .binOp .neq t x y _ => some (false, t, ev fr x, ev fr y, o.dst)
    | _ => none
  | none => none
def eqTy (P : Program) (t : TypeId) : Option (List Field) := match P.underlying t with
  | some (.struct fs) => if P.stoodInHeld t = false ∧ P.eqGuardType P.depth t = false then some fs.toList else none
  | _ => none
theorem step_eqs {ops : Array Oper} {i : Nat} {b : Bool} {t : TypeId} {xs ys : List Value} {dst : Option Nat} (hc : eqOf ops Γ.nt i s.fr = some (b, t, .agg xs.toArray, .agg ys.toArray, dst)) {fs : List Field} (ht : eqTy Γ.P t = some fs) (hx : fitsFs Γ.P fs 0 xs = true) (hy : fitsFs Γ.P fs 0 ys = true) :
    Step Γ ops i s (fun s' => ∃ r : Bool, (r = true ↔ xs = ys) ∧ s' = ⟨putFr s.fr dst (.bool (if b then r else !r)), s.hp⟩) := by
  unfold eqTy at ht
  split at ht
  case h_2 => cases ht
  case h_1 fs' hu =>
    split at ht
    case isFalse => cases ht
    case isTrue hz =>
      simp only [Option.some.injEq] at ht
      subst ht
      have hfo : Γ.P.fieldsOf t = fs' := by unfold Program.fieldsOf; rw [hu]
      have key : ∀ w : World, ∃ r : Bool, (Op.equalIn 10000 t (.agg xs.toArray) (.agg ys.toArray)).run Γ.P w = .ok r w ∧ (r = true ↔ xs = ys) := fun w => by
        obtain ⟨r, h1, h2⟩ := run_eqFields_fit (P := Γ.P) (w := w) 9998 fs'.toList 0 xs ys hx hy
        refine ⟨r, ?_, by simpa using h2⟩
        rw [show (10000 : Nat) = 9999 + 1 from rfl, run_equalIn_struct w 9999 t _ _ (by rw [hfo]; exact hu) hz.1, hfo]
        exact h1
      unfold eqOf at hc
      split at hc
      case h_2 => cases hc
      case h_1 o ho =>
        split at hc
        case h_3 => cases hc
        case h_1 t' x y k hop =>
          simp only [Option.some.injEq, Prod.mk.injEq] at hc
          obtain ⟨rfl, rfl, hxx, hyy, rfl⟩ := hc
          refine fun Q b' w hS K hK => step_sem ho (fun v hp' => ∃ r : Bool, (r = true ↔ xs = ys) ∧ v = .bool r ∧ hp' = s.hp) (fun w hw => ?_) Q b' w hS K
            (fun s' ⟨v, hp', ⟨r, h0, h1, h2⟩, h3⟩ => hK s' ⟨r, h0, by rw [h3, h1, h2]; rfl⟩)
          obtain ⟨r, hr, hri⟩ := key w
          refine ⟨_, _, _, w, ?_, .inl rfl, ⟨r, hri, rfl, rfl⟩, hw, Ext.refl _ _, Bd.self _ _⟩
          have hg := run_eqGuard_agg (P := Γ.P) w .eql t' x y xs.toArray ys.toArray hz.2
          simp [execOp, hop, hxx, hyy, hg, run_eql_struct, hr]
        case h_2 t' x y k hop =>
          simp only [Option.some.injEq, Prod.mk.injEq] at hc
          obtain ⟨rfl, rfl, hxx, hyy, rfl⟩ := hc
          refine fun Q b' w hS K hK => step_sem ho (fun v hp' => ∃ r : Bool, (r = true ↔ xs = ys) ∧ v = .bool (!r) ∧ hp' = s.hp) (fun w hw => ?_) Q b' w hS K
            (fun s' ⟨v, hp', ⟨r, h0, h1, h2⟩, h3⟩ => hK s' ⟨r, h0, by rw [h3, h1, h2]; rfl⟩)
          obtain ⟨r, hr, hri⟩ := key w
          refine ⟨_, _, _, w, ?_, .inl rfl, ⟨r, hri, rfl, rfl⟩, hw, Ext.refl _ _, Bd.self _ _⟩
          have hg := run_eqGuard_agg (P := Γ.P) w .neq t' x y xs.toArray ys.toArray hz.2
          simp [execOp, hop, hxx, hyy, hg, run_neq_struct, hr]
theorem wpr_eqs {ops : Array Oper} {i : Nat} {l₂ : List Nat} {b : Bool} {t : TypeId} {xs ys : List Value} {dst : Option Nat} (hc : eqOf ops Γ.nt i s.fr = some (b, t, .agg xs.toArray, .agg ys.toArray, dst)) {fs : List Field} (ht : eqTy Γ.P t = some fs) (hx : fitsFs Γ.P fs 0 xs = true) (hy : fitsFs Γ.P fs 0 ys = true)
    (h : ∀ r : Bool, (r = true ↔ xs = ys) → WpR Γ ops l₂ ⟨putFr s.fr dst (.bool (if b then r else !r)), s.hp⟩ Q) : WpR Γ ops (i :: l₂) s Q :=
  wpr_step (step_eqs hc ht hx hy) fun s' ⟨r, h1, h2⟩ => by rw [h2]; exact h r h1
theorem wpa_eqs {ops : Array Oper} {hs : Hp} {li : Array Bool} {i n : Nat} (hr : Region.ready .any ops li = [i]) {b : Bool} {t : TypeId} {xs ys : List Value} {dst : Option Nat} (hc : eqOf ops Γ.nt i s.fr = some (b, t, .agg xs.toArray, .agg ys.toArray, dst)) {fs : List Field} (ht : eqTy Γ.P t = some fs) (hx : fitsFs Γ.P fs 0 xs = true) (hy : fitsFs Γ.P fs 0 ys = true) (hsub : Sub hs s.hp)
    (h : ∀ r : Bool, (r = true ↔ xs = ys) → WpA Γ ops hs n (li.setIfInBounds i true) ⟨putFr s.fr dst (.bool (if b then r else !r)), s.hp⟩ Q) : WpA Γ ops hs (n + 1) li s Q :=
  wpa_step hr (step_eqs hc ht hx hy) (fun s' ⟨r, h1, h2⟩ => by rw [h2]; exact hsub) fun s' ⟨r, h1, h2⟩ => by rw [h2]; exact h r h1
theorem wpi_eqs {ops : Array Oper} {hs : Hp} {li : Array Bool} {i n : Nat} {b : Bool} {t : TypeId} {xs ys : List Value} {dst : Option Nat} (hc : eqOf ops Γ.nt i s.fr = some (b, t, .agg xs.toArray, .agg ys.toArray, dst)) {fs : List Field} (ht : eqTy Γ.P t = some fs) (hx : fitsFs Γ.P fs 0 xs = true) (hy : fitsFs Γ.P fs 0 ys = true) (hsub : Sub hs s.hp)
    (h : ∀ r : Bool, (r = true ↔ xs = ys) → WpA Γ ops hs n (li.setIfInBounds i true) ⟨putFr s.fr dst (.bool (if b then r else !r)), s.hp⟩ Q) : WpI Γ ops hs n li s Q i :=
  wpi_step (step_eqs hc ht hx hy) (fun s' ⟨r, h1, h2⟩ => by rw [h2]; exact hsub) fun s' ⟨r, h1, h2⟩ => by rw [h2]; exact h r h1
end Go.Sx
