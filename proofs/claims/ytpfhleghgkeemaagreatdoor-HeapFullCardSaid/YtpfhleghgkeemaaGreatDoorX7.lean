import Derived.Test.YtpfhleghgkeemaaGreatDoorX6
import Derived.Laws.BytesString
/-
  Elements read and written, texts and bytes.
-/
namespace Go.Sx
open Go
set_option linter.unusedVariables false
set_option linter.unusedSimpArgs false
variable {P : Program} {Γ : Cx} {Q : Exit → Act → World → Prop} {s : St}

/-- One operation, whatever stands behind it. -/
def Step (Γ : Cx) (ops : Array Oper) (i : Nat) (s : St) (Φ : St → Prop) : Prop :=
  ∀ (Q : Exit → Act → World → Prop) b w, Sat Γ s b w → ∀ K : Act → World → Prop, (∀ s', Φ s' → ∀ b' w', Sat Γ s' b' w' → K b' w') → wpOp Γ.P ops Q i K b w
theorem wpr_step {ops : Array Oper} {i : Nat} {l₂ : List Nat} {Φ : St → Prop} (st : Step Γ ops i s Φ) (h : ∀ s', Φ s' → WpR Γ ops l₂ s' Q) : WpR Γ ops (i :: l₂) s Q := fun b w hS => by
  rw [wpOps_cons]
  exact st Q b w hS _ fun s' hs' b' w' hS' => h s' hs' b' w' hS'
theorem wpa_step {ops : Array Oper} {hs : Hp} {li : Array Bool} {i n : Nat} {Φ : St → Prop} (hr : Region.ready .any ops li = [i]) (st : Step Γ ops i s Φ) (hsub : ∀ s', Φ s' → Sub hs s'.hp)
    (h : ∀ s', Φ s' → WpA Γ ops hs n (li.setIfInBounds i true) s' Q) : WpA Γ ops hs (n + 1) li s Q := fun b w hS hL => by
  refine wpAnyH_all hr (by simp) fun j hj => ?_
  rw [List.mem_singleton.1 hj]
  refine st Q b w hS _ fun s' hs' b' w' hS' => ?_
  have hL' : HL hs w' := fun c hc => hS'.hs.holds c (hsub s' hs' c hc)
  exact ⟨hL', h s' hs' b' w' hS' hL'⟩

/-- The operation at a place, if it is carried out and all that it reads is known. -/
def opAt (ops : Array Oper) (nt : Nat) (i : Nat) (fr : Fr) : Option Oper :=
  match ops[i]? with
  | none => none
  | some o => match okDst nt o.dst, wants ops fr o, knownOp fr o with
    | true, some true, true => some o
    | _, _, _ => none

theorem step_sem {ops : Array Oper} {i : Nat} {o : Oper} (ho : opAt ops Γ.nt i s.fr = some o) (φ : Value → Hp → Prop)
    (hrun : ∀ w, HS s.hp w → ∃ nx v hp' w', (execOp (ev s.fr) o).run Γ.P w = .ok nx w' ∧ (nx = .value v ∨ (nx = .skip ∧ v = undef)) ∧ φ v hp' ∧ HS hp' w' ∧ Ext w w' (foot s.hp) ∧ Bd hp' (foot s.hp) w.heap.size) :
    Step Γ ops i s (fun s' => ∃ v hp', φ v hp' ∧ s' = ⟨putFr s.fr o.dst v, hp'⟩) := fun Q b w hS K hK => by
  unfold opAt at ho
  unfold wpOp
  split at ho
  · cases ho
  · rename_i o' hoi
    rw [hoi]
    simp only
    split at ho
    · rename_i hd hw hk
      simp only [Option.some.injEq] at ho
      subst ho
      rw [wants_ok hS.fr hw]
      simp only [if_true]
      refine .inl ?_
      unfold Oper.wp
      rw [ev_eq hS.fr hk]
      obtain ⟨nx, v, hp', w', h1, h2, h3, h4, h5, h6⟩ := hrun w hS.hs
      rw [h1]
      rcases h2 with rfl | ⟨rfl, rfl⟩
      · exact hK _ ⟨v, hp', h3, rfl⟩ _ _ (hS.step hd h4 h5 h6)
      · exact hK _ ⟨undef, hp', h3, rfl⟩ _ _ (hS.step hd h4 h5 h6)
    · cases ho

/-! ### a variable read out of known cells -/
def aggTy (P : Program) (t : TypeId) : Option (Bool × Nat) :=
  match P.underlying t, P.info? t with
  | some d, some i => some ((match d with | .struct _ | .array _ _ => true | _ => false), i.size)
  | _, _ => none
def valOf (b : Bool) (vs : List Value) : Value := match b with | true => .agg vs.toArray | false => vs.headD undef

theorem run_loadVar' {w : World} {t : TypeId} {b : Bool} {k : Nat} (ht : aggTy P t = some (b, k)) {a : Addr} {vs : List Value} (hv : vs.length = k) (hb : b = false → k = 1) (hc : cellsAt w a vs) : (loadVar t a).run P w = .ok (valOf b vs) w := by
  unfold aggTy at ht
  split at ht
  case h_2 => cases ht
  case h_1 d i hd hi =>
    simp only [Option.some.injEq, Prod.mk.injEq] at ht
    obtain ⟨h1, rfl⟩ := ht
    have hag : (isAgg t).run P w = .ok b w := by
      rw [← h1]
      unfold isAgg
      simp only [Sem.run_bind, run_underlying hd, Result.andThen_ok]
      cases d <;> rfl
    unfold loadVar
    rw [Sem.run_bind, hag, Result.andThen_ok]
    cases b with
    | true =>
      have hl := run_loadCells_list (P := P) w a vs hc
      rw [hv] at hl
      simp only [if_true, Sem.run_bind, sizeOf, typeInfo, run_program, Result.andThen_ok, hi, Sem.run_pure, hl, valOf]
    | false =>
      have h2 := hb rfl
      match vs, hv.trans h2 with
      | [v], _ =>
        have h3 := hc 0 v rfl
        have e0 : a.add 0 = a := rfl
        rw [e0] at h3
        simp only [Bool.false_eq_true, if_false, load, run_load_some h3, valOf, List.headD_cons]
        rfl

/-- A load out of a row, or of what is read alone. -/
theorem step_load {ops : Array Oper} {i : Nat} {o : Oper} (ho : opAt ops Γ.nt i s.fr = some o) (t : TypeId) (p : Operand) (hop : o.op = .load t p) (a : Addr) (hp : ev s.fr p = .pointer (some a)) (b : Bool) (k : Nat) (ht : aggTy Γ.P t = some (b, k)) (hb : b = false → k = 1)
    (vs : List Value) (hv : vs.length = k) (hc : ∀ w, HS s.hp w → cellsAt w a vs) :
    Step Γ ops i s (fun s' => s' = ⟨putFr s.fr o.dst (valOf b vs), s.hp⟩) := fun Q b' w hS K hK =>
  step_sem ho (fun v hp' => v = valOf b vs ∧ hp' = s.hp) (fun w hw => ⟨_, _, _, w, by
    simp only [execOp, hop, hp, Instr.loadAt, Instr.sureAddr, Sem.run_bind, Sem.run_pure, Result.andThen_ok, run_loadVar' ht hv hb (hc w hw)], .inl rfl, ⟨rfl, rfl⟩, hw, Ext.refl _ _, Bd.self _ _⟩) Q b' w hS K
    (fun s' ⟨v, hp', ⟨h1, h2⟩, h3⟩ => hK s' (by rw [h3, h1, h2]))

theorem cells_row {hp : Hp} {w : World} (h : HS hp w) (i : Nat) {T sz n cap g off : Nat} {xs : List Value} (hi : hp[i]? = some (row T sz (some ⟨g, off, none⟩) n cap xs)) (q k : Nat) : cellsAt w ⟨g, off + q, none⟩ ((xs.drop q).take k) := fun j u hu => by
  have h1 := row_cells (h.holds _ (List.mem_of_getElem? hi))
  rw [List.getElem?_take] at hu
  split at hu
  · rw [List.getElem?_drop] at hu
    rw [add_lit', Nat.add_assoc, ← add_lit']; exact h1 _ _ hu
  · cases hu
theorem cells_ro {hp : Hp} {w : World} (h : HS hp w) (i : Nat) {g off : Nat} {xs : List Value} (hi : hp[i]? = some (ro (some ⟨g, off, none⟩) xs)) (q k : Nat) : cellsAt w ⟨g, off + q, none⟩ ((xs.drop q).take k) := fun j u hu => by
  have h1 := (h.holds _ (List.mem_of_getElem? hi)).2
  rw [List.getElem?_take] at hu
  split at hu
  · rw [List.getElem?_drop] at hu
    rw [add_lit', Nat.add_assoc, ← add_lit']; exact h1 _ _ hu
  · cases hu

/-! ### a store into a row -/
theorem storeVar_row {w : World} {t : TypeId} {v : Value} {vs : List Value} (hvs : v.cells = vs.toArray) {inf : TypeInfo} (hi : P.info? t = some inf) (hk : inf.size = vs.length) (h1 : One vs)
    {T sz n cap g off q : Nat} {xs : List Value} (hr : rowH T sz (some ⟨g, off, none⟩) n cap xs w) (hq : q + vs.length ≤ xs.length) :
    (storeVar t ⟨g, off + q, none⟩ v).run P w = .ok () (w.setCells g (off + q) vs) ∧ rowH T sz (some ⟨g, off, none⟩) n cap (xs.take q ++ vs ++ xs.drop (q + vs.length)) (w.setCells g (off + q) vs) := by
  obtain ⟨k1, k2, k3, k4, k5⟩ := hr
  by_cases hvs0 : vs = []
  · subst hvs0
    refine ⟨?_, ?_⟩
    · unfold storeVar
      have e1 : v.cells.size = 0 := by rw [hvs]; simp
      have hst := run_storeCells_cells (P := P) g (off + q) [] 0 w (fun j hj => absurd hj (by simp)) (fun j hj => absurd hj (by simp)) (fun u hu => by cases hu)
      simp only [Nat.add_zero] at hst
      simp only [Sem.run_bind, sizeOf, typeInfo, run_program, Result.andThen_ok, hi, Sem.run_pure, e1, hk]
      simp [hvs, hst]
    · have e1 : xs.take q ++ [] ++ xs.drop (q + ([] : List Value).length) = xs := by simp
      rw [e1]; exact ⟨k1, k2, k3, k4, k5⟩
  rcases k5 with ⟨h, _⟩ | ⟨g', off', cur, fz, ha, hg, hs, hx, hfz⟩
  · have hn : n = 0 := by omega
    rw [hn, Nat.zero_mul] at k1
    have : 0 < vs.length := List.length_pos_iff.2 hvs0
    omega
  · cases ha
    have hns : n * sz ≤ cap * sz := Nat.mul_le_mul_right _ k2
    have hlen : xs.length = n * sz := k1
    have hst := run_storeCells_cells (P := P) g (off + q) vs 0 w
      (fun j hj => by simp only [World.cell?, hg]; simp [show off + q + j < cur.size by omega])
      (fun j hj => by
        have h9 := hfz (off + q + 0 + j) (by omega)
        simp only [World.frozen?, hg]
        simp only [Bool.and_eq_false_iff, decide_eq_false_iff_not]
        omega) h1
    simp only [Nat.add_zero] at hst
    have hset := setCells_heap (news := vs) hg (show off + q + vs.length ≤ cur.size by omega)
    refine ⟨?_, ?_, k2, k3, ?_, .inr ⟨g, off, _, fz, rfl, hset, ?_, ?_, ?_⟩⟩
    · unfold storeVar
      have e1 : v.cells.size = vs.length := by rw [hvs]; simp
      simp only [Sem.run_bind, sizeOf, typeInfo, run_program, Result.andThen_ok, hi, Sem.run_pure, e1, hk]
      simp [hvs, hst]
    · simp only [List.length_append, List.length_take, List.length_drop]; omega
    · intro u hu
      rcases List.mem_append.1 hu with hu | hu
      · rcases List.mem_append.1 hu with hu | hu
        · exact k4 u (List.mem_of_mem_take hu)
        · exact h1 u hu
      · exact k4 u (List.mem_of_mem_drop hu)
    · simp only [List.size_toArray, List.length_append, List.length_take, List.length_drop, Array.length_toList]; omega
    · have e1 : (cur.toList.take (off + q)).drop off = xs.take q := by
        rw [List.drop_take, Nat.add_sub_cancel_left, ← hx, List.take_take, Nat.min_eq_left (by omega)]
      have e2 : (cur.toList.take (off + q) ++ vs ++ cur.toList.drop (off + q + vs.length)).drop off = xs.take q ++ vs ++ cur.toList.drop (off + q + vs.length) := by
        rw [List.append_assoc, List.drop_append_of_le_length (by simp; omega), e1, List.append_assoc]
      have e3 : xs.drop (q + vs.length) = (cur.toList.drop (off + q + vs.length)).take (n * sz - (q + vs.length)) := by
        rw [← hx, List.drop_take, List.drop_drop, Nat.add_assoc]
      simp only [e2, e3]
      rw [List.take_append, List.take_of_length_le (by simp; omega)]
      congr 2
      simp only [List.length_append, List.length_take]
      omega
    · intro o ho
      refine hfz o ?_
      simp only [List.size_toArray, List.length_append, List.length_take, List.length_drop, Array.length_toList] at ho
      omega

theorem step_store {ops : Array Oper} {i : Nat} {o : Oper} (ho : opAt ops Γ.nt i s.fr = some o) (t : TypeId) (p x : Operand) (hop : o.op = .store t p x) (pi : Nat) {T sz n cap g off : Nat} {xs : List Value} (hpi : s.hp[pi]? = some (row T sz (some ⟨g, off, none⟩) n cap xs))
    (q : Nat) (hp : ev s.fr p = .pointer (some ⟨g, off + q, none⟩)) (vs : List Value) (hvs : (ev s.fr x).cells = vs.toArray) (inf : TypeInfo) (hi : Γ.P.info? t = some inf) (hk : inf.size = vs.length) (h1 : One vs) (hq : q + vs.length ≤ xs.length) :
    Step Γ ops i s (fun s' => s' = ⟨putFr s.fr o.dst undef, s.hp.set pi (row T sz (some ⟨g, off, none⟩) n cap (xs.take q ++ vs ++ xs.drop (q + vs.length)))⟩) := fun Q b' w hS K hK =>
  step_sem ho (fun v hp' => v = undef ∧ hp' = s.hp.set pi (row T sz (some ⟨g, off, none⟩) n cap (xs.take q ++ vs ++ xs.drop (q + vs.length)))) (fun w hw => by
    obtain ⟨h2, h3⟩ := storeVar_row (P := Γ.P) hvs hi hk h1 (hw.holds _ (List.mem_of_getElem? hpi)) hq
    obtain ⟨z1, z2, z3, z4⟩ := setCells_size (g := g) (news := vs) (k := off + q) (w := w)
    have hrest : ∀ k, ¬ (0 < cap ∧ rowOwn (some ⟨g, off, none⟩) k) → k < w.heap.size → (w.setCells g (off + q) vs).heap[k]? = w.heap[k]? := fun k hk _ => by
      by_cases hvs0 : vs = []
      · subst hvs0; rfl
      · refine setCells_other (fun e => hk ⟨?_, _, rfl, e.symm⟩)
        obtain ⟨r1, r2, _⟩ := hw.holds _ (List.mem_of_getElem? hpi)
        have hl : 0 < vs.length := List.length_pos_iff.2 hvs0
        rcases Nat.eq_zero_or_pos cap with hc | hc
        · have hn : n = 0 := by omega
          rw [hn, Nat.zero_mul] at r1; omega
        · exact hc
    refine ⟨.skip, undef, _, _, ?_, .inr ⟨rfl, rfl⟩, ⟨rfl, rfl⟩, hw.put (c' := row T sz (some ⟨g, off, none⟩) n cap (xs.take q ++ vs ++ xs.drop (q + vs.length))) hpi trivial (fun k h => .inl h) h3 hrest, ?_, Bd.put (c' := row T sz (some ⟨g, off, none⟩) n cap (xs.take q ++ vs ++ xs.drop (q + vs.length))) hpi trivial (fun k h => .inl h)⟩
    · simp only [execOp, hop, hp, Instr.storeAt, Instr.sureAddr, Sem.run_bind, Sem.run_pure, Result.andThen_ok, h2]
    · exact ⟨z2, z3, z4, by rw [z1]; exact Nat.le_refl _, fun k hk hf => hrest k (fun ho => hf ⟨_, List.mem_of_getElem? hpi, trivial, ho⟩) hk⟩) Q b' w hS K
    (fun s' ⟨v, hp', ⟨h1, h2⟩, h3⟩ => hK s' (by rw [h3, h1, h2]))

/-! ### bytes and texts -/
/-- Bytes as cells. -/
def u8s (l : List UInt8) : List Value := l.map fun b => .int .u8 b.toNat
theorem u8s_len (l : List UInt8) : (u8s l).length = l.length := by simp [u8s]
theorem u8s_one (l : List UInt8) : One (u8s l) := fun u hu => by
  simp only [u8s, List.mem_map] at hu
  obtain ⟨b, _, rfl⟩ := hu
  rfl
theorem strCells_mkS (l : List UInt8) : Lib.strCells (mkS l) = u8s l := by simp [Lib.strCells, mkS, u8s]
theorem size_mkS (l : List UInt8) : (mkS l).size = l.length := by show (l.toArray).size = _; simp

theorem run_b2s {w : World} {a : Option Addr} {n c : Nat} {l : List UInt8} (hn : n = l.length) (h0 : a = none → l = []) (hc : ∀ ad, a = some ad → cellsAt w ad (u8s l)) : (Conv.bytesToString (.slice a n c)).run P w = .ok (.string (mkS l)) w := by
  cases a with
  | none => rw [h0 rfl]; rfl
  | some ad =>
    have hl := run_loadCells_list (P := P) w ad (u8s l) (hc ad rfl)
    rw [u8s_len, ← hn] at hl
    have e : u8s l = (l.map fun b => (b.toNat : Int)).map (Value.int .u8) := by simp [u8s]
    rw [e] at hl
    rw [run_bytesToString w ad n c _ hl]
    congr 2
    have key : ∀ (l : List UInt8) (acc : List UInt8), (l.map fun b => (b.toNat : Int)).foldl (fun r n => r.push (UInt8.ofNat n.toNat)) (mkS acc) = mkS (acc ++ l) := by
      intro l
      induction l with
      | nil => intro acc; simp
      | cons b l ih =>
        intro acc
        simp only [List.map_cons, List.foldl_cons]
        have : (mkS acc).push (UInt8.ofNat (b.toNat : Int).toNat) = mkS (acc ++ [b]) := by
          apply ByteArray.ext
          simp [mkS]
        rw [this, ih, List.append_assoc]; rfl
    exact key l []

theorem step_b2s {ops : Array Oper} {i : Nat} {o : Oper} (ho : opAt ops Γ.nt i s.fr = some o) (sT dT : TypeId) (x : Operand) (hop : o.op = .convert sT dT x) {e : TypeId} (hs : Γ.P.underlying sT = some (.slice e)) (he : Γ.P.underlying e = some (.int .u8)) (hd : Γ.P.underlying dT = some .string)
    {a : Option Addr} {n c : Nat} (hx : ev s.fr x = .slice a n c) (l : List UInt8) (hn : n = l.length) (hc : ∀ w, HS s.hp w → (a = none → l = []) ∧ ∀ ad, a = some ad → cellsAt w ad (u8s l)) :
    Step Γ ops i s (fun s' => s' = ⟨putFr s.fr o.dst (.string (mkS l)), s.hp⟩) := fun Q b' w hS K hK =>
  step_sem ho (fun v hp' => v = .string (mkS l) ∧ hp' = s.hp) (fun w hw => ⟨_, _, _, w, by
    have h1 := run_b2s (P := Γ.P) (w := w) (a := a) (n := n) (c := c) hn (hc w hw).1 (hc w hw).2
    have h2 : (convert sT dT (.slice a n c)).run Γ.P w = .ok (.string (mkS l)) w := by
      cases a <;> simp [convert, run_underlying hs, run_underlying hd, run_underlying he, h1]
    simp only [execOp, hop, hx, Sem.run_bind, Sem.run_pure, Result.andThen_ok, h2], .inl rfl, ⟨rfl, rfl⟩, hw, Ext.refl _ _, Bd.self _ _⟩) Q b' w hS K
    (fun s' ⟨v, hp', ⟨h1, h2⟩, h3⟩ => hK s' (by rw [h3, h1, h2]))

/-- what a row, or what is read alone, gives for step_b2s -/
theorem b2s_row {hp : Hp} {w : World} (h : HS hp w) (i : Nat) {T n cap : Nat} {a : Option Addr} {l : List UInt8} (hi : hp[i]? = some (row T 1 a n cap (u8s l))) : (a = none → l = []) ∧ ∀ ad, a = some ad → cellsAt w ad (u8s l) := by
  have hr := h.holds _ (List.mem_of_getElem? hi)
  obtain ⟨h1, h2, h3, h4, h5⟩ := id hr
  rw [u8s_len] at h1
  rcases h5 with ⟨hc, _⟩ | ⟨g, off, cur, fz, rfl, _⟩
  · have hl : l = [] := List.eq_nil_of_length_eq_zero (by omega)
    exact ⟨fun _ => hl, fun ad h j u hu => by rw [hl] at hu; simp [u8s] at hu⟩
  · exact ⟨(fun h => by cases h), fun ad h => by cases h; exact row_cells hr⟩
theorem b2s_ro {hp : Hp} {w : World} (h : HS hp w) (i : Nat) {a : Option Addr} {l : List UInt8} (hi : hp[i]? = some (ro a (u8s l))) : (a = none → l = []) ∧ ∀ ad, a = some ad → cellsAt w ad (u8s l) := by
  obtain ⟨h1, h2⟩ := h.holds _ (List.mem_of_getElem? hi)
  cases a with
  | none => exact ⟨fun _ => by have h2 : u8s l = [] := h2; simpa [u8s] using h2, fun ad h => by cases h⟩
  | some ad => exact ⟨fun h => (by cases h), fun ad h => by cases h; exact h2⟩

theorem turn_cut_u8 {T n cap : Nat} {a : Option Addr} {l : List UInt8} (n' cap' : Nat) (h1 : n' ≤ n) (h2 : n' ≤ cap') (h3 : cap' ≤ cap) : Turn (row T 1 a n cap (u8s l)) (row T 1 a n' cap' (u8s (l.take n'))) := by
  have := turn_cut (T := T) (sz := 1) (n := n) (cap := cap) (a := a) (xs := u8s l) n' cap' h1 h2 h3
  have e : (u8s l).take (n' * 1) = u8s (l.take n') := by simp [u8s, List.map_take]
  rwa [e] at this
theorem row_cap {hp : Hp} {w : World} (h : HS hp w) (i : Nat) {T sz n cap : Nat} {a : Option Addr} {xs : List Value} (hi : hp[i]? = some (row T sz a n cap xs)) : xs.length = n * sz ∧ n ≤ cap ∧ cap ≤ maxLen := by
  obtain ⟨h1, h2, h3, _⟩ := h.holds _ (List.mem_of_getElem? hi)
  exact ⟨h1, h2, h3⟩
theorem turn_view {c c' : Ch} (v : View c c') : Turn c c' := ⟨v.holds, v.own, fun h => absurd h v.ro⟩
theorem turn_ro {g T : Nat} {l : List Value} (bs : List UInt8) (h : l = u8s bs) : Turn (.blk g T l) (ro (some ⟨g, 0, none⟩) (u8s bs)) := by
  subst h
  have v := view_blk (g := g) (T := T) (l := u8s bs) 0 (u8s bs).length (by simpa using u8s_one bs)
  simp only [List.drop_zero, List.take_length] at v
  exact turn_view v
theorem minE (x y : Int) : (if y < x then y else x) = min x y := by split <;> omega
theorem minmax (s k L : Int) : (s + if (if L - s < k then L - s else k) > 0 then (if L - s < k then L - s else k) else 0) = s + max 0 (min k (L - s)) := by
  split <;> split <;> omega
theorem row_none {hp : Hp} {w : World} (h : HS hp w) (i : Nat) {T sz n cap : Nat} {a : Option Addr} {xs : List Value} (hi : hp[i]? = some (row T sz a n cap xs)) : a = none → xs = [] := fun ha => by
  obtain ⟨h1, h2, h3, h4, h5⟩ := h.holds _ (List.mem_of_getElem? hi)
  subst ha
  rcases h5 with ⟨hc, _⟩ | ⟨g, off, cur, fz, ha, _⟩
  · exact List.eq_nil_of_length_eq_zero (by rw [h1]; have : n = 0 := by omega
                                            subst this; simp)
  · cases ha
/-- A row of at least one element lies somewhere. -/
theorem row_addr {hp : Hp} {w : World} (h : HS hp w) (i : Nat) {T sz n cap : Nat} {a : Option Addr} {xs : List Value} (hi : hp[i]? = some (row T sz a n cap xs)) (hn : 0 < n) : ∃ g off, a = some ⟨g, off, none⟩ := by
  obtain ⟨h1, h2, h3, h4, h5⟩ := h.holds _ (List.mem_of_getElem? hi)
  rcases h5 with ⟨hc, _⟩ | ⟨g, off, cur, fz, ha, _⟩
  · omega
  · exact ⟨g, off, ha⟩

end Go.Sx
