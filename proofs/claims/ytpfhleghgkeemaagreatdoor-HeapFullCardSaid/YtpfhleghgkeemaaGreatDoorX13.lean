import Derived.Test.YtpfhleghgkeemaaGreatDoorX12
/-! X13: whole numbers in rows; append to a part of a row; clear; heaps within one chunk. -/
namespace Go.Sx
open Go
set_option linter.unusedVariables false
set_option linter.unusedSimpArgs false
variable {P : Program} {Γ : Cx} {Q : Exit → Act → World → Prop} {s : St}

def ints (l : List Int) : List Value := l.map (Value.int .i64)
theorem ints_len (l : List Int) : (ints l).length = l.length := by simp [ints]
theorem ints_one (l : List Int) : One (ints l) := fun u hu => by
  simp only [ints, List.mem_map] at hu
  obtain ⟨b, _, rfl⟩ := hu
  rfl
theorem ints_append (l r : List Int) : ints l ++ ints r = ints (l ++ r) := by simp [ints]
theorem ints_at {l : List Int} {q : Nat} (hq : q < l.length) : ((ints l).drop (q * 1)).take 1 = [.int .i64 l[q]] := by
  have h : q < (ints l).length := by rw [ints_len]; exact hq
  rw [Nat.mul_one, List.drop_eq_getElem_cons h]
  simp [ints]
theorem ints_take (l : List Int) (n : Nat) : (ints l).take n = ints (l.take n) := by simp [ints, List.map_take]
theorem ints_drop (l : List Int) (n : Nat) : (ints l).drop n = ints (l.drop n) := by simp [ints, List.map_drop]
theorem turn_ints {T n cap : Nat} {a : Option Addr} {l : List Int} (n' cap' : Nat) (h1 : n' ≤ n) (h2 : n' ≤ cap') (h3 : cap' ≤ cap) : Turn (row T 1 a n cap (ints l)) (row T 1 a n' cap' (ints (l.take n'))) := by
  have := turn_cut (T := T) (sz := 1) (n := n) (cap := cap) (a := a) (xs := ints l) n' cap' h1 h2 h3
  rwa [Nat.mul_one, ints_take] at this

theorem turn_rints {g T : Nat} {l : List Value} (bs : List Int) (h : l = ints bs) : Turn (.blk g T l) (ro (some ⟨g, 0, none⟩) (ints bs)) := by
  subst h
  have v := view_blk (g := g) (T := T) (l := ints bs) 0 (ints bs).length (by simpa using ints_one bs)
  simp only [List.drop_zero, List.take_length] at v
  exact turn_view v
/-- A block, whatever is in it, read alone. -/
theorem turn_rblk {g T : Nat} {l : List Value} (h : One l) : Turn (.blk g T l) (ro (some ⟨g, 0, none⟩) l) := by
  have v := view_blk (g := g) (T := T) (l := l) 0 l.length (by simpa using h)
  simp only [List.drop_zero, List.take_length] at v
  exact turn_view v

/-! ### append behind the front of a row -/
theorem wpr_app_cut {ops : Array Oper} {i : Nat} {l₂ : List Nat} {a : Option Addr} {n cap : Nat} {x : Value} {t xt : TypeId} {dst : Option Nat} (ho : appOf ops Γ.nt i s.fr = some (.slice a n cap, x, t, xt, dst))
    {e sz bytes : Nat} (ht : rowTy Γ.P t xt = some (e, sz, bytes)) (p : Nat) {n0 : Nat} {xs : List Value} (hp : s.hp[p]? = some (row e sz a n0 cap xs)) (hn0 : n ≤ n0) (hncap : n ≤ cap) {m : Nat} {news : List Value} (hsrc : ∀ w, HS s.hp w → srcOk w sz x m news)
    (h63 : n + m ≤ maxLen) (hb : (n + m) * bytes ≤ 140737488355328)
    (h : ∀ a' cap', (a' = none ↔ a = none ∧ m = 0) → (n + m ≤ cap → a' = a ∧ cap' = cap) → WpR Γ ops l₂ ⟨putFr s.fr dst (.slice a' (n + m) cap'), s.hp.set p (row e sz a' (n + m) cap' (xs.take (n * sz) ++ news))⟩ Q) : WpR Γ ops (i :: l₂) s Q := fun b w hS => by
  rw [wpOps_cons]
  have hsrcw := hsrc w hS.hs
  have t1 : Turn (row e sz a n0 cap xs) (row e sz a n cap (xs.take (n * sz))) := turn_cut n cap hn0 hncap (Nat.le_refl _)
  have hS1 : Sat Γ ⟨s.fr, s.hp.set p (row e sz a n cap (xs.take (n * sz)))⟩ b w := ent_turn p _ hp t1 rfl b w hS
  have hlt := (List.getElem?_eq_some_iff.1 hp).1
  have hget : (s.hp.set p (row e sz a n cap (xs.take (n * sz))))[p]? = some (row e sz a n cap (xs.take (n * sz))) := by simp [hlt]
  refine app_wpOp (s := ⟨s.fr, s.hp.set p (row e sz a n cap (xs.take (n * sz)))⟩) ho ht p hget h63 hb hS1 hsrcw fun a' cap' hn hfit b' w' hS' => ?_
  have hS'' := hS'
  simp only [List.set_set] at hS''
  exact h a' cap' hn hfit b' w' hS''
theorem wpa_app_cut {ops : Array Oper} {hs : Hp} {li : Array Bool} {i : Nat} {nf : Nat} (hr : Region.ready .any ops li = [i]) {a : Option Addr} {n cap : Nat} {x : Value} {t xt : TypeId} {dst : Option Nat} (ho : appOf ops Γ.nt i s.fr = some (.slice a n cap, x, t, xt, dst))
    {e sz bytes : Nat} (ht : rowTy Γ.P t xt = some (e, sz, bytes)) (p : Nat) {n0 : Nat} {xs : List Value} (hp : s.hp[p]? = some (row e sz a n0 cap xs)) (hn0 : n ≤ n0) (hncap : n ≤ cap) {m : Nat} {news : List Value} (hsrc : ∀ w, HS s.hp w → srcOk w sz x m news)
    (h63 : n + m ≤ maxLen) (hb : (n + m) * bytes ≤ 140737488355328) (is : List Nat) (hsub : is.map (fun i => (s.hp.eraseIdx p)[i]?) = hs.map some)
    (h : ∀ a' cap', (a' = none ↔ a = none ∧ m = 0) → (n + m ≤ cap → a' = a ∧ cap' = cap) → WpA Γ ops hs nf (li.setIfInBounds i true) ⟨putFr s.fr dst (.slice a' (n + m) cap'), s.hp.set p (row e sz a' (n + m) cap' (xs.take (n * sz) ++ news))⟩ Q) : WpA Γ ops hs (nf + 1) li s Q := fun b w hS hL => by
  refine wpAnyH_all hr (by simp) fun j hj => ?_
  rw [List.mem_singleton.1 hj]
  have hsrcw := hsrc w hS.hs
  have t1 : Turn (row e sz a n0 cap xs) (row e sz a n cap (xs.take (n * sz))) := turn_cut n cap hn0 hncap (Nat.le_refl _)
  have hS1 : Sat Γ ⟨s.fr, s.hp.set p (row e sz a n cap (xs.take (n * sz)))⟩ b w := ent_turn p _ hp t1 rfl b w hS
  have hlt := (List.getElem?_eq_some_iff.1 hp).1
  have hget : (s.hp.set p (row e sz a n cap (xs.take (n * sz))))[p]? = some (row e sz a n cap (xs.take (n * sz))) := by simp [hlt]
  refine app_wpOp (s := ⟨s.fr, s.hp.set p (row e sz a n cap (xs.take (n * sz)))⟩) ho ht p hget h63 hb hS1 hsrcw fun a' cap' hn hfit b' w' hS' => ?_
  have hS'' := hS'
  simp only [List.set_set] at hS''
  have hL' : HL hs w' := fun c hc => hS''.hs.holds c (by
    have h1 := sub_of is hsub c hc
    obtain ⟨k, hk⟩ := List.getElem?_of_mem h1
    rw [List.getElem?_eraseIdx] at hk
    split at hk
    · rename_i hlt
      refine List.mem_of_getElem? (i := k) ?_
      rw [List.getElem?_set, if_neg (by omega)]; exact hk
    · rename_i hlt
      refine List.mem_of_getElem? (i := k + 1) ?_
      rw [List.getElem?_set, if_neg (by omega)]; exact hk)
  exact ⟨hL', h a' cap' hn hfit b' w' hS'' hL'⟩
theorem src_row_from {hp : Hp} {w : World} (h : HS hp w) (i : Nat) {T sz n cap g off q m c' : Nat} {xs : List Value} (hi : hp[i]? = some (row T sz (some ⟨g, off, none⟩) n cap xs)) (hq : q + m = n) {l : Int} (hl : l = q) : srcOk w sz (.slice (some ⟨g, sOff off l (cap : Int) sz, none⟩) m c') m (xs.drop (q * sz)) := by
  subst hl
  obtain ⟨h1, h2, h3, h4, h5⟩ := h.holds _ (List.mem_of_getElem? hi)
  refine ⟨fun u hu => h4 u (List.mem_of_mem_drop hu), rfl, ?_, ?_⟩
  · rw [List.length_drop, h1, ← hq, Nat.add_mul]; omega
  · unfold sOff
    split
    · have hz : xs.drop (q * sz) = [] := List.drop_eq_nil_of_le (by rw [h1]; exact Nat.mul_le_mul_right _ (by omega))
      rw [hz]; intro j u hu; simp at hu
    · have := cells_row h i hi (q * sz) (xs.length)
      rw [List.take_of_length_le (by simp)] at this
      exact this

/-! ### a stretch of a row's room is cleared -/
theorem clear_row {w : World} {T sz n cap g off q k : Nat} {xs vs : List Value} (h1 : Sx.One vs) (hl : vs.length = k * sz) (hr : rowH T sz (some ⟨g, off, none⟩) n cap xs w) (hq : n * sz ≤ q) (hk : q + k * sz ≤ cap * sz) :
    (storeCells ⟨g, off + q, none⟩ vs).run P w = .ok () (w.setCells g (off + q) vs) ∧ rowH T sz (some ⟨g, off, none⟩) n cap xs (w.setCells g (off + q) vs) := by
  obtain ⟨k1, k2, k3, k4, k5⟩ := hr
  by_cases hvs0 : vs = []
  · subst hvs0
    have hst := run_storeCells_cells (P := P) g (off + q) [] 0 w (fun j hj => absurd hj (by simp)) (fun j hj => absurd hj (by simp)) (fun u hu => by cases hu)
    simp only [Nat.add_zero] at hst
    exact ⟨hst, k1, k2, k3, k4, k5⟩
  have hvl : 0 < vs.length := List.length_pos_iff.2 hvs0
  rcases k5 with ⟨h, _⟩ | ⟨g', off', cur, fz, ha, hg, hs, hx, hfz⟩
  · subst h; rw [Nat.zero_mul] at hk; rw [hl] at hvl; omega
  · cases ha
    have hst := run_storeCells_cells (P := P) g (off + q) vs 0 w
      (fun j hj => by simp only [World.cell?, hg]; simp [show off + q + j < cur.size by omega])
      (fun j hj => by
        have h9 := hfz (off + q + 0 + j) (by omega)
        simp only [World.frozen?, hg]
        simp only [Bool.and_eq_false_iff, decide_eq_false_iff_not]
        omega) h1
    simp only [Nat.add_zero] at hst
    have hset := setCells_heap (news := vs) hg (show off + q + vs.length ≤ cur.size by omega)
    refine ⟨hst, k1, k2, k3, k4, .inr ⟨g, off, _, fz, rfl, hset, ?_, ?_, ?_⟩⟩
    · simp only [List.size_toArray, List.length_append, List.length_take, List.length_drop, Array.length_toList]; omega
    · simp only []
      rw [List.append_assoc, List.drop_append_of_le_length (by simp; omega), List.take_append_of_le_length (by simp; omega), List.drop_take, List.take_take, Nat.min_eq_left (by omega)]
      exact hx
    · intro o ho
      refine hfz o ?_
      simp only [List.size_toArray, List.length_append, List.length_take, List.length_drop, Array.length_toList] at ho
      omega

def clearOf (ops : Array Oper) (nt : Nat) (i : Nat) (fr : Fr) : Option (Value × TypeId × Option Nat) :=
  match opAt ops nt i fr with
  | some o => match o.op with
    | .call c => match c.callee, c.args.toList, c.argTypes.toList with
      | .builtin .clear, [x], [t] => some (ev fr x, t, o.dst)
      | _, _, _ => none
    | _ => none
  | none => none
/-- A slice's element type, and the cells of its zero. -/
def zeroTy (P : Program) (t : TypeId) : Option (List Value) :=
  match P.underlying t with
  | some (.slice e) => match P.info? e with
    | some i => match i.zero with
      | some z => some z.cells.toList
      | none => none
    | none => none
  | _ => none

theorem step_clear {ops : Array Oper} {i : Nat} {g off q k c : Nat} {t : TypeId} {dst : Option Nat} (hc : clearOf ops Γ.nt i s.fr = some (.slice (some ⟨g, off + q, none⟩) k c, t, dst)) {zs : List Value} (hz : zeroTy Γ.P t = some zs) (hz1 : Sx.One zs)
    (p : Nat) {T sz n cap : Nat} {xs : List Value} (hp : s.hp[p]? = some (row T sz (some ⟨g, off, none⟩) n cap xs)) (hzl : zs.length = sz) (hq : n * sz ≤ q) (hk : q + k * sz ≤ cap * sz) :
    Step Γ ops i s (fun s' => s' = ⟨putFr s.fr dst (.tuple #[]), s.hp⟩) := by
  unfold clearOf at hc
  split at hc
  case h_2 => cases hc
  case h_1 o ho =>
    split at hc
    case h_2 => cases hc
    case h_1 cl hop =>
      split at hc
      case h_2 => cases hc
      case h_1 x t' hcal hargs hts =>
        simp only [Option.some.injEq, Prod.mk.injEq] at hc
        obtain ⟨hx, rfl, rfl⟩ := hc
        have e1 : cl.args = #[x] := by apply Array.ext'; simpa using hargs
        have e2 : cl.argTypes = #[t'] := by apply Array.ext'; simpa using hts
        unfold zeroTy at hz
        split at hz
        case h_2 => cases hz
        case h_1 e hu =>
          split at hz
          case h_2 => cases hz
          case h_1 inf hi =>
            split at hz
            case h_2 => cases hz
            case h_1 z hzv =>
              simp only [Option.some.injEq] at hz
              subst hz
              intro Q b' w' hS K hK
              refine step_sem ho (fun v hp' => v = .tuple #[] ∧ hp' = s.hp) (fun w hw => ?_) Q b' w' hS K (fun s' ⟨v, hp', ⟨h1, h2⟩, h3⟩ => hK s' (by rw [h3, h1, h2]))
              cases k with
              | zero =>
                refine ⟨_, _, _, w, ?_, .inl rfl, ⟨rfl, rfl⟩, hw, Ext.refl _ _, Bd.self _ _⟩
                simp only [execOp, hop, resolve, hcal, e1, e2, invoke, builtin, Sem.run_bind, Sem.run_pure, Result.andThen_ok, List.map_toArray, List.map_cons, List.map_nil, hx]
                simp [Builtin.clear_, run_underlying hu]
              | succ k =>
                have hvl : (Builtin.zeroCells z.cells (k + 1)).toList.length = (k + 1) * sz := by
                  have := size_zeroCells z.cells (k + 1)
                  simp only [Array.length_toList, this]
                  rw [← hzl]; simp [Nat.mul_comm]
                have hone : Sx.One (Builtin.zeroCells z.cells (k + 1)).toList := by
                  have key : ∀ m, Sx.One (Builtin.zeroCells z.cells m).toList := by
                    intro m u hu
                    simp only [Builtin.zeroCells, Array.toList_map, List.mem_map, Array.toList_range, List.mem_range] at hu
                    obtain ⟨j, hj, rfl⟩ := hu
                    have hpos : 0 < z.cells.size := by
                      rcases Nat.eq_zero_or_pos z.cells.size with h | h
                      · rw [h] at hj; simp at hj
                      · exact h
                    have hlt := Nat.mod_lt j hpos
                    rw [getElem!_pos z.cells (j % z.cells.size) hlt]
                    exact hz1 _ (by simp)
                  exact key _
                obtain ⟨h2, h3⟩ := clear_row (P := Γ.P) hone hvl (hw.holds _ (List.mem_of_getElem? hp)) hq hk
                obtain ⟨z1, z2, z3, z4⟩ := setCells_size (g := g) (news := (Builtin.zeroCells z.cells (k + 1)).toList) (k := off + q) (w := w)
                have hsz : 0 < sz ∨ sz = 0 := by omega
                have hrest : ∀ j, ¬ (0 < cap ∧ rowOwn (some ⟨g, off, none⟩) j) → j < w.heap.size → (w.setCells g (off + q) (Builtin.zeroCells z.cells (k + 1)).toList).heap[j]? = w.heap[j]? := fun j hj _ => by
                  by_cases hvs0 : (Builtin.zeroCells z.cells (k + 1)).toList = []
                  · rw [hvs0]; rfl
                  · refine setCells_other (fun e => hj ⟨?_, _, rfl, e.symm⟩)
                    have hl : 0 < (Builtin.zeroCells z.cells (k + 1)).toList.length := List.length_pos_iff.2 hvs0
                    rcases Nat.eq_zero_or_pos cap with hc | hc
                    · subst hc; rw [Nat.zero_mul] at hk; omega
                    · exact hc
                have hw' := hw.put (c' := row T sz (some ⟨g, off, none⟩) n cap xs) hp trivial (fun k h => .inl h) h3 hrest
                have hset : s.hp.set p (row T sz (some ⟨g, off, none⟩) n cap xs) = s.hp := by
                  obtain ⟨hl, he⟩ := List.getElem?_eq_some_iff.1 hp
                  rw [← he]; exact List.set_getElem_self hl
                rw [hset] at hw'
                refine ⟨_, _, _, _, ?_, .inl rfl, ⟨rfl, rfl⟩, hw', ⟨z2, z3, z4, by rw [z1]; exact Nat.le_refl _, fun k hk hf => hrest k (fun ho => hf ⟨_, List.mem_of_getElem? hp, trivial, ho⟩) hk⟩, fun c hc hr k hk => .inl ⟨c, hc, hr, hk⟩⟩
                simp only [execOp, hop, resolve, hcal, e1, e2, invoke, builtin, Sem.run_bind, Sem.run_pure, Result.andThen_ok, List.map_toArray, List.map_cons, List.map_nil, hx]
                simp [Builtin.clear_, run_underlying hu, zeroValue, typeInfo, hi, hzv, h2]

/-! ### quiet operations of regions that draw: they read what no operation turns -/
theorem wpa_quiet [PanicOk Q] {ops : Array Oper} {hs : Hp} {li : Array Bool} {i n : Nat} {o : Oper} (hns : Region.noSelect ops = true) (ho : opAt ops Γ.nt i s.fr = some o)
    (hr : (Region.ready .any ops li).contains i = true) (hf : Region.free .any ops li i = true) (v : Value) (hrun : ∀ w, HL hs w → (execOp (ev s.fr) o).run Γ.P w = .ok (.value v) w)
    (h : WpA Γ ops hs n (li.setIfInBounds i true) ⟨putFr s.fr o.dst v, s.hp⟩ Q) : WpA Γ ops hs (n + 1) li s Q := fun a w hS hL => by
  unfold opAt at ho
  split at ho
  · cases ho
  · rename_i o' hoi
    split at ho
    · rename_i hd hw hk
      simp only [Option.some.injEq] at ho
      subst ho
      have hQ : ∀ c (a : Act) w, Q (.panic c) (a.put o'.dst v) w → Q (.panic c) a w := fun c a w h => PanicOk.ok (Q := Q) c _ a w (defers_put _ _) h
      exact wpAnyH_take hoi hns hf hr hQ (.inl ⟨wants_ok hS.fr hw, fun w' hw' => by rw [ev_eq hS.fr hk]; exact hrun w' hw'⟩) hL (h _ _ (hS.put hd v) hL)
    · cases ho
theorem b2s_roL {hs : Hp} {w : World} (h : HL hs w) (i : Nat) {a : Option Addr} {l : List UInt8} (hi : hs[i]? = some (ro a (u8s l))) : (a = none → l = []) ∧ ∀ ad, a = some ad → cellsAt w ad (u8s l) := by
  obtain ⟨h1, h2⟩ := h _ (List.mem_of_getElem? hi)
  cases a with
  | none => exact ⟨fun _ => by have h2 : u8s l = [] := h2; simpa [u8s] using h2, fun ad h => by cases h⟩
  | some ad => exact ⟨fun h => (by cases h), fun ad h => by cases h; exact h2⟩
theorem wpa_qb2s [PanicOk Q] {ops : Array Oper} {hs : Hp} {li : Array Bool} {i n : Nat} (hns : Region.noSelect ops = true) (hr : (Region.ready .any ops li).contains i = true) (hf : Region.free .any ops li i = true)
    {a b : TypeId} {ad : Option Addr} {m c : Nat} {dst : Option Nat} (hc : convOf ops Γ.nt i s.fr = some (a, b, .slice ad m c, dst)) (ht : b2sTy Γ.P a b = true) (l : List UInt8) (hn : m = l.length)
    (hl : ∀ w, HL hs w → (ad = none → l = []) ∧ ∀ x, ad = some x → cellsAt w x (u8s l))
    (h : WpA Γ ops hs n (li.setIfInBounds i true) ⟨putFr s.fr dst (.string (mkS l)), s.hp⟩ Q) : WpA Γ ops hs (n + 1) li s Q := by
  unfold convOf at hc
  split at hc
  · rename_i o ho
    split at hc
    · rename_i a' b' x hop
      simp only [Option.some.injEq, Prod.mk.injEq] at hc
      obtain ⟨rfl, rfl, hx, rfl⟩ := hc
      unfold b2sTy at ht
      split at ht
      · rename_i e hs' hd
        split at ht
        · rename_i he
          refine wpa_quiet hns ho hr hf (.string (mkS l)) (fun w hw => ?_) h
          have h1 := run_b2s (P := Γ.P) (w := w) (a := ad) (n := m) (c := c) hn (hl w hw).1 (hl w hw).2
          have h2 : (convert a' b' (.slice ad m c)).run Γ.P w = .ok (.string (mkS l)) w := by
            cases ad <;> simp [convert, run_underlying hs', run_underlying hd, run_underlying he, h1]
          simp only [execOp, hop, hx, Sem.run_bind, Sem.run_pure, Result.andThen_ok, h2]
        · cases ht
      · cases ht
    · cases hc
  · cases hc
theorem wpa_qld [PanicOk Q] {ops : Array Oper} {hs : Hp} {li : Array Bool} {i n : Nat} (hns : Region.noSelect ops = true) (hr : (Region.ready .any ops li).contains i = true) (hf : Region.free .any ops li i = true)
    {t : TypeId} {a : Addr} {dst : Option Nat} (hc : loadOf ops Γ.nt i s.fr = some (t, .pointer (some a), dst)) (b : Bool) (k : Nat) (ht : aggTy Γ.P t = some (b, k)) (hb : b = false → k = 1) (vs : List Value) (hv : vs.length = k)
    (hl : ∀ w, HL hs w → cellsAt w a vs)
    (h : WpA Γ ops hs n (li.setIfInBounds i true) ⟨putFr s.fr dst (valOf b vs), s.hp⟩ Q) : WpA Γ ops hs (n + 1) li s Q := by
  unfold loadOf at hc
  split at hc
  · rename_i o ho
    split at hc
    · rename_i t' p hop
      simp only [Option.some.injEq, Prod.mk.injEq] at hc
      obtain ⟨rfl, hp, rfl⟩ := hc
      refine wpa_quiet hns ho hr hf (valOf b vs) (fun w hw => ?_) h
      simp only [execOp, hop, hp, Instr.loadAt, Instr.sureAddr, Sem.run_bind, Sem.run_pure, Result.andThen_ok, run_loadVar' ht hv hb (hl w hw)]
    · cases hc
  · cases hc
theorem ld_roL {hs : Hp} {w : World} (h : HL hs w) (i : Nat) {g off : Nat} {xs : List Value} (hi : hs[i]? = some (ro (some ⟨g, off, none⟩) xs)) (q : Nat) {vs : List Value} (hv : (xs.drop q).take vs.length = vs) : cellsAt w ⟨g, off + q, none⟩ vs := fun j u hu => by
  have h1 := (h _ (List.mem_of_getElem? hi)).2
  rw [← hv, List.getElem?_take] at hu
  split at hu
  · rw [List.getElem?_drop] at hu
    rw [add_lit', Nat.add_assoc, ← add_lit']; exact h1 _ _ hu
  · cases hu

/-! ### one of several operations that may come next -/
theorem wpi_one {ops : Array Oper} {hs : Hp} {li : Array Bool} (md : Bool) (i : Nat) (sc : List Nat) (fr' : Fr) (hp' : Hp) (vc : List Prop) {n : Nat}
    (h1 : (sop Γ.P md ops Γ.nt i s.fr s.hp none sc).isSome = true)
    (h2 : (sop Γ.P md ops Γ.nt i s.fr s.hp none sc).map (fun r => (fr'.map (fun p => look r.fr p.1), r.hp, r.gs, r.vc)) = (sop Γ.P md ops Γ.nt i s.fr s.hp none sc).map (fun r => (fr'.map (fun p => some p.2), hp', r.ws, vc)))
    (hv : AllP vc) (hsub : Sub hs hp') (h : WpA Γ ops hs n (li.setIfInBounds i true) ⟨fr', hp'⟩ Q) : WpI Γ ops hs n li s Q i := fun a w hS hL => by
  obtain ⟨r, hrs⟩ := Option.isSome_iff_exists.1 h1
  rw [hrs] at h2
  simp only [Option.map_some, Option.some.injEq, Prod.mk.injEq] at h2
  obtain ⟨h3, h4, h5, h6⟩ := h2
  refine sop_sound hrs h5 (h6 ▸ hv) hS (fun m hm => by cases hm) fun a' w' hS' _ => ?_
  rw [h4] at hS'
  have hL' : HL hs w' := fun c hc => hS'.hs.holds c (hsub c hc)
  exact ⟨hL', h a' w' (hS'.frames h3) hL'⟩
theorem wpi_new {ops : Array Oper} {hs : Hp} {li : Array Bool} (md : Bool) (i : Nat) (sc : List Nat) (fr' : Nat → Fr) (hp' : Nat → Hp) (vc : Nat → List Prop) {n : Nat}
    (h1 : ∀ g, (sop Γ.P md ops Γ.nt i s.fr s.hp (some g) sc).isSome = true)
    (h2 : ∀ g, (sop Γ.P md ops Γ.nt i s.fr s.hp (some g) sc).map (fun r => ((fr' g).map (fun p => look r.fr p.1), r.hp, r.gs, r.vc)) = (sop Γ.P md ops Γ.nt i s.fr s.hp (some g) sc).map (fun r => ((fr' g).map (fun p => some p.2), hp' g, r.ws, vc g)))
    (hv : ∀ g, AllP (vc g)) (hsub : ∀ g, Sub hs (hp' g)) (h : ∀ g, WpA Γ ops hs n (li.setIfInBounds i true) ⟨fr' g, hp' g⟩ Q) : WpI Γ ops hs n li s Q i := fun a w hS hL => by
  obtain ⟨r, hrs⟩ := Option.isSome_iff_exists.1 (h1 w.heap.size)
  have h2 := h2 w.heap.size
  rw [hrs] at h2
  simp only [Option.map_some, Option.some.injEq, Prod.mk.injEq] at h2
  obtain ⟨h3, h4, h5, h6⟩ := h2
  refine sop_sound hrs h5 (h6 ▸ hv _) hS (fun m hm => by cases hm; rfl) fun a' w' hS' _ => ?_
  rw [h4] at hS'
  have hL' : HL hs w' := fun c hc => hS'.hs.holds c (hsub _ c hc)
  exact ⟨hL', h _ a' w' (hS'.frames h3) hL'⟩
theorem wpi_app {ops : Array Oper} {hs : Hp} {li : Array Bool} {i : Nat} {nf : Nat} {a : Option Addr} {n cap : Nat} {x : Value} {t xt : TypeId} {dst : Option Nat} (ho : appOf ops Γ.nt i s.fr = some (.slice a n cap, x, t, xt, dst))
    {e sz bytes : Nat} (ht : rowTy Γ.P t xt = some (e, sz, bytes)) (p : Nat) {xs : List Value} (hp : s.hp[p]? = some (row e sz a n cap xs)) {m : Nat} {news : List Value} (hsrc : ∀ w, HS s.hp w → srcOk w sz x m news)
    (h63 : n + m ≤ maxLen) (hb : (n + m) * bytes ≤ 140737488355328) (is : List Nat) (hsub : is.map (fun i => (s.hp.eraseIdx p)[i]?) = hs.map some)
    (h : ∀ a' cap', (a' = none ↔ a = none ∧ m = 0) → WpA Γ ops hs nf (li.setIfInBounds i true) ⟨putFr s.fr dst (.slice a' (n + m) cap'), s.hp.set p (row e sz a' (n + m) cap' (xs ++ news))⟩ Q) : WpI Γ ops hs nf li s Q i := fun b w hS hL => by
  refine app_wpOp ho ht p hp h63 hb hS (hsrc w hS.hs) fun a' cap' hn _ b' w' hS' => ?_
  have hL' : HL hs w' := fun c hc => hS'.hs.holds c (by
    have h1 := sub_of is hsub c hc
    obtain ⟨k, hk⟩ := List.getElem?_of_mem h1
    rw [List.getElem?_eraseIdx] at hk
    split at hk
    · rename_i hlt
      refine List.mem_of_getElem? (i := k) ?_
      rw [List.getElem?_set, if_neg (by omega)]; exact hk
    · rename_i hlt
      refine List.mem_of_getElem? (i := k + 1) ?_
      rw [List.getElem?_set, if_neg (by omega)]; exact hk)
  exact ⟨hL', h a' cap' hn b' w' hS' hL'⟩
theorem wpi_ent {s' : St} {ops : Array Oper} {hs : Hp} {n : Nat} {li : Array Bool} {i : Nat} (e : Ent Γ s s') (h : WpI Γ ops hs n li s' Q i) : WpI Γ ops hs n li s Q i := fun a w hS hL => h a w (e a w hS) hL
/-- As many as may come up: each is gone through. -/
theorem wpa_all {ops : Array Oper} {hs : Hp} {li : Array Bool} {n : Nat} (l : List Nat) (hr : Region.ready .any ops li = l) (hne : l ≠ []) (h : ∀ i ∈ l, WpI Γ ops hs n li s Q i) : WpA Γ ops hs (n + 1) li s Q := fun a w hS hL => by
  refine wpAnyH_all hr hne fun k hk => ?_
  exact h k hk a w hS hL
theorem wpa_three {ops : Array Oper} {hs : Hp} {li : Array Bool} {i j k n : Nat} (hr : Region.ready .any ops li = [i, j, k]) (h1 : WpI Γ ops hs n li s Q i) (h2 : WpI Γ ops hs n li s Q j) (h3 : WpI Γ ops hs n li s Q k) : WpA Γ ops hs (n + 1) li s Q :=
  wpa_all _ hr (by simp) fun q hq => by
    simp only [List.mem_cons, List.mem_nil_iff, or_false] at hq
    rcases hq with rfl | rfl | rfl
    · exact h1
    · exact h2
    · exact h3

/-! ### ways that meet again, at places not the same -/
theorem wpr_joinx {X : Type} {ops : Array Oper} {l : List Nat} (S : X → St) (h1 : ∀ Q', PanicOk Q' → (∀ x, Nx Γ (S x) Q' .normal) → WpR Γ ops l s Q') [hQ : PanicOk Q] (h2 : ∀ x, Nx Γ (S x) Q .normal) : WpR Γ ops l s Q := h1 Q hQ h2
theorem wpa_joinx {X : Type} {ops : Array Oper} {hs : Hp} {n : Nat} {li : Array Bool} (S : X → St) (h1 : ∀ Q', PanicOk Q' → (∀ x, Nx Γ (S x) Q' .normal) → WpA Γ ops hs n li s Q') [hQ : PanicOk Q] (h2 : ∀ x, Nx Γ (S x) Q .normal) : WpA Γ ops hs n li s Q := h1 Q hQ h2
theorem wpc_joinx {X : Type} {c : Code} (S : X → St) (h1 : ∀ Q', PanicOk Q' → (∀ x, Nx Γ (S x) Q' .normal) → WpC Γ c s Q') [hQ : PanicOk Q] (h2 : ∀ x, Nx Γ (S x) Q .normal) : WpC Γ c s Q := h1 Q hQ h2

theorem wpa_fact {ops : Array Oper} {hs : Hp} {n : Nat} {li : Array Bool} {p : Prop} (hp : ∀ w, HS s.hp w → p) (h : p → WpA Γ ops hs n li s Q) : WpA Γ ops hs n li s Q := fun a w hS hL => h (hp w hS.hs) a w hS hL
theorem does_fact {f : FuncId} {args : List Value} {pre : Hp} {R : Value → Hp → Prop} {p : Prop} (hp : ∀ w, HS pre w → p) (h : p → Does P f args pre R) : Does P f args pre R := fun w hw => h (hp w hw) w hw

/-! ### a part of what is read alone -/
theorem view_front {a : Option Addr} {xs : List Value} (k : Nat) : View (ro a xs) (ro a (xs.take k)) where
  holds := fun w ⟨h1, h2⟩ => ⟨fun u hu => h1 u (List.mem_of_mem_take hu), by
    cases a with
    | none => have h2 : xs = [] := h2; subst h2; exact List.take_nil
    | some ad =>
      intro j u hu
      rw [List.getElem?_take] at hu
      split at hu
      · exact h2 j u hu
      · cases hu⟩
  own := fun _ _ k' ⟨h1, hne⟩ => ⟨h1, fun e => hne (by simp [e])⟩
  ro := fun h => h
theorem view_rest {g off : Nat} {xs : List Value} (q off' : Nat) (ho : q < xs.length → off' = off + q) : View (ro (some ⟨g, off, none⟩) xs) (ro (some ⟨g, off', none⟩) (xs.drop q)) where
  holds := fun w ⟨h1, h2⟩ => ⟨fun u hu => h1 u (List.mem_of_mem_drop hu), by
    intro j u hu
    have hj := (List.getElem?_eq_some_iff.1 hu).1
    rw [List.length_drop] at hj
    rw [List.getElem?_drop] at hu
    have h3 : cellsAt w _ xs := h2
    have h4 := h3 (q + j) u hu
    rw [add_lit'] at h4 ⊢
    rw [ho (by omega), Nat.add_assoc]; exact h4⟩
  own := fun _ _ k' ⟨⟨ad, ha, hk⟩, hne⟩ => ⟨⟨_, rfl, by cases ha; exact hk⟩, fun e => hne (by simp [e])⟩
  ro := fun h => h
theorem View.trans {c d e : Ch} (h : View c d) (k : View d e) : View c e := ⟨fun w hw => k.holds w (h.holds w hw), fun w hw x hx => h.own w hw x (k.own w (h.holds w hw) x hx), k.ro⟩
/-- What is read alone may be laid twice. -/
theorem ent_copy {fr : Fr} {hp : Hp} (i : Nat) {c : Ch} (c' : Ch) (hi : hp[i]? = some c) (hc : ¬ c.rw) (v : View c c') : Ent Γ ⟨fr, hp⟩ ⟨fr, c' :: hp⟩ := fun a w h => by
  have hcw := h.hs.holds c (List.mem_of_getElem? hi)
  refine ⟨h.size, h.defers, h.fr, ⟨fun d hd => ?_, List.pairwise_cons.2 ⟨fun d hd => ?_, h.hs.apart⟩⟩, h.ext, fun d hd hr k hk => ?_⟩
  · rcases List.mem_cons.1 hd with rfl | hd
    · exact v.holds w hcw
    · exact h.hs.holds d hd
  · by_cases hr : d.rw
    · obtain ⟨j, hj⟩ := List.getElem?_of_mem hd
      have hij : i ≠ j := by rintro rfl; rw [hi] at hj; cases hj; exact hc hr
      rcases pairwise_get h.hs.apart hij hi hj with ⟨_, h2⟩ | h2
      · exact absurd hr h2
      · exact .inr fun k hk => h2 k (v.own w hcw k hk)
    · exact .inl ⟨v.ro, hr⟩
  · rcases List.mem_cons.1 hd with rfl | hd
    · exact absurd hr v.ro
    · exact h.bd d hd hr k hk

/-! ### a function value is called whose function is not known -/
def enters (P : Program) (f : FuncId) : Bool := match P.funcs[f]? with | some fn => fn.name != "runtime.NumGoroutine" && !fn.body.isNone | none => false
theorem run_enters {f : FuncId} (h : enters P f = true) (args : Array Value) (w : World) : (callFunc f args).run P w = .ok (.enter f args) w := by
  unfold enters at h
  split at h
  · rename_i fn hfn
    simp only [Bool.and_eq_true, bne_iff_ne, ne_eq, Bool.not_eq_true'] at h
    unfold callFunc
    simp only [Sem.run_bind, run_program, Result.andThen_ok, hfn]
    rw [if_neg (by simpa using h.1), if_neg (by rw [h.2]; decide)]
    rfl
  · cases h
def callvOf (ops : Array Oper) (nt : Nat) (i : Nat) (fr : Fr) : Option (Value × List Value × Option Nat) :=
  match opAt ops nt i fr with
  | some o => match o.op with
    | .call c => match c.callee with
      | .value f => some (ev fr f, (c.args.map (ev fr)).toList, o.dst)
      | _ => none
    | _ => none
  | none => none
theorem callv_sound {ops : Array Oper} {i : Nat} {f : FuncId} {first caps : Array Value} {args : List Value} {dst : Option Nat} (hc : callvOf ops Γ.nt i s.fr = some (.func (.func f) first caps, args, dst)) (he : enters Γ.P f = true)
    {pre rest : Hp} {R : Value → Hp → Prop} (hf : Does Γ.P f (first.toList ++ args ++ caps.toList) pre R) (g : Give s.hp pre rest) {a : Act} {w : World} (hS : Sat Γ s a w) {K : Act → World → Prop}
    (hK : ∀ v hp', R v hp' → ∀ a' w', Sat Γ ⟨putFr s.fr dst v, hp' ++ rest⟩ a' w' → K a' w') : wpOp Γ.P ops Q i K a w := by
  unfold callvOf opAt at hc
  unfold wpOp
  cases hoi : ops[i]? with
  | none => rw [hoi] at hc; cases hc
  | some o =>
    rw [hoi] at hc
    simp only at hc ⊢
    split at hc
    case h_2 => cases hc
    case h_1 o' ho' =>
      split at ho'
      case h_2 => cases ho'
      case h_1 hd hw hk =>
        simp only [Option.some.injEq] at ho'
        subst ho'
        split at hc
        case h_2 => cases hc
        case h_1 c hop =>
          split at hc
          case h_2 => cases hc
          case h_1 fo hcal =>
            simp only [Option.some.injEq, Prod.mk.injEq] at hc
            obtain ⟨hfo, hargs, rfl⟩ := hc
            rw [wants_ok hS.fr hw]
            simp only [if_true]
            refine .inl ?_
            unfold Oper.wp
            have hrun : (execOp (ev s.fr) o).run Γ.P w = .ok (.enter f (first ++ (c.args.map (ev s.fr)) ++ caps)) w := by
              unfold execOp
              rw [hop]
              simp only [resolve, hcal, hfo, Deferred.ofValue, invoke, Sem.run_bind, Sem.run_pure, Result.andThen_ok, run_enters he]
            rw [ev_eq hS.fr hk, hrun]
            have hl : (first ++ (c.args.map (ev s.fr)) ++ caps) = (first.toList ++ args ++ caps.toList).toArray := by
              apply Array.ext'; rw [← hargs]; simp
            rw [hl]
            refine Calls.mono (hf w (g.sat w hS.hs).1) ?_
            rintro e w' ⟨v, hp', hR, rfl, h1, h2, h3, h4⟩
            obtain ⟨k1, k2, k3⟩ := hS.behind g h1 h2 h3 h4
            exact hK v hp' hR _ _ ⟨(size_put _ _).trans hS.size, (defers_put _ _).trans hS.defers, FrOk.putFr hS.fr hS.size hd v, k1, k2, k3⟩
theorem wpr_callv {ops : Array Oper} {i : Nat} {l₂ : List Nat} {f : FuncId} {first caps : Array Value} {args : List Value} {dst : Option Nat} (hc : callvOf ops Γ.nt i s.fr = some (.func (.func f) first caps, args, dst)) (he : enters Γ.P f = true)
    {pre rest : Hp} {R : Value → Hp → Prop} (hf : Does Γ.P f (first.toList ++ args ++ caps.toList) pre R) (g : Give s.hp pre rest)
    (h : ∀ v hp', R v hp' → WpR Γ ops l₂ ⟨putFr s.fr dst v, hp' ++ rest⟩ Q) : WpR Γ ops (i :: l₂) s Q := fun a w hS => by
  rw [wpOps_cons]
  exact callv_sound hc he hf g hS fun v hp' hR a' w' hS' => h v hp' hR a' w' hS'
theorem wpr_callv_all {ops : Array Oper} {i : Nat} {l₂ : List Nat} {f : FuncId} {first caps : Array Value} {args : List Value} {dst : Option Nat} (hc : callvOf ops Γ.nt i s.fr = some (.func (.func f) first caps, args, dst)) (he : enters Γ.P f = true)
    {pre : Hp} {R : Value → Hp → Prop} (hf : Does Γ.P f (first.toList ++ args ++ caps.toList) pre R) (g : Give s.hp pre [])
    (h : ∀ v hp', R v hp' → WpR Γ ops l₂ ⟨putFr s.fr dst v, hp'⟩ Q) : WpR Γ ops (i :: l₂) s Q :=
  wpr_callv hc he hf g fun v hp' hR => by rw [List.append_nil]; exact h v hp' hR
theorem wpa_callv {ops : Array Oper} {hs : Hp} {li : Array Bool} {i : Nat} {n : Nat} (hr : Region.ready .any ops li = [i]) {f : FuncId} {first caps : Array Value} {args : List Value} {dst : Option Nat} (hc : callvOf ops Γ.nt i s.fr = some (.func (.func f) first caps, args, dst)) (he : enters Γ.P f = true)
    {pre rest : Hp} {R : Value → Hp → Prop} (hf : Does Γ.P f (first.toList ++ args ++ caps.toList) pre R) (g : Give s.hp pre rest) (hsub : Sub hs rest)
    (h : ∀ v hp', R v hp' → WpA Γ ops hs n (li.setIfInBounds i true) ⟨putFr s.fr dst v, hp' ++ rest⟩ Q) : WpA Γ ops hs (n + 1) li s Q := fun a w hS hL => by
  refine wpAnyH_all hr (by simp) fun j hj => ?_
  rw [List.mem_singleton.1 hj]
  refine callv_sound hc he hf g hS fun v hp' hR a' w' hS' => ?_
  have hL' : HL hs w' := fun c hc => hS'.hs.holds c (List.mem_append.2 (.inr (hsub c hc)))
  exact ⟨hL', h v hp' hR a' w' hS' hL'⟩

/-! ### heaps within one chunk -/
def starQ (hp : Hp) : Oq where
  own := fun k => ∃ c ∈ hp, c.own k
  rw := True
  holds := fun w => HS hp w ∧ ∀ c ∈ hp, c.rw
  loc := fun w w' hk ⟨h, hr⟩ => ⟨⟨fun c hc => c.loc (fun k hck => hk k ⟨c, hc, hck⟩) (h.holds c hc), h.apart⟩, hr⟩
  lt := fun w k ⟨h, _⟩ ⟨c, hc, hck⟩ => c.lt (h.holds c hc) hck
/-- Chunks that may all be written, as one. -/
def star (hp : Hp) : Ch := .op (starQ hp)
theorem ent_star {fr : Fr} {hp rest : Hp} (hr : ∀ c ∈ hp, c.rw) : Ent Γ ⟨fr, hp ++ rest⟩ ⟨fr, star hp :: rest⟩ := fun a w h => by
  obtain ⟨h1, h2, h3⟩ := h.hs.split
  refine ⟨h.size, h.defers, h.fr, ⟨fun c hc => ?_, List.pairwise_cons.2 ⟨fun d hd => .inr fun k hk hdk => ?_, h2.apart⟩⟩, h.ext, fun c hc hcr k hk => ?_⟩
  · rcases List.mem_cons.1 hc with rfl | hc
    · exact ⟨h1, hr⟩
    · exact h2.holds c hc
  · obtain ⟨c, hc, hck⟩ := hk
    rcases h3 c hc d hd with ⟨h4, _⟩ | h4
    · exact h4 (hr c hc)
    · exact h4 k hck hdk
  · rcases List.mem_cons.1 hc with rfl | hc
    · obtain ⟨d, hd, hdk⟩ := hk
      exact h.bd d (List.mem_append.2 (.inl hd)) (hr d hd) k hdk
    · exact h.bd c (List.mem_append.2 (.inr hc)) hcr k hk
theorem ent_unstar {fr : Fr} {hp rest : Hp} : Ent Γ ⟨fr, star hp :: rest⟩ ⟨fr, hp ++ rest⟩ := fun a w h => by
  have h1 := h.hs.holds (star hp) (by simp)
  have h2 := List.pairwise_cons.1 h.hs.apart
  obtain ⟨h3, h4⟩ : HS hp w ∧ ∀ c ∈ hp, c.rw := h1
  refine ⟨h.size, h.defers, h.fr, ⟨fun c hc => ?_, List.pairwise_append.2 ⟨h3.apart, h2.2, fun c hc d hd => .inr fun k hk hdk => ?_⟩⟩, h.ext, fun c hc hcr k hk => ?_⟩
  · rcases List.mem_append.1 hc with hc | hc
    · exact h3.holds c hc
    · exact h.hs.holds c (List.mem_cons_of_mem _ hc)
  · rcases h2.1 d hd with ⟨h5, _⟩ | h5
    · exact h5 trivial
    · exact h5 k ⟨c, hc, hk⟩ hdk
  · rcases List.mem_append.1 hc with hc | hc
    · exact h.bd (star hp) (by simp) trivial k ⟨c, hc, hk⟩
    · exact h.bd c (List.mem_cons_of_mem _ hc) hcr k hk
end Go.Sx
