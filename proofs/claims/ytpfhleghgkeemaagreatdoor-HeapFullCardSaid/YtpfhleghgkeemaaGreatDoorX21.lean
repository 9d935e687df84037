import Derived.Test.YtpfhleghgkeemaaGreatDoorX20
import Derived.Laws.MakeOwn
/-
  A slice that is made, of a length that is not known; a copy into a row of the function's own.
-/
namespace Go.Sx
open Go
set_option linter.unusedVariables false
variable {Γ : Cx} {s : St} {Q : Exit → Act → World → Prop}

theorem storeCells_row {P : Program} {w : World} {vs : List Value} (h1 : Sx.One vs) {T sz n cap g off q : Nat} {xs : List Value} (hr : rowH T sz (some ⟨g, off, none⟩) n cap xs w) (hq : q + vs.length ≤ xs.length) :
    (storeCells ⟨g, off + q, none⟩ vs).run P w = .ok () (w.setCells g (off + q) vs) ∧ rowH T sz (some ⟨g, off, none⟩) n cap (xs.take q ++ vs ++ xs.drop (q + vs.length)) (w.setCells g (off + q) vs) := by
  obtain ⟨k1, k2, k3, k4, k5⟩ := hr
  by_cases hvs0 : vs = []
  · subst hvs0
    have hst := run_storeCells_cells (P := P) g (off + q) [] 0 w (fun j hj => absurd hj (by simp)) (fun j hj => absurd hj (by simp)) (fun u hu => by cases hu)
    simp only [Nat.add_zero] at hst
    refine ⟨hst, ?_⟩
    have e1 : xs.take q ++ [] ++ xs.drop (q + ([] : List Value).length) = xs := by simp
    rw [e1]; exact ⟨k1, k2, k3, k4, k5⟩
  rcases k5 with ⟨h, _⟩ | ⟨g', off', cur, fz, ha, hg, hs, hx, hfz⟩
  · have hn : n = 0 := by omega
    rw [hn, Nat.zero_mul] at k1
    have : 0 < vs.length := List.length_pos_iff.2 hvs0
    omega
  · cases ha
    have hns : n * sz ≤ cap * sz := Nat.mul_le_mul_right _ k2
    have hst := run_storeCells_cells (P := P) g (off + q) vs 0 w
      (fun j hj => by simp only [World.cell?, hg]; simp [show off + q + j < cur.size by omega])
      (fun j hj => by
        have h9 := hfz (off + q + 0 + j) (by omega)
        simp only [World.frozen?, hg]
        simp only [Bool.and_eq_false_iff, decide_eq_false_iff_not]
        omega) h1
    simp only [Nat.add_zero] at hst
    have hset := setCells_heap (news := vs) hg (show off + q + vs.length ≤ cur.size by omega)
    refine ⟨hst, ?_, k2, k3, ?_, .inr ⟨g, off, _, fz, rfl, hset, ?_, ?_, ?_⟩⟩
    · simp only [List.length_append, List.length_take, List.length_drop]; omega
    · intro u hu
      rcases List.mem_append.1 hu with hu | hu
      · rcases List.mem_append.1 hu with hu | hu
        · exact k4 u (List.mem_of_mem_take hu)
        · exact h1 u hu
      · exact k4 u (List.mem_of_mem_drop hu)
    · simp only [List.size_toArray, List.length_append, List.length_take, List.length_drop, Array.length_toList]; omega
    · have e1 : (cur.toList.take (off + q)).drop off = xs.take q := by
        rw [List.drop_take, Nat.add_sub_cancel_left, ← hx, List.take_take, Nat.min_eq_left (by omega)]
      have e2 : (cur.toList.take (off + q) ++ vs ++ cur.toList.drop (off + q + vs.length)).drop off = xs.take q ++ vs ++ cur.toList.drop (off + q + vs.length) := by
        rw [List.append_assoc, List.drop_append_of_le_length (by simp; omega), e1, List.append_assoc]
      have e3 : xs.drop (q + vs.length) = (cur.toList.drop (off + q + vs.length)).take (n * sz - (q + vs.length)) := by
        rw [← hx, List.drop_take, List.drop_drop, Nat.add_assoc]
      simp only [e2, e3]
      rw [List.take_append, List.take_of_length_le (by simp; omega)]
      congr 2
      simp only [List.length_append, List.length_take]
      omega
    · intro o ho
      refine hfz o ?_
      simp only [List.size_toArray, List.length_append, List.length_take, List.length_drop, Array.length_toList] at ho
      omega
/-- What is copied: into which slice, out of what, the type, the slot. -/
def copyOf (ops : Array Oper) (nt : Nat) (i : Nat) (fr : Fr) : Option (Value × Value × TypeId × Option Nat) :=
  match opAt ops nt i fr with
  | some o => match o.op with
    | .call c => match c.callee, c.args.toList, c.argTypes.toList with
      | .builtin .copy, [x, y], [t, _] => some (ev fr x, ev fr y, t, o.dst)
      | _, _, _ => none
    | _ => none
  | none => none
def elTy (P : Program) (t : TypeId) : Option (TypeId × Nat) :=
  match P.underlying t with
  | some (.slice e) => match P.info? e with
    | some i => some (e, i.size)
    | none => none
  | _ => none
theorem step_copy {ops : Array Oper} {i : Nat} {g off q dl dc : Nat} {x : Value} {t : TypeId} {dst : Option Nat} (hc : copyOf ops Γ.nt i s.fr = some (.slice (some ⟨g, off + q, none⟩) dl dc, x, t, dst)) {e sz : Nat} (ht : elTy Γ.P t = some (e, sz))
    (p : Nat) {T n cap : Nat} {xs : List Value} (hp : s.hp[p]? = some (row T sz (some ⟨g, off, none⟩) n cap xs)) {m : Nat} {news : List Value} (hsrc : ∀ w, HS s.hp w → srcOk w sz x m news) (hm : m ≤ dl) (hq : q + m * sz ≤ xs.length)
    {xs' : List Value} (hx : xs.take q ++ news ++ xs.drop (q + news.length) = xs') :
    Step Γ ops i s (fun s' => s' = ⟨putFr s.fr dst (.int .i64 (m : Int)), s.hp.set p (row T sz (some ⟨g, off, none⟩) n cap xs')⟩) := by
  subst hx
  unfold copyOf at hc
  split at hc
  case h_2 => cases hc
  case h_1 o ho =>
    split at hc
    case h_2 => cases hc
    case h_1 cl hop =>
      split at hc
      case h_2 => cases hc
      case h_1 a b t' t2 hcal hargs hts =>
        simp only [Option.some.injEq, Prod.mk.injEq] at hc
        obtain ⟨ha, hb, rfl, rfl⟩ := hc
        have e1 : cl.args = #[a, b] := by apply Array.ext'; simpa using hargs
        have e2 : cl.argTypes = #[t', t2] := by apply Array.ext'; simpa using hts
        unfold elTy at ht
        split at ht
        case h_2 => cases ht
        case h_1 e' hu =>
          split at ht
          case h_2 => cases ht
          case h_1 inf hi =>
            simp only [Option.some.injEq, Prod.mk.injEq] at ht
            obtain ⟨rfl, rfl⟩ := ht
            intro Q b' w' hS K hK
            refine step_sem ho (fun v hp' => v = .int .i64 (m : Int) ∧ hp' = s.hp.set p (row T inf.size (some ⟨g, off, none⟩) n cap (xs.take q ++ news ++ xs.drop (q + news.length)))) (fun w hw => ?_) Q b' w' hS K (fun s' ⟨v, hp', ⟨h1, h2⟩, h3⟩ => hK s' (by rw [h3, h1, h2]))
            have hs := hsrc w hw
            have hnl := src_len hs
            have hrow := hw.holds _ (List.mem_of_getElem? hp)
            obtain ⟨h2, h3⟩ := storeCells_row (P := Γ.P) (vs := news) (q := q) hs.1 hrow (by omega)
            obtain ⟨z1, z2, z3, z4⟩ := setCells_size (g := g) (news := news) (k := off + q) (w := w)
            have hrest : ∀ k, ¬ (0 < cap ∧ rowOwn (some ⟨g, off, none⟩) k) → k < w.heap.size → (w.setCells g (off + q) news).heap[k]? = w.heap[k]? := fun k hk _ => by
              by_cases hvs0 : news = []
              · subst hvs0; rfl
              · refine setCells_other (fun e => hk ⟨?_, _, rfl, e.symm⟩)
                obtain ⟨r1, r2, _⟩ := hrow
                have hl : 0 < news.length := List.length_pos_iff.2 hvs0
                rcases Nat.eq_zero_or_pos cap with hc | hc
                · have hn : n = 0 := by omega
                  rw [hn, Nat.zero_mul] at r1; omega
                · exact hc
            refine ⟨.value (.int .i64 (m : Int)), _, _, _, ?_, .inl rfl, ⟨rfl, rfl⟩, hw.put (c' := row T inf.size (some ⟨g, off, none⟩) n cap (xs.take q ++ news ++ xs.drop (q + news.length))) hp trivial (fun k h => .inl h) h3 hrest, ?_, Bd.put (c' := row T inf.size (some ⟨g, off, none⟩) n cap (xs.take q ++ news ++ xs.drop (q + news.length))) hp trivial (fun k h => .inl h)⟩
            · have hlen := src_lenOf (P := Γ.P) hs w
              have hfirst := src_first (P := Γ.P) (w' := w) hs (fun _ => rfl)
              have hmin : Nat.min m dl = m := Nat.min_eq_left hm
              simp only [execOp, hop, resolve, hcal, e1, e2, invoke, builtin, Sem.run_bind, Sem.run_pure, Result.andThen_ok, List.map_toArray, List.map_cons, List.map_nil, ha, hb]
              simp [Builtin.copy_, run_underlying hu, hlen, hmin, sizeOf, typeInfo, hi, hfirst, h2, goInt]
            · exact ⟨z2, z3, z4, by rw [z1]; exact Nat.le_refl _, fun k hk hf => hrest k (fun ho => hf ⟨_, List.mem_of_getElem? hp, trivial, ho⟩) hk⟩
/-- A slice that is made: type, length, slot. -/
def makeOf (ops : Array Oper) (nt : Nat) (i : Nat) (fr : Fr) : Option (TypeId × Value × Value × Option Nat) :=
  match opAt ops nt i fr with
  | some o => match o.op with
    | .makeSlice t l c => some (t, ev fr l, ev fr c, o.dst)
    | _ => none
  | none => none
def mrowTy (P : Program) (t : TypeId) : Option (TypeId × Nat × Nat) :=
  match P.underlying t with
  | some (.slice e) => match P.info? e with
    | some i => match i.zero with
      | some z => match z.cells.size == i.size, (0).blt i.size, z.cells.toList.all (fun v => v.oneCell') with | true, true, true => some (e, i.size, i.bytes) | _, _, _ => none
      | none => none
    | none => none
  | _ => none
theorem step_make {ops : Array Oper} {i : Nat} {m : Nat} {t : TypeId} {dst : Option Nat} (hc : makeOf ops Γ.nt i s.fr = some (t, .int .i64 (m : Int), .int .i64 (m : Int), dst)) {e sz bytes : Nat} (ht : mrowTy Γ.P t = some (e, sz, bytes))
    (h63 : m ≤ 1099511627776) (hb : bytes * m ≤ 140737488355328) :
    Step Γ ops i s (fun s' => ∃ g zs, zs.length = m * sz ∧ s' = ⟨putFr s.fr dst (.slice (some ⟨g, 0, none⟩) m m), s.hp ++ [row e sz (some ⟨g, 0, none⟩) m m zs]⟩) := by
  unfold makeOf at hc
  split at hc
  case h_2 => cases hc
  case h_1 o ho =>
    split at hc
    case h_2 => cases hc
    case h_1 t' l c hop =>
      simp only [Option.some.injEq, Prod.mk.injEq] at hc
      obtain ⟨rfl, hl, hcc, rfl⟩ := hc
      unfold mrowTy at ht
      split at ht
      case h_2 => cases ht
      case h_1 e' hu =>
        split at ht
        case h_2 => cases ht
        case h_1 inf hi =>
          split at ht
          case h_2 => cases ht
          case h_1 z hz =>
            split at ht
            case h_2 => cases ht
            case h_1 hzs hsz hz1 =>
              simp only [Option.some.injEq, Prod.mk.injEq] at ht
              obtain ⟨rfl, rfl, rfl⟩ := ht
              have hzs : z.cells.size = inf.size := by simpa using hzs
              have hsz : 0 < inf.size := Nat.le_of_ble_eq_true hsz
              intro Q bb ww hS K hK
              refine step_sem ho (fun v hp' => ∃ g zs, zs.length = m * inf.size ∧ v = .slice (some ⟨g, 0, none⟩) m m ∧ hp' = s.hp ++ [row e' inf.size (some ⟨g, 0, none⟩) m m zs]) (fun w hw => ?_) Q bb ww hS K ?_
              · have hb' : (inf.bytes : Int) * (m : Int) ≤ 281474976710656 := by
                  have h : ((inf.bytes * m : Nat) : Int) ≤ 281474976710656 := by omega
                  rwa [Int.natCast_mul] at h
                have hrun := run_make (P := Γ.P) w t' e' inf z hu hi hz .i64 .i64 m m (by omega) (Int.le_refl _) hb' (by omega)
                simp only [Int.toNat_natCast] at hrun
                have hlen : (madeCells z.cells (m * inf.size)).toList.length = m * inf.size := by simp [madeCells]
                have hone : Sx.One (madeCells z.cells (m * inf.size)).toList := by
                  intro u hu'
                  simp only [madeCells, Array.toList_map, List.mem_map, Array.toList_range, List.mem_range] at hu'
                  obtain ⟨j, hj, rfl⟩ := hu'
                  have hlt := Nat.mod_lt j (show 0 < z.cells.size by omega)
                  rw [getElem!_pos z.cells (j % z.cells.size) hlt]
                  exact List.all_eq_true.1 hz1 _ (by simp)
                have hold : ∀ k, k < w.heap.size → (w.alloc (.cells (madeCells z.cells (m * inf.size)) e')).heap[k]? = w.heap[k]? := fun k hk => by
                  show (w.heap.push _)[k]? = _; rw [Array.getElem?_push, if_neg (by omega)]
                refine ⟨_, _, s.hp ++ [row e' inf.size (some ⟨w.heap.size, 0, none⟩) m m (madeCells z.cells (m * inf.size)).toList], w.alloc (.cells (madeCells z.cells (m * inf.size)) e'), ?_, .inl rfl, ⟨w.heap.size, _, hlen, rfl, rfl⟩, ?_, ?_, ?_⟩
                · simp only [execOp, hop, hl, hcc, hrun, Sem.run_bind, Sem.run_pure, Result.andThen_ok]
                · refine hw.append hold ⟨hlen, Nat.le_refl _, by unfold maxLen; omega, hone, .inr ⟨w.heap.size, 0, madeCells z.cells (m * inf.size), (0, 0), rfl, Array.getElem?_push_size, ?_, ?_, fun o ho' h => by omega⟩⟩ (fun k ⟨_, ad, h1, h2⟩ => by cases h1; exact Nat.le_of_eq h2)
                  · rw [size_madeCells]; omega
                  · rw [List.drop_zero, List.take_of_length_le (by rw [hlen]; omega)]
                · exact ⟨rfl, rfl, rfl, by show w.heap.size ≤ (w.heap.push _).size; simp, fun k hk _ => hold k hk⟩
                · intro c hcm hcr k hk
                  rcases List.mem_append.1 hcm with hcm | hcm
                  · exact .inl ⟨c, hcm, hcr, hk⟩
                  · rw [List.mem_singleton.1 hcm] at hk
                    obtain ⟨_, ad, h1, h2⟩ := hk
                    cases h1; exact .inr (Nat.le_of_eq h2)
              · rintro s' ⟨v, hp', ⟨g, zs, h0, h1, h2⟩, h3⟩
                exact hK s' ⟨g, zs, h0, by rw [h3, h1, h2]⟩
theorem wpr_make {ops : Array Oper} {i : Nat} {l₂ : List Nat} {m : Nat} {t : TypeId} {dst : Option Nat} (hc : makeOf ops Γ.nt i s.fr = some (t, .int .i64 (m : Int), .int .i64 (m : Int), dst)) {e sz bytes : Nat} (ht : mrowTy Γ.P t = some (e, sz, bytes))
    (h63 : m ≤ 1099511627776) (hb : bytes * m ≤ 140737488355328)
    (h : ∀ g zs, zs.length = m * sz → WpR Γ ops l₂ ⟨putFr s.fr dst (.slice (some ⟨g, 0, none⟩) m m), s.hp ++ [row e sz (some ⟨g, 0, none⟩) m m zs]⟩ Q) : WpR Γ ops (i :: l₂) s Q :=
  wpr_step (step_make hc ht h63 hb) fun s' ⟨g, zs, h0, h1⟩ => by rw [h1]; exact h g zs h0
end Go.Sx
