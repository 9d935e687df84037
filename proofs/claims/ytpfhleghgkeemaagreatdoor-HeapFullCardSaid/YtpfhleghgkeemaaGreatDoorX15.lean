import Derived.Test.YtpfhleghgkeemaaGreatDoorX14
/-! X15: zeros behind no slice at all (append of a make). -/
namespace Go.Sx
open Go
set_option linter.unusedVariables false
set_option linter.unusedSimpArgs false
variable {P : Program} {Γ : Cx} {Q : Exit → Act → World → Prop} {s : St}

theorem append_znil {w : World} {t xt ty e : TypeId} {i : TypeInfo} {z : Value} {k k' : IntKind} (ht : P.underlying t = some (.slice e)) (hxt : P.underlying xt = some (.int k)) (hi : P.info? e = some i) (hz : i.zero = some z) (hsz : 0 < i.size)
    {m : Nat} (hm : 0 < m) (h63 : m ≤ 1099511627776) (hb : m * i.bytes ≤ 140737488355328) :
    (Builtin.append_ #[t, xt] ty #[.slice none 0 0, .int k' (m : Int)]).run P w = .ok (.slice (some ⟨w.heap.size, 0, none⟩) m (grownCap w m 0 e))
      (w.drew.alloc (.cells (Builtin.zeroCells z.cells m ++ Builtin.zeroCells z.cells (grownCap w m 0 e - m)) e)) := by
  have hw : IntKind.i64.wrap (m : Int) = (m : Int) := by rw [i64_wrap]; split <;> omega
  have hfit := growslice_fits (by omega : 0 < m) hb
  have h48' : ¬ (281474976710656 < Builtin.nextslicecap m 0 * i.bytes) := by omega
  have h0 : ¬ ((m : Int) < 0) := by omega
  have hb' : ¬ (281474976710656 < (m : Int) * (i.bytes : Int)) := by
    have : (m : Int) * (i.bytes : Int) = ((m * i.bytes : Nat) : Int) := by simp
    rw [this]; omega
  have hn : ¬ (m ≤ 0) := by omega
  have hne : ¬ (m = 0 ∨ i.size = 0) := by omega
  have h63' : ¬ (9223372036854775807 < (m : Int)) := by omega
  simp [Builtin.append_, run_underlying ht, run_underlying hxt, asInt, asIntOf, hw, h0, hb', sizeOf, typeInfo, zeroValue, hi, hz, hn, hne, h63', h48', Question.forced, newRow, grownCap, Builtin.firstCells]
  rw [if_neg (by omega), if_neg (Nat.ne_of_gt (Nat.mul_pos hm hsz))]

def appzOf (ops : Array Oper) (nt : Nat) (i : Nat) (fr : Fr) : Option (Value × Value × TypeId × TypeId × Option Nat) :=
  match opAt ops nt i fr with
  | some o => match o.op with
    | .call c => match c.callee, c.args.toList, c.argTypes.toList with
      | .builtin .append, [s, x], [t, xt] => some (ev fr s, ev fr x, t, xt, o.dst)
      | _, _, _ => none
    | _ => none
  | none => none
def zrowTy (P : Program) (t xt : TypeId) : Option (TypeId × Nat × Nat) :=
  match P.underlying t, P.underlying xt with
  | some (.slice e), some (.int _) => match P.info? e with
    | some i => match i.zero with
      | some z => match z.cells.size == i.size, (0).blt i.size, z.cells.toList.all (fun v => v.oneCell') with | true, true, true => some (e, i.size, i.bytes) | _, _, _ => none
      | none => none
    | none => none
  | _, _ => none

theorem one_zero {z : Array Value} (h : z.toList.all (fun v => v.oneCell') = true) (m : Nat) : Sx.One (Builtin.zeroCells z m).toList := by
  intro u hu
  simp only [Builtin.zeroCells, Array.toList_map, List.mem_map, Array.toList_range, List.mem_range] at hu
  obtain ⟨j, hj, rfl⟩ := hu
  have hpos : 0 < z.size := by
    rcases Nat.eq_zero_or_pos z.size with h | h
    · rw [h] at hj; simp at hj
    · exact h
  have hlt := Nat.mod_lt j hpos
  rw [getElem!_pos z (j % z.size) hlt]
  exact List.all_eq_true.1 h _ (by simp)

theorem step_appz {ops : Array Oper} {i : Nat} {m : Nat} {k' : IntKind} {t xt : TypeId} {dst : Option Nat} (hc : appzOf ops Γ.nt i s.fr = some (.slice none 0 0, .int k' (m : Int), t, xt, dst)) {e sz bytes : Nat} (ht : zrowTy Γ.P t xt = some (e, sz, bytes))
    (hm : 0 < m) (h63 : m ≤ 1099511627776) (hb : m * bytes ≤ 140737488355328) :
    Step Γ ops i s (fun s' => ∃ g cap zs, s' = ⟨putFr s.fr dst (.slice (some ⟨g, 0, none⟩) m cap), s.hp ++ [row e sz (some ⟨g, 0, none⟩) m cap zs]⟩) := by
  unfold appzOf at hc
  split at hc
  case h_2 => cases hc
  case h_1 o ho =>
    split at hc
    case h_2 => cases hc
    case h_1 c hop =>
      split at hc
      case h_2 => cases hc
      case h_1 s' x' t' xt' hcal hargs hts =>
        simp only [Option.some.injEq, Prod.mk.injEq] at hc
        obtain ⟨hes, hex, rfl, rfl, rfl⟩ := hc
        have e1 : c.args = #[s', x'] := by apply Array.ext'; simpa using hargs
        have e2 : c.argTypes = #[t', xt'] := by apply Array.ext'; simpa using hts
        unfold zrowTy at ht
        split at ht
        case h_2 => cases ht
        case h_1 e' k hu hxu =>
          split at ht
          case h_2 => cases ht
          case h_1 inf hi =>
            split at ht
            case h_2 => cases ht
            case h_1 z hz =>
              split at ht
              case h_2 => cases ht
              case h_1 hzs hsz hz1 =>
                simp only [Option.some.injEq, Prod.mk.injEq] at ht
                obtain ⟨rfl, rfl, rfl⟩ := ht
                have hzs : z.cells.size = inf.size := by simpa using hzs
                have hsz : 0 < inf.size := Nat.le_of_ble_eq_true hsz
                intro Q bb ww hS K hK
                refine step_sem ho (fun v hp' => ∃ g cap zs, v = .slice (some ⟨g, 0, none⟩) m cap ∧ hp' = s.hp ++ [row e' inf.size (some ⟨g, 0, none⟩) m cap zs]) (fun w hw => ?_) Q bb ww hS K ?_
                · have hrun := append_znil (P := Γ.P) (w := w) (ty := o.type) (k' := k') hu hxu hi hz hsz hm h63 hb
                  have hge := grownCap_ge w m 0 e'
                  have hle := grownCap_le_maxLen w m 0 e' (by unfold maxLen; omega)
                  have hl1 := size_zeroCells z.cells m
                  have hl2 := size_zeroCells z.cells (grownCap w m 0 e' - m)
                  have hsame : ∀ k, k < w.heap.size → (w.drew.alloc (.cells (Builtin.zeroCells z.cells m ++ Builtin.zeroCells z.cells (grownCap w m 0 e' - m)) e')).heap[k]? = w.heap[k]? := fun k hk => by
                    show (w.heap.push _)[k]? = _; rw [Array.getElem?_push, if_neg (by omega)]
                  have hrow : (row e' inf.size (some ⟨w.heap.size, 0, none⟩) m (grownCap w m 0 e') (Builtin.zeroCells z.cells m).toList).holds (w.drew.alloc (.cells (Builtin.zeroCells z.cells m ++ Builtin.zeroCells z.cells (grownCap w m 0 e' - m)) e')) := by
                    refine ⟨by rw [Array.length_toList, hl1, hzs], hge, hle, one_zero hz1 m, .inr ⟨w.heap.size, 0, _, (0, 0), rfl, Array.getElem?_push_size, ?_, ?_, fun o _ h => by simp at h⟩⟩
                    · rw [Array.size_append, hl1, hl2, hzs, ← Nat.add_mul, Nat.zero_add]
                      exact Nat.mul_le_mul_right _ (by omega)
                    · rw [Array.toList_append, List.drop_zero, List.take_left' (by rw [Array.length_toList, hl1, hzs])]
                  refine ⟨_, _, _, _, ?_, .inl rfl, ⟨_, _, _, rfl, rfl⟩, hw.append hsame hrow (fun k ⟨_, ad, had, hk⟩ => by cases had; exact Nat.le_of_eq hk), ⟨rfl, rfl, rfl, by show w.heap.size ≤ (w.heap.push _).size; simp, fun k hk _ => hsame k hk⟩, ?_⟩
                  · simp only [execOp, hop, resolve, hcal, e1, e2, invoke, builtin, Sem.run_bind, Sem.run_pure, Result.andThen_ok, List.map_toArray, List.map_cons, List.map_nil, hes, hex, hrun]
                  · intro c hc hr k hk
                    rcases List.mem_append.1 hc with hc | hc
                    · exact .inl ⟨c, hc, hr, hk⟩
                    · rw [List.mem_singleton.1 hc] at hk
                      obtain ⟨_, ad, had, hk⟩ := hk
                      cases had; exact .inr (Nat.le_of_eq hk)
                · rintro s' ⟨v, hp', ⟨g, cap, zs, rfl, rfl⟩, rfl⟩
                  exact hK _ ⟨g, cap, zs, rfl⟩
theorem wpr_appz {ops : Array Oper} {i : Nat} {l₂ : List Nat} {m : Nat} {k' : IntKind} {t xt : TypeId} {dst : Option Nat} (hc : appzOf ops Γ.nt i s.fr = some (.slice none 0 0, .int k' (m : Int), t, xt, dst)) {e sz bytes : Nat} (ht : zrowTy Γ.P t xt = some (e, sz, bytes))
    (hm : 0 < m) (h63 : m ≤ 1099511627776) (hb : m * bytes ≤ 140737488355328)
    (h : ∀ g cap zs, WpR Γ ops l₂ ⟨putFr s.fr dst (.slice (some ⟨g, 0, none⟩) m cap), s.hp ++ [row e sz (some ⟨g, 0, none⟩) m cap zs]⟩ Q) : WpR Γ ops (i :: l₂) s Q :=
  wpr_step (step_appz hc ht hm h63 hb) fun s' ⟨g, cap, zs, h'⟩ => by subst h'; exact h g cap zs
end Go.Sx
