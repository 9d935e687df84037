import Derived.Test.YtpfhleghgkeemaaGreatDoorY2
import Derived.RangeFuncNested
import Derived.OwnWalkIn
import Derived.Laws.StructEq
import Derived.Defers
import Derived.Laws.MakeOwn
import Derived.Lib.OthersKept
import Derived.Laws.RangeAny
import Derived.LaidEqlPtr
import Derived.Lib.UnsafeStr
set_option linter.unusedVariables false
set_option linter.unusedSimpArgs false
/-! X17: a range over a function. -/
namespace Go.Sx
open Go
variable {P : Program} {Γ : Cx} {Q : Exit → Act → World → Prop} {s : St}

/-! ### blocks that are no cells -/
def objQ (g : Nat) (o : Obj) : Oq where
  own := fun k => k = g
  rw := True
  holds := fun w => w.heap[g]? = some o
  loc := fun w w' hk h => (hk g rfl).trans h
  lt := fun w k h hk => by subst hk; exact lt_of_get h
def ob (g : Nat) (o : Obj) : Ch := .op (objQ g o)
theorem ob_holds {g : Nat} {o : Obj} {hp : Hp} {w : World} (h : HS hp w) (hm : ob g o ∈ hp) : w.heap[g]? = some o := h.holds _ hm
theorem alloc_old {w : World} {o : Obj} {k : Nat} (hk : k < w.heap.size) : (w.alloc o).heap[k]? = w.heap[k]? := by
  show (w.heap.push o)[k]? = _; rw [Array.getElem?_push, if_neg (by omega)]
theorem Sat.newOb {fr : Fr} {hp : Hp} {a : Act} {w : World} (h : Sat Γ ⟨fr, hp⟩ a w) (o : Obj) : Sat Γ ⟨fr, ob w.heap.size o :: hp⟩ a (w.alloc o) := by
  have hsz : (w.alloc o).heap.size = w.heap.size + 1 := World.size_alloc ..
  refine ⟨h.size, h.defers, h.fr, ⟨fun c hc => ?_, List.pairwise_cons.2 ⟨fun d hd => .inr fun k hk hdk => ?_, h.hs.apart⟩⟩, ⟨h.ext.os, h.ext.tape, h.ext.output, by have := h.ext.size; omega, fun k hk hF => ?_⟩, fun c hc hr k hk => ?_⟩
  · rcases List.mem_cons.1 hc with rfl | hc
    · exact World.alloc_heap_new w o
    · exact c.loc (fun k hk => alloc_old (c.lt (h.hs.holds c hc) hk)) (h.hs.holds c hc)
  · have hk : k = w.heap.size := hk
    have := d.lt (h.hs.holds d hd) hdk; omega
  · have := h.ext.size
    rw [alloc_old (by omega)]; exact h.ext.block k hk hF
  · rcases List.mem_cons.1 hc with rfl | hc
    · have hk : k = w.heap.size := hk
      have := h.ext.size; exact .inr (by omega)
    · exact h.bd c hc hr k hk
theorem put_other {w : World} {g k : Nat} {o : Obj} (h : k ≠ g) : (w.putObj g o).heap[k]? = w.heap[k]? := World.putObj_heap_other h
/-- What a chunk's block becomes. -/
theorem Sat.setOb {fr : Fr} {hp : Hp} {g : Nat} {o : Obj} {a : Act} {w : World} (h : Sat Γ ⟨fr, ob g o :: hp⟩ a w) (o' : Obj) : Sat Γ ⟨fr, ob g o' :: hp⟩ a (w.putObj g o') := by
  have hg := ob_holds h.hs (List.mem_cons_self ..)
  have h2 := List.pairwise_cons.1 h.hs.apart
  have hne : ∀ c ∈ hp, ∀ k, c.own k → k ≠ g := fun c hc k hk e => by
    rcases h2.1 c hc with ⟨h3, _⟩ | h3
    · exact h3 trivial
    · exact h3 k e hk
  refine ⟨h.size, h.defers, h.fr, ⟨fun c hc => ?_, List.pairwise_cons.2 ⟨fun d hd => .inr fun k hk hdk => hne d hd k hdk hk, h2.2⟩⟩, ⟨h.ext.os, h.ext.tape, h.ext.output, by rw [World.putObj_size]; exact h.ext.size, fun k hk hF => ?_⟩, fun c hc hr k hk => ?_⟩
  · rcases List.mem_cons.1 hc with rfl | hc
    · exact World.putObj_heap_same (lt_of_get hg)
    · exact c.loc (fun k hk => put_other (hne c hc k hk)) (h.hs.holds c (List.mem_cons_of_mem _ hc))
  · rw [put_other (fun e => ?_)]
    · exact h.ext.block k hk hF
    · rcases h.bd (ob g o) (by simp) trivial k e with h3 | h3
      · exact hF h3
      · omega
  · rcases List.mem_cons.1 hc with rfl | hc
    · exact h.bd (ob g o) (by simp) trivial k hk
    · exact h.bd c (List.mem_cons_of_mem _ hc) hr k hk
theorem Sat.drop1 {fr : Fr} {hp : Hp} {c : Ch} {a : Act} {w : World} (h : Sat Γ ⟨fr, c :: hp⟩ a w) : Sat Γ ⟨fr, hp⟩ a w :=
  ⟨h.size, h.defers, h.fr, ⟨fun d hd => h.hs.holds d (List.mem_cons_of_mem _ hd), (List.pairwise_cons.1 h.hs.apart).2⟩, h.ext, fun d hd => h.bd d (List.mem_cons_of_mem _ hd)⟩

/-! ### from the plain walk into a fence that lets all in -/
structure AsWide (F : Fence) : Prop where
  fn : ∀ f, F.fn f
  depth : F.depth = none
  calls : ∀ {n : Nat} {P : Program} {f : FuncId} {args : Array Value} {w : World} {R : Ending → World → Prop}, Calls P f args w R → CallsIn F n P f args w R
  rows : ∀ {n : Nat} {P : Program} {row : String} {args : Array Value} {w : World} {R : Value → World → Prop}, Rows P row args w R → RowsIn F n P row args w R
theorem asWide : AsWide Fence.wide := ⟨fun _ => trivial, rfl, fun h => callsIn_wide.2 h, fun h c cs _ => let ⟨v, w', r, s⟩ := h c cs; ⟨v, w', r, stepsIn_wide.2 s⟩⟩
theorem asRound (l : Nat) : AsWide (Fence.wide.inRound l) := ⟨fun _ => trivial, rfl, fun h => CallsIn.inRound l (callsIn_wide.2 h), fun h => (asWide.rows h : RowsIn Fence.wide _ _ _ _ _ _)⟩

theorem oper_in {F : Fence} {n : Nat} (hF : AsWide F) {o : Oper} (hd : ∀ c, o.op ≠ .defer c) {a : Act} {w : World} {K K' : Act → World → Prop} {Q Q' : Exit → Act → World → Prop} (hQ : ¬ LetsOut Q)
    (hK : ∀ a w, K a w → K' a w) (hP : ∀ c a w, Q (.panic c) a w → Q' (.panic c) a w) (h : o.wp P a w K Q) : o.wpIn F n P a w K' Q' := by
  refine ⟨fun f _ => hF.fn f, ?_⟩
  rw [Oper.semAt_plain F _ _ hd]
  unfold Oper.wp at h
  generalize (execOp a.eval o).run P w = r at h ⊢
  cases r with
  | ok nx w' =>
    cases nx with
    | value v => exact hK _ _ h
    | skip => exact hK _ _ h
    | defer d => exact hK _ _ h
    | enter f args =>
      refine ⟨fun h' => (by rw [hF.depth] at h'; cases h'), hF.calls (Calls.mono h fun e w' q => ?_)⟩
      cases e with
      | returned v => exact hK _ _ q
      | panicked ch => exact hP _ _ _ q
      | outgrown => exact (hQ q).elim
    | row row args => exact ⟨fun h' => (by rw [hF.depth] at h'; cases h'), hF.rows (Rows.mono h fun v w' q => hK _ _ q)⟩
    | _ => exact h.elim
  | halt why w' =>
    cases why with
    | panic v => exact hP _ _ _ h
    | _ => exact h.elim
theorem ops_in {F : Fence} {n : Nat} (hF : AsWide F) {ops : Array Oper} (hd : ∀ (i : Nat) o, ops[i]? = some o → ∀ c, o.op ≠ .defer c) {Q Q' : Exit → Act → World → Prop} (hQ : ¬ LetsOut Q)
    (hP : ∀ c a w, Q (.panic c) a w → Q' (.panic c) a w) (rest : List Nat) (hn : ∀ a w, Q .normal a w → wpOpsIn F n P ops Q' rest a w) : ∀ (l : List Nat) (a : Act) (w : World), wpOps P ops Q l a w → wpOpsIn F n P ops Q' (l ++ rest) a w
  | [], a, w, h => hn a w h
  | i :: l, a, w, h => by
    have ih := ops_in hF hd hQ hP rest hn l
    simp only [wpOps] at h
    simp only [List.cons_append, wpOpsIn]
    cases ho : ops[i]? with
    | none => simp only [ho] at h; exact ih a w h
    | some o =>
      simp only [ho] at h
      simp only
      by_cases hw : Region.wanted o (yielded ops a.tmps) = true
      · rw [if_pos hw] at h ⊢
        rcases h with h | ⟨_, h⟩
        · exact oper_in hF (hd i o ho) hQ (fun a w hk => ih a w hk) hP h
        · exact (hQ h).elim
      · rw [if_neg hw] at h ⊢
        exact ⟨fun f _ => hF.fn f, ih _ _ h⟩
def noDefer (ops : Array Oper) : Bool := ops.toList.all fun o => match o.op with | .defer _ => false | _ => true
theorem noDefer_ok {ops : Array Oper} (h : noDefer ops = true) : ∀ (i : Nat) o, ops[i]? = some o → ∀ c, o.op ≠ .defer c := fun i o ho c e => by
  have hm : o ∈ ops.toList := by rw [Array.mem_toList_iff]; exact Array.mem_of_getElem? ho
  have := List.all_eq_true.1 h o hm
  rw [e] at this; cases this
/-- A region, cut ahead of a call of yield. -/
theorem wpc_region_cut {id : Nat} {ops : Array Oper} (l1 l2 : List Nat) (hl : List.range ops.size = l1 ++ l2) (hd : noDefer ops = true) (hQ : ¬ LetsOut Q)
    (h : WpR Γ ops l1 s (Exit.then (fun a w => wpOpsIn Fence.wide 0 Γ.P ops Q l2 a w) Q)) : WpC Γ (.region id ops false) s Q := fun a w hS =>
  wpIn_wide.1 (wpIn_region (by rw [hl]; exact ops_in asWide (noDefer_ok hd) (Q := Exit.then (fun a w => wpOpsIn Fence.wide 0 Γ.P ops Q l2 a w) Q) (Q' := Q) hQ (fun c a w h => h) l2 (fun a w h => h) l1 a w (h a w hS)))
/-- A region within a round. -/
theorem rnd_region {l id : Nat} {ops : Array Oper} (l1 : List Nat) (hl : List.range ops.size = l1) (hd : noDefer ops = true) (hQ : ¬ LetsOut Q)
    (h : WpR Γ ops l1 s Q) {a : Act} {w : World} (hS : Sat Γ s a w) : (Code.region id ops false).wpIn (Fence.wide.inRound l) 0 Γ.P Q a w :=
  wpIn_region (by rw [hl, ← List.append_nil l1]; exact ops_in (asRound l) (noDefer_ok hd) hQ (fun c a w h => h) [] (fun a w h => h) l1 a w (h a w hS))

/-! ### yield -/
def YDoes (P : Program) (l : Nat) (args : List Value) (pre : Hp) (R : Value → Hp → Prop) : Prop :=
  ∀ w, HS pre w → ∃ fn tmps assign body, (Instr.yield l args.toArray).run P w = .ok (.round l fn tmps assign body) w ∧ RoundIn Fence.wide 0 P l fn tmps assign body w (Post w pre R)
theorem yield_sound {ops : Array Oper} {i : Nat} {l : Nat} {args : List Value} {dst : Option Nat} {l2 : List Nat} (hc : callvOf ops Γ.nt i s.fr = some (.func (.yield l) #[] #[], args, dst)) (hd : noDefer ops = true) (hQ : ¬ LetsOut Q)
    {pre rest : Hp} {R : Value → Hp → Prop} (hf : YDoes Γ.P l args pre R) (g : Give s.hp pre rest)
    (h : ∀ v hp', R v hp' → WpR Γ ops l2 ⟨putFr s.fr dst v, hp' ++ rest⟩ Q) {a : Act} {w : World} (hS : Sat Γ s a w) : wpOpsIn Fence.wide 0 Γ.P ops Q (i :: l2) a w := by
  unfold callvOf opAt at hc
  simp only [wpOpsIn]
  cases hoi : ops[i]? with
  | none => rw [hoi] at hc; cases hc
  | some o =>
    rw [hoi] at hc
    simp only at hc ⊢
    split at hc
    case h_2 => cases hc
    case h_1 o' ho' =>
      split at ho'
      case h_2 => cases ho'
      case h_1 hdd hw hk =>
        simp only [Option.some.injEq] at ho'
        subst ho'
        split at hc
        case h_2 => cases hc
        case h_1 c hop =>
          split at hc
          case h_2 => cases hc
          case h_1 fo hcal =>
            simp only [Option.some.injEq, Prod.mk.injEq] at hc
            obtain ⟨hfo, hargs, rfl⟩ := hc
            rw [wants_ok hS.fr hw]
            simp only [if_true]
            refine ⟨fun f _ => trivial, ?_⟩
            obtain ⟨fn, tmps, assign, body, hy, hR⟩ := hf w (g.sat w hS.hs).1
            have hrun : (execOp (ev s.fr) o).run Γ.P w = .ok (.round l fn tmps assign body) w := by
              have hl : (#[] ++ (c.args.map (ev s.fr)) ++ #[] : Array Value) = args.toArray := by
                apply Array.ext'; rw [← hargs]; simp
              have hl2 : (c.args.map (ev s.fr)) = args.toArray := by simpa using hl
              unfold execOp
              rw [hop]
              simp [resolve, hcal, hfo, Deferred.ofValue, invoke, hl2, hy]
            rw [show Fence.wide.round = none from rfl, Oper.semAt_none, ev_eq hS.fr hk, hrun]
            refine ⟨fun h' => (by cases h'), hR.mono ?_⟩
            rintro e w' ⟨v, hp', hR, rfl, h1, h2, h3, h4⟩
            obtain ⟨k1, k2, k3⟩ := hS.behind g h1 h2 h3 h4
            have := ops_in (P := Γ.P) (n := 0) asWide (noDefer_ok hd) hQ (fun c a w h => h) [] (fun a w h => h) l2 _ _ (h v hp' hR _ _ ⟨(size_put _ _).trans hS.size, (defers_put _ _).trans hS.defers, FrOk.putFr hS.fr hS.size hdd v, k1, k2, k3⟩)
            rw [List.append_nil] at this
            exact this

/-! ### the statement -/
def rec0 (st : LoopState) (fn : FuncId) (tmps : Array Value) (ps : Array Tmp) (assign body : Code) (D : Nat) : Loop := { state := st, pending := none, fn, tmps, params := ps, assign, body, defers := D }
theorem wpc_range {g : Operand} {ps : Array Tmp} {assign body : Code} {f : Nat} {lb : Array Value} (t : Nat) (hgt : g = .tmp t) (hg : look s.fr t = some (.func (.func f) #[] lb)) (he : enters Γ.P f = true) (hds : Γ.ds = [])
    (hf : ∀ a : Act, a.tmps.size = Γ.nt → (∀ i v, look s.fr i = some v → a.tmps.getD i undef = v) → ∀ fn l D, ∃ R, Does Γ.P f (.func (.yield l) #[] #[] :: lb.toList) (ob l (.loop (rec0 .ready fn a.tmps ps assign body D)) :: ob D (.deferred (some [])) :: s.hp) R ∧
      ∀ v hp', R v hp' → ∃ hp'', hp' = ob l (.loop (rec0 .ready fn a.tmps ps assign body D)) :: ob D (.deferred (some [])) :: hp'' ∧
        Nx { Γ with ds := [{ target := .collected D, args := #[] }] } ⟨s.fr, ob D (.deferred (some [])) :: hp''⟩ Q .normal) :
    WpC Γ (.rangeFunc g ps assign body) s Q := fun a w hS => by
  subst hgt
  have hev : a.eval (.tmp t) = .func (.func f) #[] lb := hS.fr t _ hg
  refine (wpIn_wide (n := 0)).1 (wpIn_rangeFunc fun fn _ => ?_)
  have hS1 := (hS.newOb (.deferred (some []))).newOb (.loop (rec0 .ready fn a.tmps ps assign body w.heap.size))
  have hsz : (w.alloc (.deferred (some []))).heap.size = w.heap.size + 1 := World.size_alloc ..
  rw [hsz] at hS1
  obtain ⟨R, hD, hRR⟩ := hf a hS.size hS.fr fn (w.heap.size + 1) w.heap.size
  refine ⟨w.heap.size + 1, [{ target := .collected w.heap.size, args := #[] }], (w.alloc (.deferred (some []))).alloc (.loop (rec0 .ready fn a.tmps ps assign body w.heap.size)), { target := .fn (.func f) lb, args := #[.func (.yield (w.heap.size + 1)) #[] #[]] }, (w.alloc (.deferred (some []))).alloc (.loop (rec0 .ready fn a.tmps ps assign body w.heap.size)), f,
    #[.func (.yield (w.heap.size + 1)) #[] #[]] ++ lb, (w.alloc (.deferred (some []))).alloc (.loop (rec0 .ready fn a.tmps ps assign body w.heap.size)), run_enterLoop_outer _ _ _ _ _, ?_, fun _ _ => trivial, ?_, fun h => (by cases h), ?_⟩
  · simp only [resolve, hev]
    simp [go_sem]
  · simp [invoke, run_enters he]
  · have hargs : #[.func (.yield (w.heap.size + 1)) #[] #[]] ++ lb = (Value.func (.yield (w.heap.size + 1)) #[] #[] :: lb.toList).toArray := by apply Array.ext'; simp
    rw [hargs]
    refine callsIn_wide.2 ((hD _ hS1.hs).mono ?_)
    rintro e w3 ⟨v, hp', hR, rfl, h1, h2, h3, h4⟩
    obtain ⟨hp'', rfl, hN⟩ := hRR v hp' hR
    obtain ⟨k1, k2, k3⟩ := hS1.behind (Give.of_perm (by rw [List.append_nil])) h1 h2 h3 h4
    rw [List.append_nil] at k1 k3
    have hS3 : Sat Γ ⟨s.fr, ob (w.heap.size + 1) (.loop (rec0 .ready fn a.tmps ps assign body w.heap.size)) :: ob w.heap.size (.deferred (some [])) :: hp''⟩ a w3 := ⟨hS.size, hS.defers, hS.fr, k1, k2, k3⟩
    have hS4 := (hS3.setOb (.loop { rec0 .ready fn a.tmps ps assign body w.heap.size with state := .exhausted })).drop1
    exact ⟨none, _, run_endLoop (ob_holds k1 (List.mem_cons_self ..)) (by simp [rec0]), hN _ _ ⟨hS4.size, by show _ ++ a.defers = _; rw [hS.defers, hds]; rfl, hS4.fr, hS4.hs, hS4.ext, hS4.bd⟩⟩

/-! ### a function that holds one -/
def QM (P : Program) (fn : Func) (w0 : World) (pre : Hp) (R : Value → Hp → Prop) : Exit → Act → World → Prop := fun e a w => (e = .normal ∨ e = .ret) ∧ ∃ D w', a.defers = [{ target := .collected D, args := #[] }] ∧ (Instr.takeDeferred D).run P w = .ok [] w' ∧ ∃ v, (results fn a.tmps).run P w' = .ok v w' ∧ Post w0 pre R (.returned v) w'
instance {fn : Func} {w0 : World} {pre : Hp} {R : Value → Hp → Prop} : PanicOk (QM P fn w0 pre R) := ⟨fun c a a' w _ h => by obtain ⟨h, _⟩ := h; rcases h with h | h <;> cases h⟩
theorem fn_enter_m {f : FuncId} {fn : Func} {c : Code} {args : List Value} {pre : Hp} {R : Value → Hp → Prop} (hf : P.funcs[f]? = some fn) (hb : fn.body = some c)
    (nt : Nat) (hnt : args.length + (fn.ntmps - args.length) = nt) (h : ∀ w0, HS pre w0 → WpC ⟨P, w0, foot pre, nt, []⟩ c ⟨enum 0 args, pre⟩ (QM P fn w0 pre R)) : Does P f args pre R := fun w hw => by
  refine (callsIn_wide (n := 0)).1 (callsIn_of_wp_marks (F := Fence.wide) hf hb trivial (wpIn_wide.2 (wp_mono (h w hw _ w ⟨by simp [hnt], rfl, fun i v hi => ?_, hw, Ext.refl _ _, Bd.self _ _⟩) ?_)))
  · obtain ⟨_, h1⟩ := look_enum _ _ _ _ hi
    simp only [Nat.sub_zero] at h1
    obtain ⟨hlt, h2⟩ := List.getElem?_eq_some_iff.1 h1
    simp [Array.getD_eq_getD_getElem?, Array.getElem?_append, hlt, h2]
  · rintro e a w' ⟨he, D, w2, hd, ht, v, hr, hp⟩
    rcases he with rfl | rfl
    · show LeavesInM _ _ _ _ _ _ a.defers _ _
      rw [hd]; exact ⟨by simp, .inl ⟨D, w2, rfl, ht, v, hr, hp⟩⟩
    · show LeavesInM _ _ _ _ _ _ a.defers _ _
      rw [hd]; exact ⟨by simp, .inl ⟨D, w2, rfl, ht, v, hr, hp⟩⟩
theorem nx_end_m {w0 : World} {pre : Hp} {nt D : Nat} {fn : Func} {R : Value → Hp → Prop} {fr : Fr} {hp' : Hp} (v : Value)
    (h1 : resOf P fn fr [] [] = some (v, [], [], [])) (hrw : ∀ c ∈ hp', c.rw) (hR : R v hp') {e : Exit} (he : e = .normal ∨ e = .ret) :
    Nx ⟨P, w0, foot pre, nt, [{ target := .collected D, args := #[] }]⟩ ⟨fr, ob D (.deferred (some [])) :: hp'⟩ (QM P fn w0 pre R) e := fun a w hS => by
  have hD := ob_holds hS.hs (List.mem_cons_self ..)
  have hS2 := (hS.setOb (.deferred none)).drop1
  have hS3 : Sat ⟨P, w0, foot pre, nt, [{ target := .collected D, args := #[] }]⟩ ⟨fr, []⟩ a (w.putObj D (.deferred none)) := ⟨hS2.size, hS2.defers, hS2.fr, ⟨fun c hc => (by cases hc), List.Pairwise.nil⟩, hS2.ext, fun c hc => (by cases hc)⟩
  exact ⟨he, D, _, hS.defers, run_takeDeferred hD, v, resOf_sound (Γ := ⟨P, w0, foot pre, nt, [{ target := .collected D, args := #[] }]⟩) (s := ⟨fr, []⟩) h1 rfl hS3, v, hp', hR, rfl, hS2.hs, hS2.ext, hS2.bd, hrw⟩
end Go.Sx

/-
  Several chunks, read alone as one.
-/
namespace Go.Sx
open Go
variable {Γ : Cx} {s : St}

/-- Several chunks said as one that is read alone. -/
theorem ent_ro {fr : Fr} {hp rest : Hp} {c' : Ch} (hh : ∀ w, HL hp w → c'.holds w) (ho : ∀ w, HL hp w → ∀ k, c'.own k → ∃ c ∈ hp, c.own k) (hr : ¬ c'.rw) : Ent Γ ⟨fr, hp ++ rest⟩ ⟨fr, c' :: rest⟩ := fun a w h => by
  obtain ⟨h1, h2, h3⟩ := h.hs.split
  have hl : HL hp w := h1.holds
  refine ⟨h.size, h.defers, h.fr, ⟨fun c hc => ?_, List.pairwise_cons.2 ⟨fun d hd => ?_, h2.apart⟩⟩, h.ext, fun c hc hcr k hk => ?_⟩
  · rcases List.mem_cons.1 hc with rfl | hc
    · exact hh w hl
    · exact h2.holds c hc
  · by_cases hdr : d.rw
    · refine .inr fun k hk hdk => ?_
      obtain ⟨c, hc, hck⟩ := ho w hl k hk
      rcases h3 c hc d hd with ⟨_, h5⟩ | h5
      · exact h5 hdr
      · exact h5 k hck hdk
    · exact .inl ⟨hr, hdr⟩
  · rcases List.mem_cons.1 hc with rfl | hc
    · exact absurd hcr hr
    · exact h.bd c (List.mem_append.2 (.inr hc)) hcr k hk
def bagQ (hp : Hp) : Oq where
  own := fun k => ∃ c ∈ hp, c.own k
  rw := False
  holds := fun w => ∀ c ∈ hp, c.holds w
  loc := fun w w' hk h c hc => c.loc (fun k hck => hk k ⟨c, hc, hck⟩) (h c hc)
  lt := fun w k h ⟨c, hc, hck⟩ => c.lt (h c hc) hck
/-- Chunks that are read alone, as one. -/
def bag (hp : Hp) : Ch := .op (bagQ hp)
theorem view_bag {hp : Hp} : View (star hp) (bag hp) := ⟨fun w h => h.1.holds, fun w h k hk => hk, fun h => h⟩
theorem view_in {hp : Hp} {c c' : Ch} (hc : c ∈ hp) (v : View c c') : View (bag hp) c' := ⟨fun w h => v.holds w (h c hc), fun w h k hk => ⟨c, hc, v.own w (h c hc) k hk⟩, v.ro⟩
theorem ent_bag {fr : Fr} {hp rest : Hp} : Ent Γ ⟨fr, hp ++ rest⟩ ⟨fr, bag hp :: rest⟩ := ent_ro (fun w h => h) (fun w h k hk => hk) (fun h => h)
theorem view_self {hp : Hp} : View (bag hp) (bag hp) := ⟨fun w h => h, fun w h k hk => hk, fun h => h⟩
theorem row_spot {hp : Hp} {w : World} (h : HS hp w) (i : Nat) {T sz n cap : Nat} {a : Option Addr} {xs : List Value} (hi : hp[i]? = some (row T sz a n cap xs)) : ∀ ad, a = some ad → ad.spot = none := by
  obtain ⟨_, _, _, _, h5⟩ := h.holds _ (List.mem_of_getElem? hi)
  intro ad e
  rcases h5 with ⟨_, h6⟩ | ⟨g, off, cur, fz, h6, _⟩
  · exact h6 ad e
  · rw [e] at h6; cases h6; rfl
end Go.Sx

/-
  One of several chunks taken out and put back; what is read out of several; records compared.
-/
namespace Go.Sx
open Go
variable {Γ : Cx} {s : St} {Q : Exit → Act → World → Prop}

theorem ent_perm {fr : Fr} {hp hp' : Hp} (e : hp.Perm hp') : Ent Γ ⟨fr, hp⟩ ⟨fr, hp'⟩ := fun a w h =>
  ⟨h.size, h.defers, h.fr, h.hs.perm e, h.ext, fun c hc => h.bd c (e.mem_iff.2 hc)⟩
theorem ent_star_take {fr : Fr} {l rest : Hp} (i : Nat) {c : Ch} (hi : l[i]? = some c) : Ent Γ ⟨fr, star l :: rest⟩ ⟨fr, c :: star (l.eraseIdx i) :: rest⟩ := fun a w hS => by
  have hrw : ∀ c ∈ l, c.rw := (hS.hs.holds (star l) (List.mem_cons_self ..)).2
  obtain ⟨hlt, rfl⟩ := List.getElem?_eq_some_iff.1 hi
  have h1 := ent_unstar a w hS
  have e1 : (l ++ rest).Perm (l.eraseIdx i ++ (l[i] :: rest)) := ((perm_erase l i hlt).append_right rest).trans List.perm_middle.symm
  have h2 := ent_perm e1 a w h1
  have h3 := ent_star (fun c hc => hrw c (List.mem_of_mem_eraseIdx hc)) a w h2
  exact ent_perm (List.Perm.swap ..) a w h3
theorem ent_star_put {fr : Fr} {l rest : Hp} (i : Nat) {c : Ch} (hi : i < l.length) (hc : c.rw) : Ent Γ ⟨fr, c :: star (l.eraseIdx i) :: rest⟩ ⟨fr, star (l.set i c) :: rest⟩ := fun a w hS => by
  have hrw : ∀ c ∈ l.eraseIdx i, c.rw := (hS.hs.holds (star (l.eraseIdx i)) (by simp)).2
  have h1 := ent_perm (List.Perm.swap ..) a w hS
  have h2 := ent_unstar a w h1
  have hs : i < (l.set i c).length := by simpa using hi
  have e0 := perm_erase (l.set i c) i hs
  rw [List.getElem_set_self, List.eraseIdx_set_eq] at e0
  have e1 : (l.eraseIdx i ++ (c :: rest)).Perm (l.set i c ++ rest) := List.perm_middle.trans (e0.symm.append_right rest)
  have h3 := ent_perm e1 a w h2
  refine ent_star (fun d hd => ?_) a w h3
  have hd2 := e0.mem_iff.1 hd
  rcases List.mem_cons.1 hd2 with rfl | hd2
  · exact hc
  · exact hrw d hd2
theorem ent_star_snoc {fr : Fr} {l rest : Hp} {c : Ch} (hc : c.rw) : Ent Γ ⟨fr, star l :: c :: rest⟩ ⟨fr, star (l ++ [c]) :: rest⟩ := fun a w hS => by
  have hrw : ∀ c ∈ l, c.rw := (hS.hs.holds (star l) (List.mem_cons_self ..)).2
  have h1 := ent_unstar a w hS
  have h2 : Sat Γ ⟨fr, (l ++ [c]) ++ rest⟩ a w := by rw [List.append_assoc]; exact h1
  refine ent_star (fun d hd => ?_) a w h2
  rcases List.mem_append.1 hd with hd | hd
  · exact hrw d hd
  · rw [List.mem_singleton.1 hd]; exact hc
theorem ent_star_nil {fr : Fr} {rest : Hp} : Ent Γ ⟨fr, rest⟩ ⟨fr, star [] :: rest⟩ := fun a w hS =>
  ent_star (hp := []) (fun c hc => by cases hc) a w hS
theorem ent_bag_snoc {fr : Fr} {l rest : Hp} {c : Ch} : Ent Γ ⟨fr, bag l :: c :: rest⟩ ⟨fr, bag (l ++ [c]) :: rest⟩ :=
  ent_ro (hp := [bag l, c]) (rest := rest) (c' := bag (l ++ [c])) (fun w h d hd => by
    rcases List.mem_append.1 hd with hd | hd
    · exact h (bag l) (by simp) d hd
    · rw [List.mem_singleton.1 hd]; exact h c (by simp)) (fun w h k ⟨d, hd, hk⟩ => by
    rcases List.mem_append.1 hd with hd | hd
    · exact ⟨bag l, by simp, d, hd, hk⟩
    · rw [List.mem_singleton.1 hd] at hk; exact ⟨c, by simp, hk⟩) (fun h => h)
theorem ent_bag_nil {fr : Fr} {rest : Hp} : Ent Γ ⟨fr, rest⟩ ⟨fr, bag [] :: rest⟩ := ent_bag (hp := []) (rest := rest)
/-- Fewer of them, or seen otherwise. -/
theorem view_sub {l l' : Hp} (h : ∀ c' ∈ l', ∃ c ∈ l, (∀ w, c.holds w → c'.holds w) ∧ ∀ w, c.holds w → ∀ k, c'.own k → c.own k) : View (bag l) (bag l') :=
  ⟨fun w hw c' hc' => by obtain ⟨c, hc, h1, _⟩ := h c' hc'; exact h1 w (hw c hc), fun w hw k ⟨c', hc', hk⟩ => by
    obtain ⟨c, hc, _, h2⟩ := h c' hc'
    exact ⟨c, hc, h2 w (hw c hc) k hk⟩, fun h => h⟩
theorem view_star_sub {l l' : Hp} (h : ∀ c' ∈ l', ∃ c ∈ l, (∀ w, c.holds w → c'.holds w) ∧ ∀ w, c.holds w → ∀ k, c'.own k → c.own k) : View (star l) (bag l') := view_bag.trans (view_sub h)

theorem star_in {hp : Hp} {w : World} (h : HS hp w) (i : Nat) {l : Hp} (hi : hp[i]? = some (star l)) {c : Ch} (hc : c ∈ l) : c.holds w := (h.holds _ (List.mem_of_getElem? hi)).1.holds c hc
theorem bag_in {hp : Hp} {w : World} (h : HS hp w) (i : Nat) {l : Hp} (hi : hp[i]? = some (bag l)) {c : Ch} (hc : c ∈ l) : c.holds w := h.holds _ (List.mem_of_getElem? hi) c hc
theorem cells_part {w : World} {g off q : Nat} {xs vs : List Value} (h : cellsAt w ⟨g, off, none⟩ xs) (hv : (xs.drop q).take vs.length = vs) : cellsAt w ⟨g, off + q, none⟩ vs := fun j u hu => by
  rw [← hv] at hu
  rw [List.getElem?_take] at hu
  split at hu
  · rw [List.getElem?_drop] at hu
    have h1 := h (q + j) u hu
    rw [add_lit'] at h1 ⊢
    rw [Nat.add_assoc]; exact h1
  · cases hu
theorem ld_star {hp : Hp} {w : World} (h : HS hp w) (i : Nat) {l : Hp} (hi : hp[i]? = some (star l)) {T sz n cap g off : Nat} {xs : List Value} (hc : row T sz (some ⟨g, off, none⟩) n cap xs ∈ l) (q : Nat) {vs : List Value} (hv : (xs.drop q).take vs.length = vs) : cellsAt w ⟨g, off + q, none⟩ vs :=
  cells_part (row_cells (star_in h i hi hc)) hv
theorem ld_bag {hp : Hp} {w : World} (h : HS hp w) (i : Nat) {l : Hp} (hi : hp[i]? = some (bag l)) {g off : Nat} {xs : List Value} (hc : ro (some ⟨g, off, none⟩) xs ∈ l) (q : Nat) {vs : List Value} (hv : (xs.drop q).take vs.length = vs) : cellsAt w ⟨g, off + q, none⟩ vs :=
  cells_part (bag_in h i hi hc).2 hv
theorem ld_bagL {hs : Hp} {w : World} (h : HL hs w) (i : Nat) {l : Hp} (hi : hs[i]? = some (bag l)) {g off : Nat} {xs : List Value} (hc : ro (some ⟨g, off, none⟩) xs ∈ l) (q : Nat) {vs : List Value} (hv : (xs.drop q).take vs.length = vs) : cellsAt w ⟨g, off + q, none⟩ vs :=
  cells_part (h _ (List.mem_of_getElem? hi) _ hc).2 hv
theorem star_addr {hp : Hp} {w : World} (h : HS hp w) (i : Nat) {l : Hp} (hi : hp[i]? = some (star l)) {T sz n cap : Nat} {a : Option Addr} {xs : List Value} (hc : row T sz a n cap xs ∈ l) (hn : 0 < n) : ∃ g off, a = some ⟨g, off, none⟩ := by
  have h1 := star_in h i hi hc
  exact row_addr (hp := [row T sz a n cap xs]) ⟨fun c hc => by rw [List.mem_singleton.1 hc]; exact h1, by simp⟩ 0 rfl hn
theorem bag_addr {hp : Hp} {w : World} (h : HS hp w) (i : Nat) {l : Hp} (hi : hp[i]? = some (bag l)) {a : Option Addr} {xs : List Value} (hc : ro a xs ∈ l) (hn : 0 < xs.length) : ∃ g off, a = some ⟨g, off, none⟩ := by
  have h1 := bag_in h i hi hc
  exact ro_addr (hp := [ro a xs]) ⟨fun c hc => by rw [List.mem_singleton.1 hc]; exact h1, by simp⟩ 0 rfl hn

/-! ### records compared -/
def cellFits (P : Program) (t : TypeId) (v : Value) : Bool := match P.underlying t, v with
  | some (.int k), .int k' _ => k == k'
  | some .string, .string _ => true
  | some .bool, .bool _ => true
  | _, _ => false
def fitsFs (P : Program) : List Field → Nat → List Value → Bool
  | [], o, xs => xs.length == o
  | f :: fs, o, xs => (f.offset == o) && (f.name != "_") && (match xs[o]? with | some v => cellFits P f.type v | none => false) && fitsFs P fs (o + 1) xs
theorem run_part_fit {P : Program} {w : World} {t : TypeId} {xs : List Value} {o : Nat} {v : Value} (hv : xs[o]? = some v) (h : cellFits P t v = true) : (part t xs.toArray o).run P w = .ok v w := by
  unfold cellFits at h
  split at h
  · rename_i k k' n hu
    simp [part, isAgg, run_underlying hu, hv]
  · rename_i s hu
    simp [part, isAgg, run_underlying hu, hv]
  · rename_i b hu
    simp [part, isAgg, run_underlying hu, hv]
  · cases h
theorem run_eq_fit {P : Program} {w : World} {t : TypeId} {x y : Value} (d : Nat) (hx : cellFits P t x = true) (hy : cellFits P t y = true) : ∃ b : Bool, (Op.equalIn (d + 1) t x y).run P w = .ok b w ∧ (b = true ↔ x = y) := by
  unfold cellFits at hx hy
  split at hx
  · rename_i k k' n hu
    rw [hu] at hy
    split at hy
    · rename_i k2 k3 n2 hu2
      cases hu2
      obtain rfl := eq_of_beq hx
      obtain rfl := eq_of_beq hy
      exact ⟨n == n2, run_equalIn_int w d t _ _ n n2 hu, by simp⟩
    · rename_i hu2; cases hu2
    · rename_i hu2; cases hu2
    · cases hy
  · rename_i s hu
    rw [hu] at hy
    split at hy
    · rename_i hu2; cases hu2
    · rename_i s2 hu2
      refine ⟨s.toList == s2.toList, run_equalIn_string w d t s s2 hu, ?_⟩
      rw [beq_iff_eq, Go.ByteArray.toList_eq, Go.ByteArray.toList_eq]
      constructor
      · intro h
        obtain ⟨⟨a⟩⟩ := s
        obtain ⟨⟨b⟩⟩ := s2
        simp only at h
        rw [h]
      · intro h; injection h with h; rw [h]
    · rename_i hu2; cases hu2
    · cases hy
  · rename_i b hu
    rw [hu] at hy
    split at hy
    · rename_i hu2; cases hu2
    · rename_i hu2; cases hu2
    · rename_i b2 hu2
      exact ⟨b == b2, run_equalIn_bool' w d t b b2 hu, by simp⟩
    · cases hy
  · cases hx
theorem run_eqFields_fit {P : Program} {w : World} (d : Nat) : ∀ (fs : List Field) (o : Nat) (xs ys : List Value), fitsFs P fs o xs = true → fitsFs P fs o ys = true →
    ∃ b : Bool, (Op.eqFields (d + 1) xs.toArray ys.toArray fs).run P w = .ok b w ∧ (b = true ↔ xs.drop o = ys.drop o)
  | [], o, xs, ys, hx, hy => by
    simp only [fitsFs, beq_iff_eq] at hx hy
    exact ⟨true, by simp [Op.eqFields], by rw [List.drop_eq_nil_of_le (by omega), List.drop_eq_nil_of_le (by omega)]; simp⟩
  | f :: fs, o, xs, ys, hx, hy => by
    simp only [fitsFs, Bool.and_eq_true, beq_iff_eq, bne_iff_ne, ne_eq] at hx hy
    obtain ⟨⟨⟨ho, hn⟩, hx1⟩, hx2⟩ := hx
    obtain ⟨⟨⟨_, _⟩, hy1⟩, hy2⟩ := hy
    split at hx1
    case h_2 => cases hx1
    case h_1 u hu =>
      split at hy1
      case h_2 => cases hy1
      case h_1 v hv =>
        obtain ⟨r, hr, hiff⟩ := run_eq_fit (w := w) d hx1 hy1
        obtain ⟨b, hb, hbi⟩ := run_eqFields_fit (w := w) d fs (o + 1) xs ys hx2 hy2
        obtain ⟨hu1, rfl⟩ := List.getElem?_eq_some_iff.1 hu
        obtain ⟨hv1, rfl⟩ := List.getElem?_eq_some_iff.1 hv
        have ed : (xs.drop o = ys.drop o) ↔ (xs[o] = ys[o] ∧ xs.drop (o + 1) = ys.drop (o + 1)) := by
          rw [List.drop_eq_getElem_cons hu1, List.drop_eq_getElem_cons hv1, List.cons.injEq]
        simp only [Op.eqFields, hn, ne_eq, not_false_eq_true, if_true, Sem.run_bind, ho, run_part_fit hu hx1, run_part_fit hv hy1, hr, Result.andThen_ok]
        cases r
        · refine ⟨false, by simp, ?_⟩
          rw [ed]
          constructor
          · intro h; cases h
          · intro h; exact absurd (hiff.2 h.1) (by simp)
        · refine ⟨b, by simpa using hb, ?_⟩
          rw [ed, hbi]
          exact ⟨fun h => ⟨hiff.1 rfl, h⟩, fun h => h.2⟩
/-- eql (true) or neq (false), its type, both sides, its slot. -/
def eqOf (ops : Array Oper) (nt i : Nat) (fr : Fr) : Option (Bool × TypeId × Value × Value × Option Nat) :=
  match opAt ops nt i fr with
  | some o => match o.op with
    | .binOp .eql t x y _ => some (true, t, ev fr x, ev fr y, o.dst)
    | .binOp .neq t x y _ => some (false, t, ev fr x, ev fr y, o.dst)
    | _ => none
  | none => none
def eqTy (P : Program) (t : TypeId) : Option (List Field) := match P.underlying t with
  | some (.struct fs) => if P.stoodInHeld t = false ∧ P.eqGuardType P.depth t = false then some fs.toList else none
  | _ => none
theorem step_eqs {ops : Array Oper} {i : Nat} {b : Bool} {t : TypeId} {xs ys : List Value} {dst : Option Nat} (hc : eqOf ops Γ.nt i s.fr = some (b, t, .agg xs.toArray, .agg ys.toArray, dst)) {fs : List Field} (ht : eqTy Γ.P t = some fs) (hx : fitsFs Γ.P fs 0 xs = true) (hy : fitsFs Γ.P fs 0 ys = true) :
    Step Γ ops i s (fun s' => ∃ r : Bool, (r = true ↔ xs = ys) ∧ s' = ⟨putFr s.fr dst (.bool (if b then r else !r)), s.hp⟩) := by
  unfold eqTy at ht
  split at ht
  case h_2 => cases ht
  case h_1 fs' hu =>
    split at ht
    case isFalse => cases ht
    case isTrue hz =>
      simp only [Option.some.injEq] at ht
      subst ht
      have hfo : Γ.P.fieldsOf t = fs' := by unfold Program.fieldsOf; rw [hu]
      have key : ∀ w : World, ∃ r : Bool, (Op.equalIn 10000 t (.agg xs.toArray) (.agg ys.toArray)).run Γ.P w = .ok r w ∧ (r = true ↔ xs = ys) := fun w => by
        obtain ⟨r, h1, h2⟩ := run_eqFields_fit (P := Γ.P) (w := w) 9998 fs'.toList 0 xs ys hx hy
        refine ⟨r, ?_, by simpa using h2⟩
        rw [show (10000 : Nat) = 9999 + 1 from rfl, run_equalIn_struct w 9999 t _ _ (by rw [hfo]; exact hu) hz.1, hfo]
        exact h1
      unfold eqOf at hc
      split at hc
      case h_2 => cases hc
      case h_1 o ho =>
        split at hc
        case h_3 => cases hc
        case h_1 t' x y k hop =>
          simp only [Option.some.injEq, Prod.mk.injEq] at hc
          obtain ⟨rfl, rfl, hxx, hyy, rfl⟩ := hc
          refine fun Q b' w hS K hK => step_sem ho (fun v hp' => ∃ r : Bool, (r = true ↔ xs = ys) ∧ v = .bool r ∧ hp' = s.hp) (fun w hw => ?_) Q b' w hS K
            (fun s' ⟨v, hp', ⟨r, h0, h1, h2⟩, h3⟩ => hK s' ⟨r, h0, by rw [h3, h1, h2]; rfl⟩)
          obtain ⟨r, hr, hri⟩ := key w
          refine ⟨_, _, _, w, ?_, .inl rfl, ⟨r, hri, rfl, rfl⟩, hw, Ext.refl _ _, Bd.self _ _⟩
          have hg := run_eqGuard_agg (P := Γ.P) w .eql t' x y xs.toArray ys.toArray hz.2
          simp [execOp, hop, hxx, hyy, hg, run_eql_struct, hr]
        case h_2 t' x y k hop =>
          simp only [Option.some.injEq, Prod.mk.injEq] at hc
          obtain ⟨rfl, rfl, hxx, hyy, rfl⟩ := hc
          refine fun Q b' w hS K hK => step_sem ho (fun v hp' => ∃ r : Bool, (r = true ↔ xs = ys) ∧ v = .bool (!r) ∧ hp' = s.hp) (fun w hw => ?_) Q b' w hS K
            (fun s' ⟨v, hp', ⟨r, h0, h1, h2⟩, h3⟩ => hK s' ⟨r, h0, by rw [h3, h1, h2]; rfl⟩)
          obtain ⟨r, hr, hri⟩ := key w
          refine ⟨_, _, _, w, ?_, .inl rfl, ⟨r, hri, rfl, rfl⟩, hw, Ext.refl _ _, Bd.self _ _⟩
          have hg := run_eqGuard_agg (P := Γ.P) w .neq t' x y xs.toArray ys.toArray hz.2
          simp [execOp, hop, hxx, hyy, hg, run_neq_struct, hr]
theorem wpr_eqs {ops : Array Oper} {i : Nat} {l₂ : List Nat} {b : Bool} {t : TypeId} {xs ys : List Value} {dst : Option Nat} (hc : eqOf ops Γ.nt i s.fr = some (b, t, .agg xs.toArray, .agg ys.toArray, dst)) {fs : List Field} (ht : eqTy Γ.P t = some fs) (hx : fitsFs Γ.P fs 0 xs = true) (hy : fitsFs Γ.P fs 0 ys = true)
    (h : ∀ r : Bool, (r = true ↔ xs = ys) → WpR Γ ops l₂ ⟨putFr s.fr dst (.bool (if b then r else !r)), s.hp⟩ Q) : WpR Γ ops (i :: l₂) s Q :=
  wpr_step (step_eqs hc ht hx hy) fun s' ⟨r, h1, h2⟩ => by rw [h2]; exact h r h1
theorem wpa_eqs {ops : Array Oper} {hs : Hp} {li : Array Bool} {i n : Nat} (hr : Region.ready .any ops li = [i]) {b : Bool} {t : TypeId} {xs ys : List Value} {dst : Option Nat} (hc : eqOf ops Γ.nt i s.fr = some (b, t, .agg xs.toArray, .agg ys.toArray, dst)) {fs : List Field} (ht : eqTy Γ.P t = some fs) (hx : fitsFs Γ.P fs 0 xs = true) (hy : fitsFs Γ.P fs 0 ys = true) (hsub : Sub hs s.hp)
    (h : ∀ r : Bool, (r = true ↔ xs = ys) → WpA Γ ops hs n (li.setIfInBounds i true) ⟨putFr s.fr dst (.bool (if b then r else !r)), s.hp⟩ Q) : WpA Γ ops hs (n + 1) li s Q :=
  wpa_step hr (step_eqs hc ht hx hy) (fun s' ⟨r, h1, h2⟩ => by rw [h2]; exact hsub) fun s' ⟨r, h1, h2⟩ => by rw [h2]; exact h r h1
theorem wpi_eqs {ops : Array Oper} {hs : Hp} {li : Array Bool} {i n : Nat} {b : Bool} {t : TypeId} {xs ys : List Value} {dst : Option Nat} (hc : eqOf ops Γ.nt i s.fr = some (b, t, .agg xs.toArray, .agg ys.toArray, dst)) {fs : List Field} (ht : eqTy Γ.P t = some fs) (hx : fitsFs Γ.P fs 0 xs = true) (hy : fitsFs Γ.P fs 0 ys = true) (hsub : Sub hs s.hp)
    (h : ∀ r : Bool, (r = true ↔ xs = ys) → WpA Γ ops hs n (li.setIfInBounds i true) ⟨putFr s.fr dst (.bool (if b then r else !r)), s.hp⟩ Q) : WpI Γ ops hs n li s Q i :=
  wpi_step (step_eqs hc ht hx hy) (fun s' ⟨r, h1, h2⟩ => by rw [h2]; exact hsub) fun s' ⟨r, h1, h2⟩ => by rw [h2]; exact h r h1
end Go.Sx

/-
  A call whose function is found by evaluation (a method of an interface's value); calls that are deferred.
-/
namespace Go.Sx
open Go
variable {Γ : Cx} {s : St} {Q : Exit → Act → World → Prop}

/-- What a call comes to: the function, what it is handed, the slot. -/
def callxOf (P : Program) (ops : Array Oper) (nt : Nat) (i : Nat) (fr : Fr) : Option (FuncId × List Value × Option Nat) :=
  match opAt ops nt i fr with
  | some o => match sread P (execOp (ev fr) o) [] [] with
    | some (.enter f args, [], [], []) => some (f, args.toList, o.dst)
    | _ => none
  | none => none
theorem callx_sound {ops : Array Oper} {i : Nat} {f : FuncId} {args : List Value} {dst : Option Nat} (hc : callxOf Γ.P ops Γ.nt i s.fr = some (f, args, dst))
    {pre rest : Hp} {R : Value → Hp → Prop} (hf : Does Γ.P f args pre R) (g : Give s.hp pre rest) {a : Act} {w : World} (hS : Sat Γ s a w) {K : Act → World → Prop}
    (hK : ∀ v hp', R v hp' → ∀ a' w', Sat Γ ⟨putFr s.fr dst v, hp' ++ rest⟩ a' w' → K a' w') : wpOp Γ.P ops Q i K a w := by
  unfold callxOf opAt at hc
  unfold wpOp
  cases hoi : ops[i]? with
  | none => rw [hoi] at hc; cases hc
  | some o =>
    rw [hoi] at hc
    simp only at hc ⊢
    split at hc
    case h_2 => cases hc
    case h_1 o' ho' =>
      split at ho'
      case h_2 => cases ho'
      case h_1 hd hw hk =>
        simp only [Option.some.injEq] at ho'
        subst ho'
        split at hc
        case h_2 => cases hc
        case h_1 f' args' hr =>
          simp only [Option.some.injEq, Prod.mk.injEq] at hc
          obtain ⟨rfl, rfl, rfl⟩ := hc
          rw [wants_ok hS.fr hw]
          simp only [if_true]
          refine .inl ?_
          unfold Oper.wp
          have hrun : (execOp (ev s.fr) o).run Γ.P w = .ok (.enter f' args') w := sread_sound _ _ _ _ _ _ _ hr rfl w (fun c hc => by cases hc)
          rw [ev_eq hS.fr hk, hrun]
          obtain ⟨hs1, hs2, hs3⟩ := g.sat w hS.hs
          have hf' := hf w hs1
          simp only [Array.toArray_toList] at hf'
          refine hf'.mono ?_
          rintro e w' ⟨v, hp', hR, rfl, hhs, he, hb, hr'⟩
          obtain ⟨b1, b2, b3⟩ := hS.behind g hhs he hb hr'
          exact hK v hp' hR _ _ ⟨(size_put _ _).trans hS.size, (defers_put _ _).trans hS.defers, FrOk.putFr hS.fr hS.size hd v, b1, b2, b3⟩
theorem wpr_callx {ops : Array Oper} {i : Nat} {l₂ : List Nat} {f : FuncId} {args : List Value} {dst : Option Nat} (hc : callxOf Γ.P ops Γ.nt i s.fr = some (f, args, dst))
    {pre rest : Hp} {R : Value → Hp → Prop} (hf : Does Γ.P f args pre R) (g : Give s.hp pre rest)
    (h : ∀ v hp', R v hp' → WpR Γ ops l₂ ⟨putFr s.fr dst v, hp' ++ rest⟩ Q) : WpR Γ ops (i :: l₂) s Q := fun a w hS =>
  callx_sound hc hf g hS fun v hp' hR a' w' hS' => h v hp' hR a' w' hS'

/-! ### deferred calls -/
def DoesD (P : Program) (f : FuncId) (args : List Value) (pre : Hp) (R : Value → Hp → Prop) : Prop :=
  ∀ (u : FrameMode) (w : World), HS pre w → CallsD P f args.toArray u w fun e u' w' => u' = u ∧ Post w pre R e w'
theorem enter_sat {P : Program} {fn : Func} {args : List Value} {pre : Hp} (nt : Nat) (hnt : args.length + (fn.ntmps - args.length) = nt) {w : World} (hw : HS pre w) :
    Sat ⟨P, w, foot pre, nt, []⟩ ⟨enum 0 args, pre⟩ { tmps := args.toArray ++ Array.replicate (fn.ntmps - args.toArray.size) undef, defers := [] } w := by
  refine ⟨by simp [hnt], rfl, fun i v hi => ?_, hw, Ext.refl _ _, Bd.self _ _⟩
  obtain ⟨_, h1⟩ := look_enum _ _ _ _ hi
  simp only [Nat.sub_zero] at h1
  obtain ⟨hlt, h2⟩ := List.getElem?_eq_some_iff.1 h1
  simp [Array.getD_eq_getD_getElem?, Array.getElem?_append, hlt, h2]
theorem fn_enter_d {P : Program} {f : FuncId} {fn : Func} {c : Code} {args : List Value} {pre : Hp} {R : Value → Hp → Prop} (hf : P.funcs[f]? = some fn) (hb : fn.body = some c)
    (nt : Nat) (hnt : args.length + (fn.ntmps - args.length) = nt) (h : ∀ w0, HS pre w0 → WpC ⟨P, w0, foot pre, nt, []⟩ c ⟨enum 0 args, pre⟩ (bodyPost P fn (Post w0 pre R))) : DoesD P f args pre R := fun u w hw =>
  callsD_of_wp hf hb (h w hw _ w (enter_sat nt hnt hw))
/-- A function that defers calls. -/
theorem fn_enter_def {P : Program} {f : FuncId} {fn : Func} {c : Code} {args : List Value} {pre : Hp} {R : Value → Hp → Prop} (hf : P.funcs[f]? = some fn) (hb : fn.body = some c)
    (nt : Nat) (hnt : args.length + (fn.ntmps - args.length) = nt) (h : ∀ w0, HS pre w0 → WpC ⟨P, w0, foot pre, nt, []⟩ c ⟨enum 0 args, pre⟩ (bodyPostD P fn (Post w0 pre R))) : Does P f args pre R := fun w hw =>
  calls_of_wp_defers hf hb (h w hw _ w (enter_sat nt hnt hw))
/-- Which call is deferred. -/
def deferOf (P : Program) (ops : Array Oper) (nt : Nat) (i : Nat) (fr : Fr) : Option (FuncId × Array Value × Array Value) :=
  match opAt ops nt i fr with
  | some o => match o.dst, sread P (execOp (ev fr) o) [] [] with
    | none, some (.defer ⟨.fn (.func f) caps, args⟩, [], [], []) => some (f, caps, args)
    | _, _ => none
  | none => none
theorem wpr_defer {ops : Array Oper} {i : Nat} {l₂ : List Nat} {f : FuncId} {caps args : Array Value} (hc : deferOf Γ.P ops Γ.nt i s.fr = some (f, caps, args))
    (h : WpR { Γ with ds := { target := .fn (.func f) caps, args := args } :: Γ.ds } ops l₂ s Q) : WpR Γ ops (i :: l₂) s Q := fun a w hS => by
  show wpOp Γ.P ops Q i (fun a w => wpOps Γ.P ops Q l₂ a w) a w
  unfold deferOf opAt at hc
  unfold wpOp
  cases hoi : ops[i]? with
  | none => rw [hoi] at hc; cases hc
  | some o =>
    rw [hoi] at hc
    simp only at hc ⊢
    split at hc
    case h_2 => cases hc
    case h_1 o' ho' =>
      split at ho'
      case h_2 => cases ho'
      case h_1 hd hw hk =>
        simp only [Option.some.injEq] at ho'
        subst ho'
        split at hc
        case h_2 => cases hc
        case h_1 f' caps' args' hdst hr =>
          simp only [Option.some.injEq, Prod.mk.injEq] at hc
          obtain ⟨rfl, rfl, rfl⟩ := hc
          rw [wants_ok hS.fr hw]
          simp only [if_true]
          refine .inl ?_
          unfold Oper.wp
          have hrun : (execOp (ev s.fr) o).run Γ.P w = .ok (.defer ⟨.fn (.func f') caps', args'⟩) w := sread_sound _ _ _ _ _ _ _ hr rfl w (fun c hc => by cases hc)
          rw [ev_eq hS.fr hk, hrun]
          rw [Oper.upon_defer, hdst]
          refine h _ w ⟨hS.size, ?_, hS.fr, hS.hs, hS.ext, hS.bd⟩
          show _ :: a.defers = _
          rw [hS.defers]
/-- What is left of a function: its deferred calls, the last laid first. -/
def Lv (P : Program) (w0 : World) (pre : Hp) (nt : Nat) (fn : Func) (R : Value → Hp → Prop) (ds : List Deferred) (s : St) : Prop :=
  ∀ (all : List Deferred) (a : Act) (w : World), Sat ⟨P, w0, foot pre, nt, all⟩ s a w → Leaves P fn a.tmps (Post w0 pre R) ds .returning w
theorem nx_lv {P : Program} {w0 : World} {pre : Hp} {nt : Nat} {fn : Func} {R : Value → Hp → Prop} {ds : List Deferred} {e : Exit} (he : e = .normal ∨ e = .ret) (h : Lv P w0 pre nt fn R ds s) : Nx ⟨P, w0, foot pre, nt, ds⟩ s (bodyPostD P fn (Post w0 pre R)) e := fun a w hS => by
  have h1 := h _ a w hS
  have hd : a.defers = ds := hS.defers
  rcases he with rfl | rfl
  · show Leaves P fn a.tmps _ a.defers _ w
    rw [hd]; exact h1
  · show Leaves P fn a.tmps _ a.defers _ w
    rw [hd]; exact h1
theorem lv_cons {P : Program} {w0 : World} {pre : Hp} {nt : Nat} {fn : Func} {R : Value → Hp → Prop} {ds : List Deferred} {f : FuncId} {caps args : Array Value} (he : enters P f = true)
    {pre' rest : Hp} {R' : Value → Hp → Prop} (hf : DoesD P f (args.toList ++ caps.toList) pre' R') (g : Give s.hp pre' rest) (h : ∀ v hp', R' v hp' → Lv P w0 pre nt fn R ds ⟨s.fr, hp' ++ rest⟩) :
    Lv P w0 pre nt fn R ({ target := .fn (.func f) caps, args := args } :: ds) s := fun all a w hS => by
  obtain ⟨hs1, hs2, hs3⟩ := g.sat w hS.hs
  refine leaves_cons (f := f) (args := args ++ caps) (by simp) (by simp [invoke, run_enters he]) ?_
  have el : (args.toList ++ caps.toList).toArray = args ++ caps := by apply Array.ext'; simp
  rw [← el]
  refine (hf .returning w hs1).mono ?_
  rintro e u' w' ⟨rfl, v, hp', hR, rfl, hhs, hx, hb, hr'⟩
  obtain ⟨b1, b2, b3⟩ := hS.behind g hhs hx hb hr'
  exact h v hp' hR all a w' ⟨hS.size, hS.defers, hS.fr, b1, b2, b3⟩
theorem lv_nil {P : Program} {w0 : World} {pre : Hp} {nt : Nat} {fn : Func} {R : Value → Hp → Prop} (v : Value) (hv : resOf P fn s.fr [] [] = some (v, [], [], [])) {hp' rest : Hp} (g : Give s.hp hp' rest) (hrw : AllRw hp') (hR : R v hp') :
    Lv P w0 pre nt fn R [] s := fun all a w hS => by
  have hS0 : Sat ⟨P, w0, foot pre, nt, all⟩ ⟨s.fr, []⟩ a w := ⟨hS.size, hS.defers, hS.fr, ⟨fun c hc => (by cases hc), List.Pairwise.nil⟩, hS.ext, fun c hc => by cases hc⟩
  have hres := resOf_sound (Γ := ⟨P, w0, foot pre, nt, all⟩) (s := ⟨s.fr, []⟩) hv rfl hS0
  refine ⟨v, hres, v, hp', hR, rfl, (g.sat w hS.hs).1, hS.ext, fun c hc hcr k hk => ?_, allRw_mem hrw⟩
  obtain ⟨d, hd, hdr, hdk⟩ := g.foot k ⟨c, hc, hcr, hk⟩
  exact hS.bd d hd hdr k hdk
end Go.Sx

/-
  A slice that is made, of a length that is not known; a copy into a row of the function's own.
-/
namespace Go.Sx
open Go
variable {Γ : Cx} {s : St} {Q : Exit → Act → World → Prop}

theorem storeCells_row {P : Program} {w : World} {vs : List Value} (h1 : Sx.One vs) {T sz n cap g off q : Nat} {xs : List Value} (hr : rowH T sz (some ⟨g, off, none⟩) n cap xs w) (hq : q + vs.length ≤ xs.length) :
    (storeCells ⟨g, off + q, none⟩ vs).run P w = .ok () (w.setCells g (off + q) vs) ∧ rowH T sz (some ⟨g, off, none⟩) n cap (xs.take q ++ vs ++ xs.drop (q + vs.length)) (w.setCells g (off + q) vs) := by
  obtain ⟨k1, k2, k3, k4, k5⟩ := hr
  by_cases hvs0 : vs = []
  · subst hvs0
    have hst := run_storeCells_cells (P := P) g (off + q) [] 0 w (fun j hj => absurd hj (by simp)) (fun j hj => absurd hj (by simp)) (fun u hu => by cases hu)
    simp only [Nat.add_zero] at hst
    refine ⟨hst, ?_⟩
    have e1 : xs.take q ++ [] ++ xs.drop (q + ([] : List Value).length) = xs := by simp
    rw [e1]; exact ⟨k1, k2, k3, k4, k5⟩
  rcases k5 with ⟨h, _⟩ | ⟨g', off', cur, fz, ha, hg, hs, hx, hfz⟩
  · have hn : n = 0 := by omega
    rw [hn, Nat.zero_mul] at k1
    have : 0 < vs.length := List.length_pos_iff.2 hvs0
    omega
  · cases ha
    have hns : n * sz ≤ cap * sz := Nat.mul_le_mul_right _ k2
    have hst := run_storeCells_cells (P := P) g (off + q) vs 0 w
      (fun j hj => by simp only [World.cell?, hg]; simp [show off + q + j < cur.size by omega])
      (fun j hj => by
        have h9 := hfz (off + q + 0 + j) (by omega)
        simp only [World.frozen?, hg]
        simp only [Bool.and_eq_false_iff, decide_eq_false_iff_not]
        omega) h1
    simp only [Nat.add_zero] at hst
    have hset := setCells_heap (news := vs) hg (show off + q + vs.length ≤ cur.size by omega)
    refine ⟨hst, ?_, k2, k3, ?_, .inr ⟨g, off, _, fz, rfl, hset, ?_, ?_, ?_⟩⟩
    · simp only [List.length_append, List.length_take, List.length_drop]; omega
    · intro u hu
      rcases List.mem_append.1 hu with hu | hu
      · rcases List.mem_append.1 hu with hu | hu
        · exact k4 u (List.mem_of_mem_take hu)
        · exact h1 u hu
      · exact k4 u (List.mem_of_mem_drop hu)
    · simp only [List.size_toArray, List.length_append, List.length_take, List.length_drop, Array.length_toList]; omega
    · have e1 : (cur.toList.take (off + q)).drop off = xs.take q := by
        rw [List.drop_take, Nat.add_sub_cancel_left, ← hx, List.take_take, Nat.min_eq_left (by omega)]
      have e2 : (cur.toList.take (off + q) ++ vs ++ cur.toList.drop (off + q + vs.length)).drop off = xs.take q ++ vs ++ cur.toList.drop (off + q + vs.length) := by
        rw [List.append_assoc, List.drop_append_of_le_length (by simp; omega), e1, List.append_assoc]
      have e3 : xs.drop (q + vs.length) = (cur.toList.drop (off + q + vs.length)).take (n * sz - (q + vs.length)) := by
        rw [← hx, List.drop_take, List.drop_drop, Nat.add_assoc]
      simp only [e2, e3]
      rw [List.take_append, List.take_of_length_le (by simp; omega)]
      congr 2
      simp only [List.length_append, List.length_take]
      omega
    · intro o ho
      refine hfz o ?_
      simp only [List.size_toArray, List.length_append, List.length_take, List.length_drop, Array.length_toList] at ho
      omega
/-- What is copied: into which slice, out of what, the type, the slot. -/
def copyOf (ops : Array Oper) (nt : Nat) (i : Nat) (fr : Fr) : Option (Value × Value × TypeId × Option Nat) :=
  match opAt ops nt i fr with
  | some o => match o.op with
    | .call c => match c.callee, c.args.toList, c.argTypes.toList with
      | .builtin .copy, [x, y], [t, _] => some (ev fr x, ev fr y, t, o.dst)
      | _, _, _ => none
    | _ => none
  | none => none
def elTy (P : Program) (t : TypeId) : Option (TypeId × Nat) :=
  match P.underlying t with
  | some (.slice e) => match P.info? e with
    | some i => some (e, i.size)
    | none => none
  | _ => none
theorem step_copy {ops : Array Oper} {i : Nat} {g off q dl dc : Nat} {x : Value} {t : TypeId} {dst : Option Nat} (hc : copyOf ops Γ.nt i s.fr = some (.slice (some ⟨g, off + q, none⟩) dl dc, x, t, dst)) {e sz : Nat} (ht : elTy Γ.P t = some (e, sz))
    (p : Nat) {T n cap : Nat} {xs : List Value} (hp : s.hp[p]? = some (row T sz (some ⟨g, off, none⟩) n cap xs)) {m : Nat} {news : List Value} (hsrc : ∀ w, HS s.hp w → srcOk w sz x m news) (hm : m ≤ dl) (hq : q + m * sz ≤ xs.length)
    {xs' : List Value} (hx : xs.take q ++ news ++ xs.drop (q + news.length) = xs') :
    Step Γ ops i s (fun s' => s' = ⟨putFr s.fr dst (.int .i64 (m : Int)), s.hp.set p (row T sz (some ⟨g, off, none⟩) n cap xs')⟩) := by
  subst hx
  unfold copyOf at hc
  split at hc
  case h_2 => cases hc
  case h_1 o ho =>
    split at hc
    case h_2 => cases hc
    case h_1 cl hop =>
      split at hc
      case h_2 => cases hc
      case h_1 a b t' t2 hcal hargs hts =>
        simp only [Option.some.injEq, Prod.mk.injEq] at hc
        obtain ⟨ha, hb, rfl, rfl⟩ := hc
        have e1 : cl.args = #[a, b] := by apply Array.ext'; simpa using hargs
        have e2 : cl.argTypes = #[t', t2] := by apply Array.ext'; simpa using hts
        unfold elTy at ht
        split at ht
        case h_2 => cases ht
        case h_1 e' hu =>
          split at ht
          case h_2 => cases ht
          case h_1 inf hi =>
            simp only [Option.some.injEq, Prod.mk.injEq] at ht
            obtain ⟨rfl, rfl⟩ := ht
            intro Q b' w' hS K hK
            refine step_sem ho (fun v hp' => v = .int .i64 (m : Int) ∧ hp' = s.hp.set p (row T inf.size (some ⟨g, off, none⟩) n cap (xs.take q ++ news ++ xs.drop (q + news.length)))) (fun w hw => ?_) Q b' w' hS K (fun s' ⟨v, hp', ⟨h1, h2⟩, h3⟩ => hK s' (by rw [h3, h1, h2]))
            have hs := hsrc w hw
            have hnl := src_len hs
            have hrow := hw.holds _ (List.mem_of_getElem? hp)
            obtain ⟨h2, h3⟩ := storeCells_row (P := Γ.P) (vs := news) (q := q) hs.1 hrow (by omega)
            obtain ⟨z1, z2, z3, z4⟩ := setCells_size (g := g) (news := news) (k := off + q) (w := w)
            have hrest : ∀ k, ¬ (0 < cap ∧ rowOwn (some ⟨g, off, none⟩) k) → k < w.heap.size → (w.setCells g (off + q) news).heap[k]? = w.heap[k]? := fun k hk _ => by
              by_cases hvs0 : news = []
              · subst hvs0; rfl
              · refine setCells_other (fun e => hk ⟨?_, _, rfl, e.symm⟩)
                obtain ⟨r1, r2, _⟩ := hrow
                have hl : 0 < news.length := List.length_pos_iff.2 hvs0
                rcases Nat.eq_zero_or_pos cap with hc | hc
                · have hn : n = 0 := by omega
                  rw [hn, Nat.zero_mul] at r1; omega
                · exact hc
            refine ⟨.value (.int .i64 (m : Int)), _, _, _, ?_, .inl rfl, ⟨rfl, rfl⟩, hw.put (c' := row T inf.size (some ⟨g, off, none⟩) n cap (xs.take q ++ news ++ xs.drop (q + news.length))) hp trivial (fun k h => .inl h) h3 hrest, ?_, Bd.put (c' := row T inf.size (some ⟨g, off, none⟩) n cap (xs.take q ++ news ++ xs.drop (q + news.length))) hp trivial (fun k h => .inl h)⟩
            · have hlen := src_lenOf (P := Γ.P) hs w
              have hfirst := src_first (P := Γ.P) (w' := w) hs (fun _ => rfl)
              have hmin : Nat.min m dl = m := Nat.min_eq_left hm
              simp only [execOp, hop, resolve, hcal, e1, e2, invoke, builtin, Sem.run_bind, Sem.run_pure, Result.andThen_ok, List.map_toArray, List.map_cons, List.map_nil, ha, hb]
              simp [Builtin.copy_, run_underlying hu, hlen, hmin, sizeOf, typeInfo, hi, hfirst, h2, goInt]
            · exact ⟨z2, z3, z4, by rw [z1]; exact Nat.le_refl _, fun k hk hf => hrest k (fun ho => hf ⟨_, List.mem_of_getElem? hp, trivial, ho⟩) hk⟩
/-- A slice that is made: type, length, slot. -/
def makeOf (ops : Array Oper) (nt : Nat) (i : Nat) (fr : Fr) : Option (TypeId × Value × Value × Option Nat) :=
  match opAt ops nt i fr with
  | some o => match o.op with
    | .makeSlice t l c => some (t, ev fr l, ev fr c, o.dst)
    | _ => none
  | none => none
def mrowTy (P : Program) (t : TypeId) : Option (TypeId × Nat × Nat) :=
  match P.underlying t with
  | some (.slice e) => match P.info? e with
    | some i => match i.zero with
      | some z => match z.cells.size == i.size, (0).blt i.size, z.cells.toList.all (fun v => v.oneCell') with | true, true, true => some (e, i.size, i.bytes) | _, _, _ => none
      | none => none
    | none => none
  | _ => none
theorem step_make {ops : Array Oper} {i : Nat} {m : Nat} {t : TypeId} {dst : Option Nat} (hc : makeOf ops Γ.nt i s.fr = some (t, .int .i64 (m : Int), .int .i64 (m : Int), dst)) {e sz bytes : Nat} (ht : mrowTy Γ.P t = some (e, sz, bytes))
    (h63 : m ≤ 1099511627776) (hb : bytes * m ≤ 140737488355328) :
    Step Γ ops i s (fun s' => ∃ g zs, zs.length = m * sz ∧ s' = ⟨putFr s.fr dst (.slice (some ⟨g, 0, none⟩) m m), s.hp ++ [row e sz (some ⟨g, 0, none⟩) m m zs]⟩) := by
  unfold makeOf at hc
  split at hc
  case h_2 => cases hc
  case h_1 o ho =>
    split at hc
    case h_2 => cases hc
    case h_1 t' l c hop =>
      simp only [Option.some.injEq, Prod.mk.injEq] at hc
      obtain ⟨rfl, hl, hcc, rfl⟩ := hc
      unfold mrowTy at ht
      split at ht
      case h_2 => cases ht
      case h_1 e' hu =>
        split at ht
        case h_2 => cases ht
        case h_1 inf hi =>
          split at ht
          case h_2 => cases ht
          case h_1 z hz =>
            split at ht
            case h_2 => cases ht
            case h_1 hzs hsz hz1 =>
              simp only [Option.some.injEq, Prod.mk.injEq] at ht
              obtain ⟨rfl, rfl, rfl⟩ := ht
              have hzs : z.cells.size = inf.size := by simpa using hzs
              have hsz : 0 < inf.size := Nat.le_of_ble_eq_true hsz
              intro Q bb ww hS K hK
              refine step_sem ho (fun v hp' => ∃ g zs, zs.length = m * inf.size ∧ v = .slice (some ⟨g, 0, none⟩) m m ∧ hp' = s.hp ++ [row e' inf.size (some ⟨g, 0, none⟩) m m zs]) (fun w hw => ?_) Q bb ww hS K ?_
              · have hb' : (inf.bytes : Int) * (m : Int) ≤ 281474976710656 := by
                  have h : ((inf.bytes * m : Nat) : Int) ≤ 281474976710656 := by omega
                  rwa [Int.natCast_mul] at h
                have hrun := run_make (P := Γ.P) w t' e' inf z hu hi hz .i64 .i64 m m (by omega) (Int.le_refl _) hb' (by omega)
                simp only [Int.toNat_natCast] at hrun
                have hlen : (madeCells z.cells (m * inf.size)).toList.length = m * inf.size := by simp [madeCells]
                have hone : Sx.One (madeCells z.cells (m * inf.size)).toList := by
                  intro u hu'
                  simp only [madeCells, Array.toList_map, List.mem_map, Array.toList_range, List.mem_range] at hu'
                  obtain ⟨j, hj, rfl⟩ := hu'
                  have hlt := Nat.mod_lt j (show 0 < z.cells.size by omega)
                  rw [getElem!_pos z.cells (j % z.cells.size) hlt]
                  exact List.all_eq_true.1 hz1 _ (by simp)
                have hold : ∀ k, k < w.heap.size → (w.alloc (.cells (madeCells z.cells (m * inf.size)) e')).heap[k]? = w.heap[k]? := fun k hk => by
                  show (w.heap.push _)[k]? = _; rw [Array.getElem?_push, if_neg (by omega)]
                refine ⟨_, _, s.hp ++ [row e' inf.size (some ⟨w.heap.size, 0, none⟩) m m (madeCells z.cells (m * inf.size)).toList], w.alloc (.cells (madeCells z.cells (m * inf.size)) e'), ?_, .inl rfl, ⟨w.heap.size, _, hlen, rfl, rfl⟩, ?_, ?_, ?_⟩
                · simp only [execOp, hop, hl, hcc, hrun, Sem.run_bind, Sem.run_pure, Result.andThen_ok]
                · refine hw.append hold ⟨hlen, Nat.le_refl _, by unfold maxLen; omega, hone, .inr ⟨w.heap.size, 0, madeCells z.cells (m * inf.size), (0, 0), rfl, Array.getElem?_push_size, ?_, ?_, fun o ho' h => by omega⟩⟩ (fun k ⟨_, ad, h1, h2⟩ => by cases h1; exact Nat.le_of_eq h2)
                  · rw [size_madeCells]; omega
                  · rw [List.drop_zero, List.take_of_length_le (by rw [hlen]; omega)]
                · exact ⟨rfl, rfl, rfl, by show w.heap.size ≤ (w.heap.push _).size; simp, fun k hk _ => hold k hk⟩
                · intro c hcm hcr k hk
                  rcases List.mem_append.1 hcm with hcm | hcm
                  · exact .inl ⟨c, hcm, hcr, hk⟩
                  · rw [List.mem_singleton.1 hcm] at hk
                    obtain ⟨_, ad, h1, h2⟩ := hk
                    cases h1; exact .inr (Nat.le_of_eq h2)
              · rintro s' ⟨v, hp', ⟨g, zs, h0, h1, h2⟩, h3⟩
                exact hK s' ⟨g, zs, h0, by rw [h3, h1, h2]⟩
theorem wpr_make {ops : Array Oper} {i : Nat} {l₂ : List Nat} {m : Nat} {t : TypeId} {dst : Option Nat} (hc : makeOf ops Γ.nt i s.fr = some (t, .int .i64 (m : Int), .int .i64 (m : Int), dst)) {e sz bytes : Nat} (ht : mrowTy Γ.P t = some (e, sz, bytes))
    (h63 : m ≤ 1099511627776) (hb : bytes * m ≤ 140737488355328)
    (h : ∀ g zs, zs.length = m * sz → WpR Γ ops l₂ ⟨putFr s.fr dst (.slice (some ⟨g, 0, none⟩) m m), s.hp ++ [row e sz (some ⟨g, 0, none⟩) m m zs]⟩ Q) : WpR Γ ops (i :: l₂) s Q :=
  wpr_step (step_make hc ht h63 hb) fun s' ⟨g, zs, h0, h1⟩ => by rw [h1]; exact h g zs h0
end Go.Sx

/-
  A range over a text: its place stands in a block of its own.
-/
namespace Go.Sx
open Go
variable {Γ : Cx} {s : St} {Q : Exit → Act → World → Prop}

/-- A text's iterator. -/
def itS (g : Nat) (l : List UInt8) (pos : Nat) : Ch := ob g (.stringIter (mkS l) pos)
def rngOf (P : Program) (ops : Array Oper) (nt : Nat) (i : Nat) (fr : Fr) : Option (Value × Option Nat) :=
  match opAt ops nt i fr with
  | some o => match o.op with
    | .range t x => match P.underlying t with
      | some .string => some (ev fr x, o.dst)
      | _ => none
    | _ => none
  | none => none
theorem step_rng {ops : Array Oper} {i : Nat} {l : List UInt8} {dst : Option Nat} (hc : rngOf Γ.P ops Γ.nt i s.fr = some (.string (mkS l), dst)) :
    Step Γ ops i s (fun s' => ∃ g, s' = ⟨putFr s.fr dst (.pointer (some ⟨g, 0, none⟩)), s.hp ++ [itS g l 0]⟩) := by
  unfold rngOf at hc
  split at hc
  case h_2 => cases hc
  case h_1 o ho =>
    split at hc
    case h_2 => cases hc
    case h_1 t x hop =>
      split at hc
      case h_2 => cases hc
      case h_1 hu =>
        simp only [Option.some.injEq, Prod.mk.injEq] at hc
        obtain ⟨hx, rfl⟩ := hc
        intro Q b' w' hS K hK
        refine step_sem ho (fun v hp' => ∃ g, v = .pointer (some ⟨g, 0, none⟩) ∧ hp' = s.hp ++ [itS g l 0]) (fun w hw => ?_) Q b' w' hS K (fun s' ⟨v, hp', ⟨g, h1, h2⟩, h3⟩ => hK s' ⟨g, by rw [h3, h1, h2]⟩)
        have hold : ∀ k, k < w.heap.size → (w.alloc (.stringIter (mkS l) 0)).heap[k]? = w.heap[k]? := fun k hk => alloc_old hk
        refine ⟨_, _, s.hp ++ [itS w.heap.size l 0], w.alloc (.stringIter (mkS l) 0), ?_, .inl rfl, ⟨w.heap.size, rfl, rfl⟩, hw.append hold (World.alloc_heap_new w _) (fun k hk => Nat.le_of_eq (Eq.symm hk)), ?_, ?_⟩
        · simp only [execOp, hop, hx, Instr.range, run_underlying hu, newObj, Sem.run_bind, Sem.run_pure, Result.andThen_ok, Sem.run]
          rfl
        · exact ⟨rfl, rfl, rfl, by show w.heap.size ≤ (w.heap.push _).size; simp, fun k hk _ => hold k hk⟩
        · intro c hcm hcr k hk
          rcases List.mem_append.1 hcm with hcm | hcm
          · exact .inl ⟨c, hcm, hcr, hk⟩
          · rw [List.mem_singleton.1 hcm] at hk
            exact .inr (Nat.le_of_eq (Eq.symm hk))
def nxtOf (ops : Array Oper) (nt : Nat) (i : Nat) (fr : Fr) : Option (Value × Option Nat) :=
  match opAt ops nt i fr with
  | some o => match o.op with
    | .next x true => some (ev fr x, o.dst)
    | _ => none
  | none => none
theorem step_nxt_end {ops : Array Oper} {i g : Nat} {l : List UInt8} {pos : Nat} {dst : Option Nat} (hc : nxtOf ops Γ.nt i s.fr = some (.pointer (some ⟨g, 0, none⟩), dst)) (p : Nat) (hp : s.hp[p]? = some (itS g l pos)) (hn : l.length ≤ pos) :
    Step Γ ops i s (fun s' => s' = ⟨putFr s.fr dst (.tuple #[.bool false]), s.hp⟩) := by
  unfold nxtOf at hc
  split at hc
  case h_2 => cases hc
  case h_1 o ho =>
    split at hc
    case h_2 => cases hc
    case h_1 x hop =>
      simp only [Option.some.injEq, Prod.mk.injEq] at hc
      obtain ⟨hx, rfl⟩ := hc
      intro Q b' w' hS K hK
      refine step_sem ho (fun v hp' => v = .tuple #[.bool false] ∧ hp' = s.hp) (fun w hw => ⟨_, _, _, w, ?_, .inl rfl, ⟨rfl, rfl⟩, hw, Ext.refl _ _, Bd.self _ _⟩) Q b' w' hS K (fun s' ⟨v, hp', ⟨h1, h2⟩, h3⟩ => hK s' (by rw [h3, h1, h2]))
      have hk : w.heap[g]? = some (.stringIter (mkS l) pos) := hw.holds _ (List.mem_of_getElem? hp)
      simp only [execOp, hop, hx, Go.Lib.run_next_end_at w g (mkS l) pos _ hk (by rw [mkS_size]; omega), Sem.run_bind, Sem.run_pure, Result.andThen_ok]
theorem step_nxt {ops : Array Oper} {i g : Nat} {l : List UInt8} {pos : Nat} {dst : Option Nat} (hc : nxtOf ops Γ.nt i s.fr = some (.pointer (some ⟨g, 0, none⟩), dst)) (p : Nat) (hp : s.hp[p]? = some (itS g l pos)) (hn : pos < l.length) :
    Step Γ ops i s (fun s' => s' = ⟨putFr s.fr dst (.tuple #[.bool true, .int .i64 (pos : Int), .int .i32 (Utf8.decode (mkS l) pos).1]), s.hp.set p (itS g l (pos + (Utf8.decode (mkS l) pos).2))⟩) := by
  unfold nxtOf at hc
  split at hc
  case h_2 => cases hc
  case h_1 o ho =>
    split at hc
    case h_2 => cases hc
    case h_1 x hop =>
      simp only [Option.some.injEq, Prod.mk.injEq] at hc
      obtain ⟨hx, rfl⟩ := hc
      intro Q b' w' hS K hK
      refine step_sem ho (fun v hp' => v = .tuple #[.bool true, .int .i64 (pos : Int), .int .i32 (Utf8.decode (mkS l) pos).1] ∧ hp' = s.hp.set p (itS g l (pos + (Utf8.decode (mkS l) pos).2))) (fun w hw => ?_) Q b' w' hS K (fun s' ⟨v, hp', ⟨h1, h2⟩, h3⟩ => hK s' (by rw [h3, h1, h2]))
      have hk : w.heap[g]? = some (.stringIter (mkS l) pos) := hw.holds _ (List.mem_of_getElem? hp)
      obtain ⟨p', hp'⟩ : ∃ p', p' = pos + (Utf8.decode (mkS l) pos).2 := ⟨_, rfl⟩
      have hrest : ∀ k, ¬ (itS g l pos).own k → k < w.heap.size → (w.iterAt g (mkS l) p').heap[k]? = w.heap[k]? := fun k hk' _ => by
        show (w.heap.setIfInBounds g _)[k]? = _
        rw [Array.getElem?_setIfInBounds, if_neg (fun e => hk' e.symm)]
      refine ⟨_, _, s.hp.set p (itS g l p'), w.iterAt g (mkS l) p', ?_, .inl rfl, ⟨rfl, by rw [hp']⟩, hw.put (c' := itS g l p') hp trivial (fun k h => .inl h) (Go.Lib.iterAt_heap w g (mkS l) pos p' hk) hrest, ?_, Bd.put (c' := itS g l p') hp trivial (fun k h => .inl h)⟩
      · rw [hp']
        simp only [execOp, hop, hx, Go.Lib.run_next_any_at w g (mkS l) pos _ hk (by rw [mkS_size]; exact hn), Sem.run_bind, Sem.run_pure, Result.andThen_ok]
      · exact ⟨rfl, rfl, rfl, by show w.heap.size ≤ (w.heap.setIfInBounds g _).size; simp, fun k hk' hF => hrest k (fun ho => hF ⟨_, List.mem_of_getElem? hp, trivial, ho⟩) hk'⟩
end Go.Sx

/-
  Pointers that are the same, compared; a text that shares a row of bytes (strings.Builder's String): the row is given up.
-/
namespace Go.Sx
open Go
variable {Γ : Cx} {s : St} {Q : Exit → Act → World → Prop}

def ptrTy (P : Program) (t : TypeId) : Bool := match P.underlying t with
  | some (.pointer te) => (P.info? te).isSome
  | _ => false
theorem step_eqp {ops : Array Oper} {i : Nat} {b : Bool} {t : TypeId} {ad : Addr} {dst : Option Nat} (hc : eqOf ops Γ.nt i s.fr = some (b, t, .pointer (some ad), .pointer (some ad), dst)) (ht : ptrTy Γ.P t = true) :
    Step Γ ops i s (fun s' => s' = ⟨putFr s.fr dst (.bool b), s.hp⟩) := by
  unfold ptrTy at ht
  split at ht
  case h_2 => cases ht
  case h_1 te hu =>
    obtain ⟨j, hj⟩ := Option.isSome_iff_exists.1 ht
    unfold eqOf at hc
    split at hc
    case h_2 => cases hc
    case h_1 o ho =>
      split at hc
      case h_3 => cases hc
      case h_1 t' x y k hop =>
        simp only [Option.some.injEq, Prod.mk.injEq] at hc
        obtain ⟨rfl, rfl, hxx, hyy, rfl⟩ := hc
        refine fun Q b' w hS K hK => step_sem ho (fun v hp' => v = .bool true ∧ hp' = s.hp) (fun w hw => ?_) Q b' w hS K
          (fun s' ⟨v, hp', ⟨h1, h2⟩, h3⟩ => hK s' (by rw [h3, h1, h2]))
        refine ⟨.value (.bool true), _, _, w, ?_, .inl rfl, ⟨rfl, rfl⟩, hw, Ext.refl _ _, Bd.self _ _⟩
        have h1 := run_eql_ptr_same (P := Γ.P) w ad hu hj
        have hg : (eqGuard .eql t' x y (.pointer (some ad)) (.pointer (some ad))).run Γ.P w = .ok () w := by simp [eqGuard]
        simp only [execOp, hop, hxx, hyy, Sem.run_bind, hg, h1, Sem.run_pure, Result.andThen_ok]
      case h_2 t' x y k hop =>
        simp only [Option.some.injEq, Prod.mk.injEq] at hc
        obtain ⟨rfl, rfl, hxx, hyy, rfl⟩ := hc
        refine fun Q b' w hS K hK => step_sem ho (fun v hp' => v = .bool false ∧ hp' = s.hp) (fun w hw => ?_) Q b' w hS K
          (fun s' ⟨v, hp', ⟨h1, h2⟩, h3⟩ => hK s' (by rw [h3, h1, h2]))
        refine ⟨.value (.bool false), _, _, w, ?_, .inl rfl, ⟨rfl, rfl⟩, hw, Ext.refl _ _, Bd.self _ _⟩
        have h1 := run_eql_ptr_same (P := Γ.P) w ad hu hj
        have hq : (Op.equal t' (.pointer (some ad)) (.pointer (some ad))).run Γ.P w = .ok true w := by
          simp only [binOp, Sem.run_bind] at h1
          cases hr : (Op.equal t' (.pointer (some ad)) (.pointer (some ad))).run Γ.P w with
          | ok r w' => rw [hr] at h1; simp only [Result.andThen_ok, Sem.run_pure] at h1; injection h1 with h2 h3; injection h2 with h2; subst h2 h3; rfl
          | _ => rw [hr] at h1; cases h1
        have hg : (eqGuard .neq t' x y (.pointer (some ad)) (.pointer (some ad))).run Γ.P w = .ok () w := by simp [eqGuard]
        simp only [execOp, hop, hxx, hyy, Sem.run_bind, hg, Sem.run_pure, Result.andThen_ok, binOp, hq]
        rfl
/-- A builtin of two arguments. -/
def usdOf (ops : Array Oper) (nt : Nat) (i : Nat) (fr : Fr) : Option (Value × Option Nat) :=
  match opAt ops nt i fr with
  | some o => match o.op with
    | .call c => match c.callee, c.args.toList, c.argTypes.toList with
      | .builtin .unsafeSliceData, [x], [_] => some (ev fr x, o.dst)
      | _, _, _ => none
    | _ => none
  | none => none
theorem step_usd {ops : Array Oper} {i : Nat} {ad : Addr} {n c : Nat} {dst : Option Nat} (hc : usdOf ops Γ.nt i s.fr = some (.slice (some ad) n c, dst)) (h0 : c ≠ 0) :
    Step Γ ops i s (fun s' => s' = ⟨putFr s.fr dst (.pointer (some ad)), s.hp⟩) := by
  unfold usdOf at hc
  split at hc
  case h_2 => cases hc
  case h_1 o ho =>
    split at hc
    case h_2 => cases hc
    case h_1 cl hop =>
      split at hc
      case h_2 => cases hc
      case h_1 a t hcal hargs hts =>
        simp only [Option.some.injEq, Prod.mk.injEq] at hc
        obtain ⟨ha, rfl⟩ := hc
        have e1 : cl.args = #[a] := by apply Array.ext'; simpa using hargs
        refine fun Q b' w hS K hK => step_sem ho (fun v hp' => v = .pointer (some ad) ∧ hp' = s.hp) (fun w hw => ?_) Q b' w hS K
          (fun s' ⟨v, hp', ⟨h1, h2⟩, h3⟩ => hK s' (by rw [h3, h1, h2]))
        refine ⟨.value (.pointer (some ad)), _, _, w, ?_, .inl rfl, ⟨rfl, rfl⟩, hw, Ext.refl _ _, Bd.self _ _⟩
        have h1 := Lib.run_unsafeSliceData_row (P := Γ.P) w cl.argTypes o.type ad n c h0
        simp only [execOp, hop, resolve, hcal, e1, invoke, builtin, Sem.run_bind, Sem.run_pure, Result.andThen_ok, List.map_toArray, List.map_cons, List.map_nil, ha]
        simp [h1]
def ustrOf (ops : Array Oper) (nt : Nat) (i : Nat) (fr : Fr) : Option (TypeId × Value × Value × Option Nat) :=
  match opAt ops nt i fr with
  | some o => match o.op with
    | .call c => match c.callee, c.args.toList, c.argTypes.toList with
      | .builtin .unsafeString, [x, y], [t, _] => some (t, ev fr x, ev fr y, o.dst)
      | _, _, _ => none
    | _ => none
  | none => none
def ustrTy (P : Program) (t T : TypeId) : Bool := match P.underlying t with
  | some (.pointer e) => e == T && P.cellsOf e == 1
  | _ => false
theorem liesAt_off {P : Program} {e : TypeId} (hc : P.cellsOf e = 1) (count off n : Nat) (hn : off + n ≤ count) : liesAt P P.depth e count off e n = true := by
  have hd : P.depth = (2 * (P.types.size + Made.depth) + 1) + 1 := rfl
  rw [hd]
  simp only [liesAt, Bool.or_eq_true]
  left
  rw [hd]
  simp [rowAt, hc, hn, sameLayout, Nat.mod_one]
theorem run_ustr {P : Program} (w : World) (pt it ty e : TypeId) (hp : P.underlying pt = some (.pointer e)) (hc : P.cellsOf e = 1) (g off cells : Nat) (hsh : w.shape? g = some (e, cells)) (l : List UInt8) (h0 : l ≠ []) (hn : off + l.length ≤ cells) (h63 : l.length ≤ 9223372036854775807)
    (hcell : ∀ j x, l[j]? = some x → w.cell? ((⟨g, off, none⟩ : Addr).add j) = some (.int .u8 x.toNat)) :
    (Builtin.unsafeString_ #[pt, it] ty #[.pointer (some ⟨g, off, none⟩), .int .i64 l.length]).run P w = .ok (.string ⟨l.toArray⟩) (w.freeze ⟨g, off, none⟩ l.length) := by
  have hl : l.length ≠ 0 := by simpa using h0
  have hlb := Lib.run_loadBytes (P := P) w l ⟨g, off, none⟩ .empty hcell
  have hlies := liesAt_off (P := P) hc (cells / P.cellsOf e) off l.length (by rw [hc]; simpa using hn)
  have h63' : ¬ (9223372036854775807 : Int) < (l.length : Int) := by omega
  have hdef : Builtin.unsafeString_ #[pt, it] ty #[.pointer (some ⟨g, off, none⟩), .int .i64 l.length] =
      (do
        let n ← asInt (.int .i64 l.length)
        if n < 0 then runtimePanic (.error "unsafe.String: len out of range")
        if n > IntKind.i64.max then unsupported (.unsafePointer "String: a length above the largest int")
        if n = 0 then pure (.string .empty)
        else if ← variablesAt ⟨g, off, none⟩ (← elemOf pt) n.toNat then do
          let s ← loadBytes ⟨g, off, none⟩ .empty n.toNat
          freeze ⟨g, off, none⟩ n.toNat
          pure (.string s)
        else unsupported (.unsafePointer "String: not so many bytes at ptr")) := rfl
  rw [hdef]
  have hmax : IntKind.i64.max = 9223372036854775807 := rfl
  have hneg : ¬ (l.length : Int) < 0 := by omega
  simp [asInt, asIntOf, hmax, h63', hneg, hl, variablesAt, hsh, elemOf, run_underlying hp, hlies, hlb]
theorem freeze_other {w : World} {g off n k : Nat} (hk : k ≠ g) : (w.freeze ⟨g, off, none⟩ n).heap[k]? = w.heap[k]? := by
  unfold World.freeze
  split
  · rfl
  · simp only [Array.getElem?_modify]
    rw [if_neg (fun e => hk e.symm)]
theorem freeze_rest {w : World} {ad : Addr} {n : Nat} : (w.freeze ad n).os = w.os ∧ (w.freeze ad n).tape = w.tape ∧ (w.freeze ad n).output = w.output ∧ (w.freeze ad n).heap.size = w.heap.size := by
  unfold World.freeze
  split
  · exact ⟨rfl, rfl, rfl, rfl⟩
  · exact ⟨rfl, rfl, rfl, by simp⟩
theorem step_ustr {ops : Array Oper} {i : Nat} {g off : Nat} {t : TypeId} {dst : Option Nat} {bs : List UInt8} (hc : ustrOf ops Γ.nt i s.fr = some (t, .pointer (some ⟨g, off, none⟩), .int .i64 (bs.length : Int), dst))
    (p : Nat) {T cap : Nat} (hp : s.hp[p]? = some (row T 1 (some ⟨g, off, none⟩) bs.length cap (u8s bs))) (ht : ustrTy Γ.P t T = true) (h0 : bs ≠ []) :
    Step Γ ops i s (fun s' => s' = ⟨putFr s.fr dst (.string (mkS bs)), s.hp.eraseIdx p⟩) := by
  unfold ustrTy at ht
  split at ht
  case h_2 => cases ht
  case h_1 e hu =>
    simp only [Bool.and_eq_true, beq_iff_eq] at ht
    obtain ⟨rfl, hco⟩ := ht
    unfold ustrOf at hc
    split at hc
    case h_2 => cases hc
    case h_1 o ho =>
      split at hc
      case h_2 => cases hc
      case h_1 cl hop =>
        split at hc
        case h_2 => cases hc
        case h_1 a b t' t2 hcal hargs hts =>
          simp only [Option.some.injEq, Prod.mk.injEq] at hc
          obtain ⟨rfl, ha, hb, rfl⟩ := hc
          have e1 : cl.args = #[a, b] := by apply Array.ext'; simpa using hargs
          have e2 : cl.argTypes = #[t', t2] := by apply Array.ext'; simpa using hts
          refine fun Q b' w hS K hK => step_sem ho (fun v hp' => v = .string (mkS bs) ∧ hp' = s.hp.eraseIdx p) (fun w hw => ?_) Q b' w hS K
            (fun s' ⟨v, hp', ⟨h1, h2⟩, h3⟩ => hK s' (by rw [h3, h1, h2]))
          obtain ⟨hpl, hpe⟩ := List.getElem?_eq_some_iff.1 hp
          have hper := perm_erase s.hp p hpl
          rw [hpe] at hper
          have hw2 := hw.perm hper
          have hrow := hw2.holds _ (List.mem_cons_self ..)
          have hap := (List.pairwise_cons.1 hw2.apart).1
          obtain ⟨k1, k2, k3, k4, k5⟩ := hrow
          rcases k5 with ⟨hz, _⟩ | ⟨g', off', cur, fz, hg', hcur, hroom, hx, hfz⟩
          · exfalso
            have : bs.length = 0 := by omega
            exact h0 (List.eq_nil_of_length_eq_zero this)
          · cases hg'
            have hcap : 0 < cap := by
              have : 0 < bs.length := List.length_pos_iff.2 h0
              omega
            have hrun := run_ustr (P := Γ.P) w t' t2 o.type e hu hco g off cur.size (by unfold World.shape?; rw [hcur]) bs h0 (by omega) (by
              have : maxLen ≤ 9223372036854775807 := by decide
              omega) (fun j x hj => by
                have hadd : (⟨g, off, none⟩ : Addr).add j = ⟨g, off + j, none⟩ := by unfold Addr.add; split <;> simp_all
                have hjl := (List.getElem?_eq_some_iff.1 hj).1
                rw [hadd]
                unfold World.cell?
                simp only [hcur]
                have h1 : ((cur.toList.drop off).take (bs.length * 1))[j]? = (u8s bs)[j]? := by rw [hx]
                rw [List.getElem?_take, if_pos (by omega), List.getElem?_drop] at h1
                have h2 : (u8s bs)[j]? = some (.int .u8 x.toNat) := by unfold u8s; rw [List.getElem?_map, hj]; rfl
                rw [h2] at h1
                simpa using h1)
            obtain ⟨f1, f2, f3, f4⟩ := freeze_rest (w := w) (ad := ⟨g, off, none⟩) (n := bs.length)
            refine ⟨.value (.string (mkS bs)), _, _, w.freeze ⟨g, off, none⟩ bs.length, ?_, .inl rfl, ⟨rfl, rfl⟩, ⟨fun c hcm => ?_, (List.pairwise_cons.1 hw2.apart).2⟩, ⟨f1, f2, f3, by rw [f4]; exact Nat.le_refl _, fun k hk hf => freeze_other fun e => hf ⟨_, List.mem_of_getElem? hp, trivial, hcap, _, rfl, e.symm⟩⟩, fun c hcm hcr k hk => .inl ⟨c, List.mem_of_mem_eraseIdx hcm, hcr, hk⟩⟩
            · simp only [execOp, hop, resolve, hcal, e1, e2, invoke, builtin, Sem.run_bind, Sem.run_pure, Result.andThen_ok, List.map_toArray, List.map_cons, List.map_nil, ha, hb]
              rw [hrun]
              rfl
            · refine c.loc (fun k hk => freeze_other fun e => ?_) (hw2.holds c (List.mem_cons_of_mem _ hcm))
              rcases hap c hcm with ⟨h5, _⟩ | h5
              · exact h5 trivial
              · exact h5 k ⟨hcap, _, rfl, e.symm⟩ hk
/-! Records compared: one check for all that the laws ask. -/
def eqChk (P : Program) (t : TypeId) (xs ys : List Value) : Bool := match eqTy P t with
  | some fs => fitsFs P fs 0 xs && fitsFs P fs 0 ys
  | none => false
theorem eqChk_spec {P : Program} {t : TypeId} {xs ys : List Value} (h : eqChk P t xs ys = true) : ∃ fs, eqTy P t = some fs ∧ fitsFs P fs 0 xs = true ∧ fitsFs P fs 0 ys = true := by
  unfold eqChk at h
  split at h
  · rename_i fs hfs
    simp only [Bool.and_eq_true] at h
    exact ⟨fs, hfs, h.1, h.2⟩
  · cases h
theorem wpr_eqc {ops : Array Oper} {i : Nat} {l₂ : List Nat} {b : Bool} {t : TypeId} {xs ys : List Value} {dst : Option Nat} (hc : eqOf ops Γ.nt i s.fr = some (b, t, .agg xs.toArray, .agg ys.toArray, dst)) (hk : eqChk Γ.P t xs ys = true)
    (h : ∀ r : Bool, (r = true ↔ xs = ys) → WpR Γ ops l₂ ⟨putFr s.fr dst (.bool (if b then r else !r)), s.hp⟩ Q) : WpR Γ ops (i :: l₂) s Q := by
  obtain ⟨fs, h1, h2, h3⟩ := eqChk_spec hk
  exact wpr_eqs hc h1 h2 h3 h
theorem wpa_eqc {ops : Array Oper} {hs : Hp} {li : Array Bool} {i n : Nat} (hr : Region.ready .any ops li = [i]) {b : Bool} {t : TypeId} {xs ys : List Value} {dst : Option Nat} (hc : eqOf ops Γ.nt i s.fr = some (b, t, .agg xs.toArray, .agg ys.toArray, dst)) (hk : eqChk Γ.P t xs ys = true) (hsub : Sub hs s.hp)
    (h : ∀ r : Bool, (r = true ↔ xs = ys) → WpA Γ ops hs n (li.setIfInBounds i true) ⟨putFr s.fr dst (.bool (if b then r else !r)), s.hp⟩ Q) : WpA Γ ops hs (n + 1) li s Q := by
  obtain ⟨fs, h1, h2, h3⟩ := eqChk_spec hk
  exact wpa_eqs hr hc h1 h2 h3 hsub h
/-- The same record on both sides. -/
theorem wpr_eqc_same {ops : Array Oper} {i : Nat} {l₂ : List Nat} {b : Bool} {t : TypeId} {xs : List Value} {dst : Option Nat} (hc : eqOf ops Γ.nt i s.fr = some (b, t, .agg xs.toArray, .agg xs.toArray, dst)) (hk : eqChk Γ.P t xs xs = true)
    (h : WpR Γ ops l₂ ⟨putFr s.fr dst (.bool b), s.hp⟩ Q) : WpR Γ ops (i :: l₂) s Q :=
  wpr_eqc hc hk fun r hr => by
    obtain rfl : r = true := hr.2 rfl
    cases b <;> exact h
theorem wpa_eqc_same {ops : Array Oper} {hs : Hp} {li : Array Bool} {i n : Nat} (hr : Region.ready .any ops li = [i]) {b : Bool} {t : TypeId} {xs : List Value} {dst : Option Nat} (hc : eqOf ops Γ.nt i s.fr = some (b, t, .agg xs.toArray, .agg xs.toArray, dst)) (hk : eqChk Γ.P t xs xs = true) (hsub : Sub hs s.hp)
    (h : WpA Γ ops hs n (li.setIfInBounds i true) ⟨putFr s.fr dst (.bool b), s.hp⟩ Q) : WpA Γ ops hs (n + 1) li s Q :=
  wpa_eqc hr hc hk hsub fun r hr => by
    obtain rfl : r = true := hr.2 rfl
    cases b <;> exact h
end Go.Sx
