import Derived.Test.YtpfhleghgkeemaaGreatDoorX16
import Derived.RangeFuncNested
import Derived.OwnWalkIn
/-! X17: a range over a function. -/
namespace Go.Sx
open Go
set_option linter.unusedVariables false
set_option linter.unusedSimpArgs false
variable {P : Program} {Γ : Cx} {Q : Exit → Act → World → Prop} {s : St}

/-! ### blocks that are no cells -/
def objQ (g : Nat) (o : Obj) : Oq where
  own := fun k => k = g
  rw := True
  holds := fun w => w.heap[g]? = some o
  loc := fun w w' hk h => (hk g rfl).trans h
  lt := fun w k h hk => by subst hk; exact lt_of_get h
def ob (g : Nat) (o : Obj) : Ch := .op (objQ g o)
theorem ob_holds {g : Nat} {o : Obj} {hp : Hp} {w : World} (h : HS hp w) (hm : ob g o ∈ hp) : w.heap[g]? = some o := h.holds _ hm
theorem alloc_old {w : World} {o : Obj} {k : Nat} (hk : k < w.heap.size) : (w.alloc o).heap[k]? = w.heap[k]? := by
  show (w.heap.push o)[k]? = _; rw [Array.getElem?_push, if_neg (by omega)]
theorem Sat.newOb {fr : Fr} {hp : Hp} {a : Act} {w : World} (h : Sat Γ ⟨fr, hp⟩ a w) (o : Obj) : Sat Γ ⟨fr, ob w.heap.size o :: hp⟩ a (w.alloc o) := by
  have hsz : (w.alloc o).heap.size = w.heap.size + 1 := World.size_alloc ..
  refine ⟨h.size, h.defers, h.fr, ⟨fun c hc => ?_, List.pairwise_cons.2 ⟨fun d hd => .inr fun k hk hdk => ?_, h.hs.apart⟩⟩, ⟨h.ext.os, h.ext.tape, h.ext.output, by have := h.ext.size; omega, fun k hk hF => ?_⟩, fun c hc hr k hk => ?_⟩
  · rcases List.mem_cons.1 hc with rfl | hc
    · exact World.alloc_heap_new w o
    · exact c.loc (fun k hk => alloc_old (c.lt (h.hs.holds c hc) hk)) (h.hs.holds c hc)
  · have hk : k = w.heap.size := hk
    have := d.lt (h.hs.holds d hd) hdk; omega
  · have := h.ext.size
    rw [alloc_old (by omega)]; exact h.ext.block k hk hF
  · rcases List.mem_cons.1 hc with rfl | hc
    · have hk : k = w.heap.size := hk
      have := h.ext.size; exact .inr (by omega)
    · exact h.bd c hc hr k hk
theorem put_other {w : World} {g k : Nat} {o : Obj} (h : k ≠ g) : (w.putObj g o).heap[k]? = w.heap[k]? := World.putObj_heap_other h
/-- What a chunk's block becomes. -/
theorem Sat.setOb {fr : Fr} {hp : Hp} {g : Nat} {o : Obj} {a : Act} {w : World} (h : Sat Γ ⟨fr, ob g o :: hp⟩ a w) (o' : Obj) : Sat Γ ⟨fr, ob g o' :: hp⟩ a (w.putObj g o') := by
  have hg := ob_holds h.hs (List.mem_cons_self ..)
  have h2 := List.pairwise_cons.1 h.hs.apart
  have hne : ∀ c ∈ hp, ∀ k, c.own k → k ≠ g := fun c hc k hk e => by
    rcases h2.1 c hc with ⟨h3, _⟩ | h3
    · exact h3 trivial
    · exact h3 k e hk
  refine ⟨h.size, h.defers, h.fr, ⟨fun c hc => ?_, List.pairwise_cons.2 ⟨fun d hd => .inr fun k hk hdk => hne d hd k hdk hk, h2.2⟩⟩, ⟨h.ext.os, h.ext.tape, h.ext.output, by rw [World.putObj_size]; exact h.ext.size, fun k hk hF => ?_⟩, fun c hc hr k hk => ?_⟩
  · rcases List.mem_cons.1 hc with rfl | hc
    · exact World.putObj_heap_same (lt_of_get hg)
    · exact c.loc (fun k hk => put_other (hne c hc k hk)) (h.hs.holds c (List.mem_cons_of_mem _ hc))
  · rw [put_other (fun e => ?_)]
    · exact h.ext.block k hk hF
    · rcases h.bd (ob g o) (by simp) trivial k e with h3 | h3
      · exact hF h3
      · omega
  · rcases List.mem_cons.1 hc with rfl | hc
    · exact h.bd (ob g o) (by simp) trivial k hk
    · exact h.bd c (List.mem_cons_of_mem _ hc) hr k hk
theorem Sat.drop1 {fr : Fr} {hp : Hp} {c : Ch} {a : Act} {w : World} (h : Sat Γ ⟨fr, c :: hp⟩ a w) : Sat Γ ⟨fr, hp⟩ a w :=
  ⟨h.size, h.defers, h.fr, ⟨fun d hd => h.hs.holds d (List.mem_cons_of_mem _ hd), (List.pairwise_cons.1 h.hs.apart).2⟩, h.ext, fun d hd => h.bd d (List.mem_cons_of_mem _ hd)⟩

/-! ### from the plain walk into a fence that lets all in -/
structure AsWide (F : Fence) : Prop where
  fn : ∀ f, F.fn f
  depth : F.depth = none
  calls : ∀ {n : Nat} {P : Program} {f : FuncId} {args : Array Value} {w : World} {R : Ending → World → Prop}, Calls P f args w R → CallsIn F n P f args w R
  rows : ∀ {n : Nat} {P : Program} {row : String} {args : Array Value} {w : World} {R : Value → World → Prop}, Rows P row args w R → RowsIn F n P row args w R
theorem asWide : AsWide Fence.wide := ⟨fun _ => trivial, rfl, fun h => callsIn_wide.2 h, fun h c cs _ => let ⟨v, w', r, s⟩ := h c cs; ⟨v, w', r, stepsIn_wide.2 s⟩⟩
theorem asRound (l : Nat) : AsWide (Fence.wide.inRound l) := ⟨fun _ => trivial, rfl, fun h => CallsIn.inRound l (callsIn_wide.2 h), fun h => (asWide.rows h : RowsIn Fence.wide _ _ _ _ _ _)⟩

theorem oper_in {F : Fence} {n : Nat} (hF : AsWide F) {o : Oper} (hd : ∀ c, o.op ≠ .defer c) {a : Act} {w : World} {K K' : Act → World → Prop} {Q Q' : Exit → Act → World → Prop} (hQ : ¬ LetsOut Q)
    (hK : ∀ a w, K a w → K' a w) (hP : ∀ c a w, Q (.panic c) a w → Q' (.panic c) a w) (h : o.wp P a w K Q) : o.wpIn F n P a w K' Q' := by
  refine ⟨fun f _ => hF.fn f, ?_⟩
  rw [Oper.semAt_plain F _ _ hd]
  unfold Oper.wp at h
  generalize (execOp a.eval o).run P w = r at h ⊢
  cases r with
  | ok nx w' =>
    cases nx with
    | value v => exact hK _ _ h
    | skip => exact hK _ _ h
    | defer d => exact hK _ _ h
    | enter f args =>
      refine ⟨fun h' => (by rw [hF.depth] at h'; cases h'), hF.calls (Calls.mono h fun e w' q => ?_)⟩
      cases e with
      | returned v => exact hK _ _ q
      | panicked ch => exact hP _ _ _ q
      | outgrown => exact (hQ q).elim
    | row row args => exact ⟨fun h' => (by rw [hF.depth] at h'; cases h'), hF.rows (Rows.mono h fun v w' q => hK _ _ q)⟩
    | _ => exact h.elim
  | halt why w' =>
    cases why with
    | panic v => exact hP _ _ _ h
    | _ => exact h.elim
theorem ops_in {F : Fence} {n : Nat} (hF : AsWide F) {ops : Array Oper} (hd : ∀ (i : Nat) o, ops[i]? = some o → ∀ c, o.op ≠ .defer c) {Q Q' : Exit → Act → World → Prop} (hQ : ¬ LetsOut Q)
    (hP : ∀ c a w, Q (.panic c) a w → Q' (.panic c) a w) (rest : List Nat) (hn : ∀ a w, Q .normal a w → wpOpsIn F n P ops Q' rest a w) : ∀ (l : List Nat) (a : Act) (w : World), wpOps P ops Q l a w → wpOpsIn F n P ops Q' (l ++ rest) a w
  | [], a, w, h => hn a w h
  | i :: l, a, w, h => by
    have ih := ops_in hF hd hQ hP rest hn l
    simp only [wpOps] at h
    simp only [List.cons_append, wpOpsIn]
    cases ho : ops[i]? with
    | none => simp only [ho] at h; exact ih a w h
    | some o =>
      simp only [ho] at h
      simp only
      by_cases hw : Region.wanted o (yielded ops a.tmps) = true
      · rw [if_pos hw] at h ⊢
        rcases h with h | ⟨_, h⟩
        · exact oper_in hF (hd i o ho) hQ (fun a w hk => ih a w hk) hP h
        · exact (hQ h).elim
      · rw [if_neg hw] at h ⊢
        exact ⟨fun f _ => hF.fn f, ih _ _ h⟩
def noDefer (ops : Array Oper) : Bool := ops.toList.all fun o => match o.op with | .defer _ => false | _ => true
theorem noDefer_ok {ops : Array Oper} (h : noDefer ops = true) : ∀ (i : Nat) o, ops[i]? = some o → ∀ c, o.op ≠ .defer c := fun i o ho c e => by
  have hm : o ∈ ops.toList := by rw [Array.mem_toList_iff]; exact Array.mem_of_getElem? ho
  have := List.all_eq_true.1 h o hm
  rw [e] at this; cases this
/-- A region, cut ahead of a call of yield. -/
theorem wpc_region_cut {id : Nat} {ops : Array Oper} (l1 l2 : List Nat) (hl : List.range ops.size = l1 ++ l2) (hd : noDefer ops = true) (hQ : ¬ LetsOut Q)
    (h : WpR Γ ops l1 s (Exit.then (fun a w => wpOpsIn Fence.wide 0 Γ.P ops Q l2 a w) Q)) : WpC Γ (.region id ops false) s Q := fun a w hS =>
  wpIn_wide.1 (wpIn_region (by rw [hl]; exact ops_in asWide (noDefer_ok hd) (Q := Exit.then (fun a w => wpOpsIn Fence.wide 0 Γ.P ops Q l2 a w) Q) (Q' := Q) hQ (fun c a w h => h) l2 (fun a w h => h) l1 a w (h a w hS)))
/-- A region within a round. -/
theorem rnd_region {l id : Nat} {ops : Array Oper} (l1 : List Nat) (hl : List.range ops.size = l1) (hd : noDefer ops = true) (hQ : ¬ LetsOut Q)
    (h : WpR Γ ops l1 s Q) {a : Act} {w : World} (hS : Sat Γ s a w) : (Code.region id ops false).wpIn (Fence.wide.inRound l) 0 Γ.P Q a w :=
  wpIn_region (by rw [hl, ← List.append_nil l1]; exact ops_in (asRound l) (noDefer_ok hd) hQ (fun c a w h => h) [] (fun a w h => h) l1 a w (h a w hS))

/-! ### yield -/
def YDoes (P : Program) (l : Nat) (args : List Value) (pre : Hp) (R : Value → Hp → Prop) : Prop :=
  ∀ w, HS pre w → ∃ fn tmps assign body, (Instr.yield l args.toArray).run P w = .ok (.round l fn tmps assign body) w ∧ RoundIn Fence.wide 0 P l fn tmps assign body w (Post w pre R)
theorem yield_sound {ops : Array Oper} {i : Nat} {l : Nat} {args : List Value} {dst : Option Nat} {l2 : List Nat} (hc : callvOf ops Γ.nt i s.fr = some (.func (.yield l) #[] #[], args, dst)) (hd : noDefer ops = true) (hQ : ¬ LetsOut Q)
    {pre rest : Hp} {R : Value → Hp → Prop} (hf : YDoes Γ.P l args pre R) (g : Give s.hp pre rest)
    (h : ∀ v hp', R v hp' → WpR Γ ops l2 ⟨putFr s.fr dst v, hp' ++ rest⟩ Q) {a : Act} {w : World} (hS : Sat Γ s a w) : wpOpsIn Fence.wide 0 Γ.P ops Q (i :: l2) a w := by
  unfold callvOf opAt at hc
  simp only [wpOpsIn]
  cases hoi : ops[i]? with
  | none => rw [hoi] at hc; cases hc
  | some o =>
    rw [hoi] at hc
    simp only at hc ⊢
    split at hc
    case h_2 => cases hc
    case h_1 o' ho' =>
      split at ho'
      case h_2 => cases ho'
      case h_1 hdd hw hk =>
        simp only [Option.some.injEq] at ho'
        subst ho'
        split at hc
        case h_2 => cases hc
        case h_1 c hop =>
          split at hc
          case h_2 => cases hc
          case h_1 fo hcal =>
            simp only [Option.some.injEq, Prod.mk.injEq] at hc
            obtain ⟨hfo, hargs, rfl⟩ := hc
            rw [wants_ok hS.fr hw]
            simp only [if_true]
            refine ⟨fun f _ => trivial, ?_⟩
            obtain ⟨fn, tmps, assign, body, hy, hR⟩ := hf w (g.sat w hS.hs).1
            have hrun : (execOp (ev s.fr) o).run Γ.P w = .ok (.round l fn tmps assign body) w := by
              have hl : (#[] ++ (c.args.map (ev s.fr)) ++ #[] : Array Value) = args.toArray := by
                apply Array.ext'; rw [← hargs]; simp
              have hl2 : (c.args.map (ev s.fr)) = args.toArray := by simpa using hl
              unfold execOp
              rw [hop]
              simp [resolve, hcal, hfo, Deferred.ofValue, invoke, hl2, hy]
            rw [show Fence.wide.round = none from rfl, Oper.semAt_none, ev_eq hS.fr hk, hrun]
            refine ⟨fun h' => (by cases h'), hR.mono ?_⟩
            rintro e w' ⟨v, hp', hR, rfl, h1, h2, h3, h4⟩
            obtain ⟨k1, k2, k3⟩ := hS.behind g h1 h2 h3 h4
            have := ops_in (P := Γ.P) (n := 0) asWide (noDefer_ok hd) hQ (fun c a w h => h) [] (fun a w h => h) l2 _ _ (h v hp' hR _ _ ⟨(size_put _ _).trans hS.size, (defers_put _ _).trans hS.defers, FrOk.putFr hS.fr hS.size hdd v, k1, k2, k3⟩)
            rw [List.append_nil] at this
            exact this

/-! ### the statement -/
def rec0 (st : LoopState) (fn : FuncId) (tmps : Array Value) (ps : Array Tmp) (assign body : Code) (D : Nat) : Loop := { state := st, pending := none, fn, tmps, params := ps, assign, body, defers := D }
theorem wpc_range {g : Operand} {ps : Array Tmp} {assign body : Code} {f : Nat} {lb : Array Value} (t : Nat) (hgt : g = .tmp t) (hg : look s.fr t = some (.func (.func f) #[] lb)) (he : enters Γ.P f = true) (hds : Γ.ds = [])
    (hf : ∀ a : Act, a.tmps.size = Γ.nt → (∀ i v, look s.fr i = some v → a.tmps.getD i undef = v) → ∀ fn l D, ∃ R, Does Γ.P f (.func (.yield l) #[] #[] :: lb.toList) (ob l (.loop (rec0 .ready fn a.tmps ps assign body D)) :: ob D (.deferred (some [])) :: s.hp) R ∧
      ∀ v hp', R v hp' → ∃ hp'', hp' = ob l (.loop (rec0 .ready fn a.tmps ps assign body D)) :: ob D (.deferred (some [])) :: hp'' ∧
        Nx { Γ with ds := [{ target := .collected D, args := #[] }] } ⟨s.fr, ob D (.deferred (some [])) :: hp''⟩ Q .normal) :
    WpC Γ (.rangeFunc g ps assign body) s Q := fun a w hS => by
  subst hgt
  have hev : a.eval (.tmp t) = .func (.func f) #[] lb := hS.fr t _ hg
  refine (wpIn_wide (n := 0)).1 (wpIn_rangeFunc fun fn _ => ?_)
  have hS1 := (hS.newOb (.deferred (some []))).newOb (.loop (rec0 .ready fn a.tmps ps assign body w.heap.size))
  have hsz : (w.alloc (.deferred (some []))).heap.size = w.heap.size + 1 := World.size_alloc ..
  rw [hsz] at hS1
  obtain ⟨R, hD, hRR⟩ := hf a hS.size hS.fr fn (w.heap.size + 1) w.heap.size
  refine ⟨w.heap.size + 1, [{ target := .collected w.heap.size, args := #[] }], (w.alloc (.deferred (some []))).alloc (.loop (rec0 .ready fn a.tmps ps assign body w.heap.size)), { target := .fn (.func f) lb, args := #[.func (.yield (w.heap.size + 1)) #[] #[]] }, (w.alloc (.deferred (some []))).alloc (.loop (rec0 .ready fn a.tmps ps assign body w.heap.size)), f,
    #[.func (.yield (w.heap.size + 1)) #[] #[]] ++ lb, (w.alloc (.deferred (some []))).alloc (.loop (rec0 .ready fn a.tmps ps assign body w.heap.size)), run_enterLoop_outer _ _ _ _ _, ?_, fun _ _ => trivial, ?_, fun h => (by cases h), ?_⟩
  · simp only [resolve, hev]
    simp [go_sem]
  · simp [invoke, run_enters he]
  · have hargs : #[.func (.yield (w.heap.size + 1)) #[] #[]] ++ lb = (Value.func (.yield (w.heap.size + 1)) #[] #[] :: lb.toList).toArray := by apply Array.ext'; simp
    rw [hargs]
    refine callsIn_wide.2 ((hD _ hS1.hs).mono ?_)
    rintro e w3 ⟨v, hp', hR, rfl, h1, h2, h3, h4⟩
    obtain ⟨hp'', rfl, hN⟩ := hRR v hp' hR
    obtain ⟨k1, k2, k3⟩ := hS1.behind (Give.of_perm (by rw [List.append_nil])) h1 h2 h3 h4
    rw [List.append_nil] at k1 k3
    have hS3 : Sat Γ ⟨s.fr, ob (w.heap.size + 1) (.loop (rec0 .ready fn a.tmps ps assign body w.heap.size)) :: ob w.heap.size (.deferred (some [])) :: hp''⟩ a w3 := ⟨hS.size, hS.defers, hS.fr, k1, k2, k3⟩
    have hS4 := (hS3.setOb (.loop { rec0 .ready fn a.tmps ps assign body w.heap.size with state := .exhausted })).drop1
    exact ⟨none, _, run_endLoop (ob_holds k1 (List.mem_cons_self ..)) (by simp [rec0]), hN _ _ ⟨hS4.size, by show _ ++ a.defers = _; rw [hS.defers, hds]; rfl, hS4.fr, hS4.hs, hS4.ext, hS4.bd⟩⟩

/-! ### a function that holds one -/
def QM (P : Program) (fn : Func) (w0 : World) (pre : Hp) (R : Value → Hp → Prop) : Exit → Act → World → Prop := fun e a w => (e = .normal ∨ e = .ret) ∧ ∃ D w', a.defers = [{ target := .collected D, args := #[] }] ∧ (Instr.takeDeferred D).run P w = .ok [] w' ∧ ∃ v, (results fn a.tmps).run P w' = .ok v w' ∧ Post w0 pre R (.returned v) w'
instance {fn : Func} {w0 : World} {pre : Hp} {R : Value → Hp → Prop} : PanicOk (QM P fn w0 pre R) := ⟨fun c a a' w _ h => by obtain ⟨h, _⟩ := h; rcases h with h | h <;> cases h⟩
theorem fn_enter_m {f : FuncId} {fn : Func} {c : Code} {args : List Value} {pre : Hp} {R : Value → Hp → Prop} (hf : P.funcs[f]? = some fn) (hb : fn.body = some c)
    (nt : Nat) (hnt : args.length + (fn.ntmps - args.length) = nt) (h : ∀ w0, HS pre w0 → WpC ⟨P, w0, foot pre, nt, []⟩ c ⟨enum 0 args, pre⟩ (QM P fn w0 pre R)) : Does P f args pre R := fun w hw => by
  refine (callsIn_wide (n := 0)).1 (callsIn_of_wp_marks (F := Fence.wide) hf hb trivial (wpIn_wide.2 (wp_mono (h w hw _ w ⟨by simp [hnt], rfl, fun i v hi => ?_, hw, Ext.refl _ _, Bd.self _ _⟩) ?_)))
  · obtain ⟨_, h1⟩ := look_enum _ _ _ _ hi
    simp only [Nat.sub_zero] at h1
    obtain ⟨hlt, h2⟩ := List.getElem?_eq_some_iff.1 h1
    simp [Array.getD_eq_getD_getElem?, Array.getElem?_append, hlt, h2]
  · rintro e a w' ⟨he, D, w2, hd, ht, v, hr, hp⟩
    rcases he with rfl | rfl
    · show LeavesInM _ _ _ _ _ _ a.defers _ _
      rw [hd]; exact ⟨by simp, .inl ⟨D, w2, rfl, ht, v, hr, hp⟩⟩
    · show LeavesInM _ _ _ _ _ _ a.defers _ _
      rw [hd]; exact ⟨by simp, .inl ⟨D, w2, rfl, ht, v, hr, hp⟩⟩
theorem nx_end_m {w0 : World} {pre : Hp} {nt D : Nat} {fn : Func} {R : Value → Hp → Prop} {fr : Fr} {hp' : Hp} (v : Value)
    (h1 : resOf P fn fr [] [] = some (v, [], [], [])) (hrw : ∀ c ∈ hp', c.rw) (hR : R v hp') {e : Exit} (he : e = .normal ∨ e = .ret) :
    Nx ⟨P, w0, foot pre, nt, [{ target := .collected D, args := #[] }]⟩ ⟨fr, ob D (.deferred (some [])) :: hp'⟩ (QM P fn w0 pre R) e := fun a w hS => by
  have hD := ob_holds hS.hs (List.mem_cons_self ..)
  have hS2 := (hS.setOb (.deferred none)).drop1
  have hS3 : Sat ⟨P, w0, foot pre, nt, [{ target := .collected D, args := #[] }]⟩ ⟨fr, []⟩ a (w.putObj D (.deferred none)) := ⟨hS2.size, hS2.defers, hS2.fr, ⟨fun c hc => (by cases hc), List.Pairwise.nil⟩, hS2.ext, fun c hc => (by cases hc)⟩
  exact ⟨he, D, _, hS.defers, run_takeDeferred hD, v, resOf_sound (Γ := ⟨P, w0, foot pre, nt, [{ target := .collected D, args := #[] }]⟩) (s := ⟨fr, []⟩) h1 rfl hS3, v, hp', hR, rfl, hS2.hs, hS2.ext, hS2.bd, hrw⟩
end Go.Sx
