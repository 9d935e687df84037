import Derived.RangeFuncNested
import Derived.OwnWalkIn
import Derived.Laws.StructEq
import Derived.Defers
import Derived.Lib.OthersKept
import Derived.Laws.RangeAny
import Derived.LaidEqlPtr
import Derived.Lib.Bytealg
import Derived.Shelf.Strconv.Itoa0
import Derived.Shelf.Strconv.Itoa1
import Derived.Shelf.LaysM
import Derived.Shelf.Strconv.Itoa2
import Derived.Shelf.Strconv.Itoa3
import Derived.Test.YtgcfomhlgipllaaGreatDoorCg1
set_option linter.unusedVariables false
set_option linter.unusedSimpArgs false
namespace Go.Sx
open Go
variable {P : Program} {Γ : Cx} {Q : Exit → Act → World → Prop} {s : St}
/-! ### blocks that are no cells -/
def objQ (g : Nat) (o : Obj) : Oq where
  own := fun k => k = g
  rw := True
  holds := fun w => w.heap[g]? = some o
  loc := fun w w' hk h => (hk g rfl).trans h
  lt := fun w k h hk => by subst hk; exact lt_of_get h
def ob (g : Nat) (o : Obj) : Ch := .op (objQ g o)
theorem ob_holds {g : Nat} {o : Obj} {hp : Hp} {w : World} (h : HS hp w) (hm : ob g o ∈ hp) : w.heap[g]? = some o := h.holds _ hm
theorem alloc_old {w : World} {o : Obj} {k : Nat} (hk : k < w.heap.size) : (w.alloc o).heap[k]? = w.heap[k]? := by
  show (w.heap.push o)[k]? = _; rw [Array.getElem?_push, if_neg (by omega)]
theorem Sat.newOb {fr : Fr} {hp : Hp} {a : Act} {w : World} (h : Sat Γ ⟨fr, hp⟩ a w) (o : Obj) : Sat Γ ⟨fr, ob w.heap.size o :: hp⟩ a (w.alloc o) := by
  have hsz : (w.alloc o).heap.size = w.heap.size + 1 := World.size_alloc ..
  refine ⟨h.size, h.defers, h.fr, ⟨fun c hc => ?_, List.pairwise_cons.2 ⟨fun d hd => .inr fun k hk hdk => ?_, h.hs.apart⟩⟩, ⟨h.ext.os, h.ext.tape, h.ext.output, by have := h.ext.size; omega, fun k hk hF => ?_⟩, fun c hc hr k hk => ?_⟩
  · rcases List.mem_cons.1 hc with rfl | hc
    · exact World.alloc_heap_new w o
    · exact c.loc (fun k hk => alloc_old (c.lt (h.hs.holds c hc) hk)) (h.hs.holds c hc)
  · have hk : k = w.heap.size := hk
    have := d.lt (h.hs.holds d hd) hdk; omega
  · have := h.ext.size
    rw [alloc_old (by omega)]; exact h.ext.block k hk hF
  · rcases List.mem_cons.1 hc with rfl | hc
    · have hk : k = w.heap.size := hk
      have := h.ext.size; exact .inr (by omega)
    · exact h.bd c hc hr k hk
theorem put_other {w : World} {g k : Nat} {o : Obj} (h : k ≠ g) : (w.putObj g o).heap[k]? = w.heap[k]? := World.putObj_heap_other h
theorem Sat.setOb {fr : Fr} {hp : Hp} {g : Nat} {o : Obj} {a : Act} {w : World} (h : Sat Γ ⟨fr, ob g o :: hp⟩ a w) (o' : Obj) : Sat Γ ⟨fr, ob g o' :: hp⟩ a (w.putObj g o') := by
  have hg := ob_holds h.hs (List.mem_cons_self ..)
  have h2 := List.pairwise_cons.1 h.hs.apart
  have hne : ∀ c ∈ hp, ∀ k, c.own k → k ≠ g := fun c hc k hk e => by
    rcases h2.1 c hc with ⟨h3, _⟩ | h3
    · exact h3 trivial
    · exact h3 k e hk
  refine ⟨h.size, h.defers, h.fr, ⟨fun c hc => ?_, List.pairwise_cons.2 ⟨fun d hd => .inr fun k hk hdk => hne d hd k hdk hk, h2.2⟩⟩, ⟨h.ext.os, h.ext.tape, h.ext.output, by rw [World.putObj_size]; exact h.ext.size, fun k hk hF => ?_⟩, fun c hc hr k hk => ?_⟩
  · rcases List.mem_cons.1 hc with rfl | hc
    · exact World.putObj_heap_same (lt_of_get hg)
    · exact c.loc (fun k hk => put_other (hne c hc k hk)) (h.hs.holds c (List.mem_cons_of_mem _ hc))
  · rw [put_other (fun e => ?_)]
    · exact h.ext.block k hk hF
    · rcases h.bd (ob g o) (by simp) trivial k e with h3 | h3
      · exact hF h3
      · omega
  · rcases List.mem_cons.1 hc with rfl | hc
    · exact h.bd (ob g o) (by simp) trivial k hk
    · exact h.bd c (List.mem_cons_of_mem _ hc) hr k hk
theorem Sat.drop1 {fr : Fr} {hp : Hp} {c : Ch} {a : Act} {w : World} (h : Sat Γ ⟨fr, c :: hp⟩ a w) : Sat Γ ⟨fr, hp⟩ a w :=
  ⟨h.size, h.defers, h.fr, ⟨fun d hd => h.hs.holds d (List.mem_cons_of_mem _ hd), (List.pairwise_cons.1 h.hs.apart).2⟩, h.ext, fun d hd => h.bd d (List.mem_cons_of_mem _ hd)⟩
/-! ### from the plain walk into a fence that lets all in -/
structure AsWide (F : Fence) : Prop where
  fn : ∀ f, F.fn f
  depth : F.depth = none
  calls : ∀ {n : Nat} {P : Program} {f : FuncId} {args : Array Value} {w : World} {R : Ending → World → Prop}, Calls P f args w R → CallsIn F n P f args w R
  rows : ∀ {n : Nat} {P : Program} {row : String} {args : Array Value} {w : World} {R : Value → World → Prop}, Rows P row args w R → RowsIn F n P row args w R
theorem asWide : AsWide Fence.wide := ⟨fun _ => trivial, rfl, fun h => callsIn_wide.2 h, fun h c cs _ => let ⟨v, w', r, s⟩ := h c cs; ⟨v, w', r, stepsIn_wide.2 s⟩⟩
theorem asRound (l : Nat) : AsWide (Fence.wide.inRound l) := ⟨fun _ => trivial, rfl, fun h => CallsIn.inRound l (callsIn_wide.2 h), fun h => (asWide.rows h : RowsIn Fence.wide _ _ _ _ _ _)⟩
theorem oper_in {F : Fence} {n : Nat} (hF : AsWide F) {o : Oper} (hd : ∀ c, o.op ≠ .defer c) {a : Act} {w : World} {K K' : Act → World → Prop} {Q Q' : Exit → Act → World → Prop} (hQ : ¬ LetsOut Q)
    (hK : ∀ a w, K a w → K' a w) (hP : ∀ c a w, Q (.panic c) a w → Q' (.panic c) a w) (h : o.wp P a w K Q) : o.wpIn F n P a w K' Q' := by
  refine ⟨fun f _ => hF.fn f, ?_⟩
  rw [Oper.semAt_plain F _ _ hd]
  unfold Oper.wp at h
  generalize (execOp a.eval o).run P w = r at h ⊢
  cases r with
  | ok nx w' =>
    cases nx with
    | value v => exact hK _ _ h
    | skip => exact hK _ _ h
    | defer d => exact hK _ _ h
    | enter f args =>
      refine ⟨fun h' => (by rw [hF.depth] at h'; cases h'), hF.calls (Calls.mono h fun e w' q => ?_)⟩
      cases e with
      | returned v => exact hK _ _ q
      | panicked ch => exact hP _ _ _ q
      | outgrown => exact (hQ q).elim
    | row row args => exact ⟨fun h' => (by rw [hF.depth] at h'; cases h'), hF.rows (Rows.mono h fun v w' q => hK _ _ q)⟩
    | _ => exact h.elim
  | halt why w' =>
    cases why with
    | panic v => exact hP _ _ _ h
    | _ => exact h.elim
theorem ops_in {F : Fence} {n : Nat} (hF : AsWide F) {ops : Array Oper} (hd : ∀ (i : Nat) o, ops[i]? = some o → ∀ c, o.op ≠ .defer c) {Q Q' : Exit → Act → World → Prop} (hQ : ¬ LetsOut Q)
    (hP : ∀ c a w, Q (.panic c) a w → Q' (.panic c) a w) (rest : List Nat) (hn : ∀ a w, Q .normal a w → wpOpsIn F n P ops Q' rest a w) : ∀ (l : List Nat) (a : Act) (w : World), wpOps P ops Q l a w → wpOpsIn F n P ops Q' (l ++ rest) a w
  | [], a, w, h => hn a w h
  | i :: l, a, w, h => by
    have ih := ops_in hF hd hQ hP rest hn l
    simp only [wpOps] at h
    simp only [List.cons_append, wpOpsIn]
    cases ho : ops[i]? with
    | none => simp only [ho] at h; exact ih a w h
    | some o =>
      simp only [ho] at h
      simp only
      by_cases hw : Region.wanted o (yielded ops a.tmps) = true
      · rw [if_pos hw] at h ⊢
        rcases h with h | ⟨_, h⟩
        · exact oper_in hF (hd i o ho) hQ (fun a w hk => ih a w hk) hP h
        · exact (hQ h).elim
      · rw [if_neg hw] at h ⊢
        exact ⟨fun f _ => hF.fn f, ih _ _ h⟩
def noDefer (ops : Array Oper) : Bool := ops.toList.all fun o => match o.op with | .defer _ => false | _ => true
theorem noDefer_ok {ops : Array Oper} (h : noDefer ops = true) : ∀ (i : Nat) o, ops[i]? = some o → ∀ c, o.op ≠ .defer c := fun i o ho c e => by
  have hm : o ∈ ops.toList := by rw [Array.mem_toList_iff]; exact Array.mem_of_getElem? ho
  have := List.all_eq_true.1 h o hm
  rw [e] at this; cases this
theorem wpc_region_cut {id : Nat} {ops : Array Oper} (l1 l2 : List Nat) (hl : List.range ops.size = l1 ++ l2) (hd : noDefer ops = true) (hQ : ¬ LetsOut Q)
    (h : WpR Γ ops l1 s (Exit.then (fun a w => wpOpsIn Fence.wide 0 Γ.P ops Q l2 a w) Q)) : WpC Γ (.region id ops false) s Q := fun a w hS =>
  wpIn_wide.1 (wpIn_region (by rw [hl]; exact ops_in asWide (noDefer_ok hd) (Q := Exit.then (fun a w => wpOpsIn Fence.wide 0 Γ.P ops Q l2 a w) Q) (Q' := Q) hQ (fun c a w h => h) l2 (fun a w h => h) l1 a w (h a w hS)))
theorem rnd_region {l id : Nat} {ops : Array Oper} (l1 : List Nat) (hl : List.range ops.size = l1) (hd : noDefer ops = true) (hQ : ¬ LetsOut Q)
    (h : WpR Γ ops l1 s Q) {a : Act} {w : World} (hS : Sat Γ s a w) : (Code.region id ops false).wpIn (Fence.wide.inRound l) 0 Γ.P Q a w :=
  wpIn_region (by rw [hl, ← List.append_nil l1]; exact ops_in (asRound l) (noDefer_ok hd) hQ (fun c a w h => h) [] (fun a w h => h) l1 a w (h a w hS))
/-! ### yield -/
def YDoes (P : Program) (l : Nat) (args : List Value) (pre : Hp) (R : Value → Hp → Prop) : Prop :=
  ∀ w, HS pre w → ∃ fn tmps assign body, (Instr.yield l args.toArray).run P w = .ok (.round l fn tmps assign body) w ∧ RoundIn Fence.wide 0 P l fn tmps assign body w (Post w pre R)
theorem yield_sound {ops : Array Oper} {i : Nat} {l : Nat} {args : List Value} {dst : Option Nat} {l2 : List Nat} (hc : callvOf ops Γ.nt i s.fr = some (.func (.yield l) #[] #[], args, dst)) (hd : noDefer ops = true) (hQ : ¬ LetsOut Q)
    {pre rest : Hp} {R : Value → Hp → Prop} (hf : YDoes Γ.P l args pre R) (g : Give s.hp pre rest)
    (h : ∀ v hp', R v hp' → WpR Γ ops l2 ⟨putFr s.fr dst v, hp' ++ rest⟩ Q) {a : Act} {w : World} (hS : Sat Γ s a w) : wpOpsIn Fence.wide 0 Γ.P ops Q (i :: l2) a w := by
  unfold callvOf opAt at hc
  simp only [wpOpsIn]
  cases hoi : ops[i]? with
  | none => rw [hoi] at hc; cases hc
  | some o =>
    rw [hoi] at hc
    simp only at hc ⊢
    split at hc
    case h_2 => cases hc
    case h_1 o' ho' =>
      split at ho'
      case h_2 => cases ho'
      case h_1 hdd hw hk =>
        simp only [Option.some.injEq] at ho'
        subst ho'
        split at hc
        case h_2 => cases hc
        case h_1 c hop =>
          split at hc
          case h_2 => cases hc
          case h_1 fo hcal =>
            simp only [Option.some.injEq, Prod.mk.injEq] at hc
            obtain ⟨hfo, hargs, rfl⟩ := hc
            rw [wants_ok hS.fr hw]
            simp only [if_true]
            refine ⟨fun f _ => trivial, ?_⟩
            obtain ⟨fn, tmps, assign, body, hy, hR⟩ := hf w (g.sat w hS.hs).1
            have hrun : (execOp (ev s.fr) o).run Γ.P w = .ok (.round l fn tmps assign body) w := by
              have hl : (#[] ++ (c.args.map (ev s.fr)) ++ #[] : Array Value) = args.toArray := by
                apply Array.ext'; rw [← hargs]; simp
              have hl2 : (c.args.map (ev s.fr)) = args.toArray := by simpa using hl
              unfold execOp
              rw [hop]
              simp [resolve, hcal, hfo, Deferred.ofValue, invoke, hl2, hy]
            rw [show Fence.wide.round = none from rfl, Oper.semAt_none, ev_eq hS.fr hk, hrun]
            refine ⟨fun h' => (by cases h'), hR.mono ?_⟩
            rintro e w' ⟨v, hp', hR, rfl, h1, h2, h3, h4⟩
            obtain ⟨k1, k2, k3⟩ := hS.behind g h1 h2 h3 h4
            have := ops_in (P := Γ.P) (n := 0) asWide (noDefer_ok hd) hQ (fun c a w h => h) [] (fun a w h => h) l2 _ _ (h v hp' hR _ _ ⟨(size_put _ _).trans hS.size, (defers_put _ _).trans hS.defers, FrOk.putFr hS.fr hS.size hdd v, k1, k2, k3⟩)
            rw [List.append_nil] at this
            exact this
/-! ### the statement -/
def rec0 (st : LoopState) (fn : FuncId) (tmps : Array Value) (ps : Array Tmp) (assign body : Code) (D : Nat) : Loop := { state := st, pending := none, fn, tmps, params := ps, assign, body, defers := D }
/-! ### a function that holds one -/
def QM (P : Program) (fn : Func) (w0 : World) (pre : Hp) (R : Value → Hp → Prop) : Exit → Act → World → Prop := fun e a w => (e = .normal ∨ e = .ret) ∧ ∃ D w', a.defers = [{ target := .collected D, args := #[] }] ∧ (Instr.takeDeferred D).run P w = .ok [] w' ∧ ∃ v, (results fn a.tmps).run P w' = .ok v w' ∧ Post w0 pre R (.returned v) w'
instance {fn : Func} {w0 : World} {pre : Hp} {R : Value → Hp → Prop} : PanicOk (QM P fn w0 pre R) := ⟨fun c a a' w _ h => by obtain ⟨h, _⟩ := h; rcases h with h | h <;> cases h⟩
end Go.Sx
namespace Go.Sx
open Go
variable {Γ : Cx} {s : St}
theorem ent_ro {fr : Fr} {hp rest : Hp} {c' : Ch} (hh : ∀ w, HL hp w → c'.holds w) (ho : ∀ w, HL hp w → ∀ k, c'.own k → ∃ c ∈ hp, c.own k) (hr : ¬ c'.rw) : Ent Γ ⟨fr, hp ++ rest⟩ ⟨fr, c' :: rest⟩ := fun a w h => by
  obtain ⟨h1, h2, h3⟩ := h.hs.split
  have hl : HL hp w := h1.holds
  refine ⟨h.size, h.defers, h.fr, ⟨fun c hc => ?_, List.pairwise_cons.2 ⟨fun d hd => ?_, h2.apart⟩⟩, h.ext, fun c hc hcr k hk => ?_⟩
  · rcases List.mem_cons.1 hc with rfl | hc
    · exact hh w hl
    · exact h2.holds c hc
  · by_cases hdr : d.rw
    · refine .inr fun k hk hdk => ?_
      obtain ⟨c, hc, hck⟩ := ho w hl k hk
      rcases h3 c hc d hd with ⟨_, h5⟩ | h5
      · exact h5 hdr
      · exact h5 k hck hdk
    · exact .inl ⟨hr, hdr⟩
  · rcases List.mem_cons.1 hc with rfl | hc
    · exact absurd hcr hr
    · exact h.bd c (List.mem_append.2 (.inr hc)) hcr k hk
def bagQ (hp : Hp) : Oq where
  own := fun k => ∃ c ∈ hp, c.own k
  rw := False
  holds := fun w => ∀ c ∈ hp, c.holds w
  loc := fun w w' hk h c hc => c.loc (fun k hck => hk k ⟨c, hc, hck⟩) (h c hc)
  lt := fun w k h ⟨c, hc, hck⟩ => c.lt (h c hc) hck
def bag (hp : Hp) : Ch := .op (bagQ hp)
theorem view_bag {hp : Hp} : View (star hp) (bag hp) := ⟨fun w h => h.1.holds, fun w h k hk => hk, fun h => h⟩
theorem view_in {hp : Hp} {c c' : Ch} (hc : c ∈ hp) (v : View c c') : View (bag hp) c' := ⟨fun w h => v.holds w (h c hc), fun w h k hk => ⟨c, hc, v.own w (h c hc) k hk⟩, v.ro⟩
theorem ent_bag {fr : Fr} {hp rest : Hp} : Ent Γ ⟨fr, hp ++ rest⟩ ⟨fr, bag hp :: rest⟩ := ent_ro (fun w h => h) (fun w h k hk => hk) (fun h => h)
theorem view_self {hp : Hp} : View (bag hp) (bag hp) := ⟨fun w h => h, fun w h k hk => hk, fun h => h⟩
end Go.Sx
namespace Go.Sx
open Go
variable {Γ : Cx} {s : St} {Q : Exit → Act → World → Prop}
theorem ent_star_snoc {fr : Fr} {l rest : Hp} {c : Ch} (hc : c.rw) : Ent Γ ⟨fr, star l :: c :: rest⟩ ⟨fr, star (l ++ [c]) :: rest⟩ := fun a w hS => by
  have hrw : ∀ c ∈ l, c.rw := (hS.hs.holds (star l) (List.mem_cons_self ..)).2
  have h1 := ent_unstar a w hS
  have h2 : Sat Γ ⟨fr, (l ++ [c]) ++ rest⟩ a w := by rw [List.append_assoc]; exact h1
  refine ent_star (fun d hd => ?_) a w h2
  rcases List.mem_append.1 hd with hd | hd
  · exact hrw d hd
  · rw [List.mem_singleton.1 hd]; exact hc
theorem ent_star_nil {fr : Fr} {rest : Hp} : Ent Γ ⟨fr, rest⟩ ⟨fr, star [] :: rest⟩ := fun a w hS =>
  ent_star (hp := []) (fun c hc => by cases hc) a w hS
theorem ent_bag_nil {fr : Fr} {rest : Hp} : Ent Γ ⟨fr, rest⟩ ⟨fr, bag [] :: rest⟩ := ent_bag (hp := []) (rest := rest)
def eqOf (ops : Array Oper) (nt i : Nat) (fr : Fr) : Option (Bool × TypeId × Value × Value × Option Nat) :=
  match opAt ops nt i fr with
  | some o => match o.op with
    | .binOp .eql t x y _ => some (true, t, ev fr x, ev fr y, o.dst)
    | .binOp .neq t x y _ => some (false, t, ev fr x, ev fr y, o.dst)
    | _ => none
  | none => none
end Go.Sx
namespace Go.Sx
open Go
variable {Γ : Cx} {s : St} {Q : Exit → Act → World → Prop}
/-! ### deferred calls -/
def DoesD (P : Program) (f : FuncId) (args : List Value) (pre : Hp) (R : Value → Hp → Prop) : Prop :=
  ∀ (u : FrameMode) (w : World), HS pre w → CallsD P f args.toArray u w fun e u' w' => u' = u ∧ Post w pre R e w'
theorem enter_sat {P : Program} {fn : Func} {args : List Value} {pre : Hp} (nt : Nat) (hnt : args.length + (fn.ntmps - args.length) = nt) {w : World} (hw : HS pre w) :
    Sat ⟨P, w, foot pre, nt, []⟩ ⟨enum 0 args, pre⟩ { tmps := args.toArray ++ Array.replicate (fn.ntmps - args.toArray.size) undef, defers := [] } w := by
  refine ⟨by simp [hnt], rfl, fun i v hi => ?_, hw, Ext.refl _ _, Bd.self _ _⟩
  obtain ⟨_, h1⟩ := look_enum _ _ _ _ hi
  simp only [Nat.sub_zero] at h1
  obtain ⟨hlt, h2⟩ := List.getElem?_eq_some_iff.1 h1
  simp [Array.getD_eq_getD_getElem?, Array.getElem?_append, hlt, h2]
theorem fn_enter_d {P : Program} {f : FuncId} {fn : Func} {c : Code} {args : List Value} {pre : Hp} {R : Value → Hp → Prop} (hf : P.funcs[f]? = some fn) (hb : fn.body = some c)
    (nt : Nat) (hnt : args.length + (fn.ntmps - args.length) = nt) (h : ∀ w0, HS pre w0 → WpC ⟨P, w0, foot pre, nt, []⟩ c ⟨enum 0 args, pre⟩ (bodyPost P fn (Post w0 pre R))) : DoesD P f args pre R := fun u w hw =>
  callsD_of_wp hf hb (h w hw _ w (enter_sat nt hnt hw))
theorem fn_enter_def {P : Program} {f : FuncId} {fn : Func} {c : Code} {args : List Value} {pre : Hp} {R : Value → Hp → Prop} (hf : P.funcs[f]? = some fn) (hb : fn.body = some c)
    (nt : Nat) (hnt : args.length + (fn.ntmps - args.length) = nt) (h : ∀ w0, HS pre w0 → WpC ⟨P, w0, foot pre, nt, []⟩ c ⟨enum 0 args, pre⟩ (bodyPostD P fn (Post w0 pre R))) : Does P f args pre R := fun w hw =>
  calls_of_wp_defers hf hb (h w hw _ w (enter_sat nt hnt hw))
def deferOf (P : Program) (ops : Array Oper) (nt : Nat) (i : Nat) (fr : Fr) : Option (FuncId × Array Value × Array Value) :=
  match opAt ops nt i fr with
  | some o => match o.dst, sread P (execOp (ev fr) o) [] [] with
    | none, some (.defer ⟨.fn (.func f) caps, args⟩, [], [], []) => some (f, caps, args)
    | _, _ => none
  | none => none
theorem wpr_defer {ops : Array Oper} {i : Nat} {l₂ : List Nat} {f : FuncId} {caps args : Array Value} (hc : deferOf Γ.P ops Γ.nt i s.fr = some (f, caps, args))
    (h : WpR { Γ with ds := { target := .fn (.func f) caps, args := args } :: Γ.ds } ops l₂ s Q) : WpR Γ ops (i :: l₂) s Q := fun a w hS => by
  show wpOp Γ.P ops Q i (fun a w => wpOps Γ.P ops Q l₂ a w) a w
  unfold deferOf opAt at hc
  unfold wpOp
  cases hoi : ops[i]? with
  | none => rw [hoi] at hc; cases hc
  | some o =>
    rw [hoi] at hc
    simp only at hc ⊢
    split at hc
    case h_2 => cases hc
    case h_1 o' ho' =>
      split at ho'
      case h_2 => cases ho'
      case h_1 hd hw hk =>
        simp only [Option.some.injEq] at ho'
        subst ho'
        split at hc
        case h_2 => cases hc
        case h_1 f' caps' args' hdst hr =>
          simp only [Option.some.injEq, Prod.mk.injEq] at hc
          obtain ⟨rfl, rfl, rfl⟩ := hc
          rw [wants_ok hS.fr hw]
          simp only [if_true]
          refine .inl ?_
          unfold Oper.wp
          have hrun : (execOp (ev s.fr) o).run Γ.P w = .ok (.defer ⟨.fn (.func f') caps', args'⟩) w := sread_sound _ _ _ _ _ _ _ hr rfl w (fun c hc => by cases hc)
          rw [ev_eq hS.fr hk, hrun]
          rw [Oper.upon_defer, hdst]
          refine h _ w ⟨hS.size, ?_, hS.fr, hS.hs, hS.ext, hS.bd⟩
          show _ :: a.defers = _
          rw [hS.defers]
def Lv (P : Program) (w0 : World) (pre : Hp) (nt : Nat) (fn : Func) (R : Value → Hp → Prop) (ds : List Deferred) (s : St) : Prop :=
  ∀ (all : List Deferred) (a : Act) (w : World), Sat ⟨P, w0, foot pre, nt, all⟩ s a w → Leaves P fn a.tmps (Post w0 pre R) ds .returning w
theorem nx_lv {P : Program} {w0 : World} {pre : Hp} {nt : Nat} {fn : Func} {R : Value → Hp → Prop} {ds : List Deferred} {e : Exit} (he : e = .normal ∨ e = .ret) (h : Lv P w0 pre nt fn R ds s) : Nx ⟨P, w0, foot pre, nt, ds⟩ s (bodyPostD P fn (Post w0 pre R)) e := fun a w hS => by
  have h1 := h _ a w hS
  have hd : a.defers = ds := hS.defers
  rcases he with rfl | rfl
  · show Leaves P fn a.tmps _ a.defers _ w
    rw [hd]; exact h1
  · show Leaves P fn a.tmps _ a.defers _ w
    rw [hd]; exact h1
theorem lv_cons {P : Program} {w0 : World} {pre : Hp} {nt : Nat} {fn : Func} {R : Value → Hp → Prop} {ds : List Deferred} {f : FuncId} {caps args : Array Value} (he : enters P f = true)
    {pre' rest : Hp} {R' : Value → Hp → Prop} (hf : DoesD P f (args.toList ++ caps.toList) pre' R') (g : Give s.hp pre' rest) (h : ∀ v hp', R' v hp' → Lv P w0 pre nt fn R ds ⟨s.fr, hp' ++ rest⟩) :
    Lv P w0 pre nt fn R ({ target := .fn (.func f) caps, args := args } :: ds) s := fun all a w hS => by
  obtain ⟨hs1, hs2, hs3⟩ := g.sat w hS.hs
  refine leaves_cons (f := f) (args := args ++ caps) (by simp) (by simp [invoke, run_enters he]) ?_
  have el : (args.toList ++ caps.toList).toArray = args ++ caps := by apply Array.ext'; simp
  rw [← el]
  refine (hf .returning w hs1).mono ?_
  rintro e u' w' ⟨rfl, v, hp', hR, rfl, hhs, hx, hb, hr'⟩
  obtain ⟨b1, b2, b3⟩ := hS.behind g hhs hx hb hr'
  exact h v hp' hR all a w' ⟨hS.size, hS.defers, hS.fr, b1, b2, b3⟩
theorem lv_nil {P : Program} {w0 : World} {pre : Hp} {nt : Nat} {fn : Func} {R : Value → Hp → Prop} (v : Value) (hv : resOf P fn s.fr [] [] = some (v, [], [], [])) {hp' rest : Hp} (g : Give s.hp hp' rest) (hrw : AllRw hp') (hR : R v hp') :
    Lv P w0 pre nt fn R [] s := fun all a w hS => by
  have hS0 : Sat ⟨P, w0, foot pre, nt, all⟩ ⟨s.fr, []⟩ a w := ⟨hS.size, hS.defers, hS.fr, ⟨fun c hc => (by cases hc), List.Pairwise.nil⟩, hS.ext, fun c hc => by cases hc⟩
  have hres := resOf_sound (Γ := ⟨P, w0, foot pre, nt, all⟩) (s := ⟨s.fr, []⟩) hv rfl hS0
  refine ⟨v, hres, v, hp', hR, rfl, (g.sat w hS.hs).1, hS.ext, fun c hc hcr k hk => ?_, allRw_mem hrw⟩
  obtain ⟨d, hd, hdr, hdk⟩ := g.foot k ⟨c, hc, hcr, hk⟩
  exact hS.bd d hd hdr k hdk
end Go.Sx
namespace Go.Sx
open Go
variable {Γ : Cx} {s : St} {Q : Exit → Act → World → Prop}
theorem storeCells_row {P : Program} {w : World} {vs : List Value} (h1 : Sx.One vs) {T sz n cap g off q : Nat} {xs : List Value} (hr : rowH T sz (some ⟨g, off, none⟩) n cap xs w) (hq : q + vs.length ≤ xs.length) :
    (storeCells ⟨g, off + q, none⟩ vs).run P w = .ok () (w.setCells g (off + q) vs) ∧ rowH T sz (some ⟨g, off, none⟩) n cap (xs.take q ++ vs ++ xs.drop (q + vs.length)) (w.setCells g (off + q) vs) := by
  obtain ⟨k1, k2, k3, k4, k5⟩ := hr
  by_cases hvs0 : vs = []
  · subst hvs0
    have hst := run_storeCells_cells (P := P) g (off + q) [] 0 w (fun j hj => absurd hj (by simp)) (fun j hj => absurd hj (by simp)) (fun u hu => by cases hu)
    simp only [Nat.add_zero] at hst
    refine ⟨hst, ?_⟩
    have e1 : xs.take q ++ [] ++ xs.drop (q + ([] : List Value).length) = xs := by simp
    rw [e1]; exact ⟨k1, k2, k3, k4, k5⟩
  rcases k5 with ⟨h, _⟩ | ⟨g', off', cur, fz, ha, hg, hs, hx, hfz⟩
  · have hn : n = 0 := by omega
    rw [hn, Nat.zero_mul] at k1
    have : 0 < vs.length := List.length_pos_iff.2 hvs0
    omega
  · cases ha
    have hns : n * sz ≤ cap * sz := Nat.mul_le_mul_right _ k2
    have hst := run_storeCells_cells (P := P) g (off + q) vs 0 w
      (fun j hj => by simp only [World.cell?, hg]; simp [show off + q + j < cur.size by omega])
      (fun j hj => by
        have h9 := hfz (off + q + 0 + j) (by omega)
        simp only [World.frozen?, hg]
        simp only [Bool.and_eq_false_iff, decide_eq_false_iff_not]
        omega) h1
    simp only [Nat.add_zero] at hst
    have hset := setCells_heap (news := vs) hg (show off + q + vs.length ≤ cur.size by omega)
    refine ⟨hst, ?_, k2, k3, ?_, .inr ⟨g, off, _, fz, rfl, hset, ?_, ?_, ?_⟩⟩
    · simp only [List.length_append, List.length_take, List.length_drop]; omega
    · intro u hu
      rcases List.mem_append.1 hu with hu | hu
      · rcases List.mem_append.1 hu with hu | hu
        · exact k4 u (List.mem_of_mem_take hu)
        · exact h1 u hu
      · exact k4 u (List.mem_of_mem_drop hu)
    · simp only [List.size_toArray, List.length_append, List.length_take, List.length_drop, Array.length_toList]; omega
    · have e1 : (cur.toList.take (off + q)).drop off = xs.take q := by
        rw [List.drop_take, Nat.add_sub_cancel_left, ← hx, List.take_take, Nat.min_eq_left (by omega)]
      have e2 : (cur.toList.take (off + q) ++ vs ++ cur.toList.drop (off + q + vs.length)).drop off = xs.take q ++ vs ++ cur.toList.drop (off + q + vs.length) := by
        rw [List.append_assoc, List.drop_append_of_le_length (by simp; omega), e1, List.append_assoc]
      have e3 : xs.drop (q + vs.length) = (cur.toList.drop (off + q + vs.length)).take (n * sz - (q + vs.length)) := by
        rw [← hx, List.drop_take, List.drop_drop, Nat.add_assoc]
      simp only [e2, e3]
      rw [List.take_append, List.take_of_length_le (by simp; omega)]
      congr 2
      simp only [List.length_append, List.length_take]
      omega
    · intro o ho
      refine hfz o ?_
      simp only [List.size_toArray, List.length_append, List.length_take, List.length_drop, Array.length_toList] at ho
      omega
def copyOf (ops : Array Oper) (nt : Nat) (i : Nat) (fr : Fr) : Option (Value × Value × TypeId × Option Nat) :=
  match opAt ops nt i fr with
  | some o => match o.op with
    | .call c => match c.callee, c.args.toList, c.argTypes.toList with
      | .builtin .copy, [x, y], [t, _] => some (ev fr x, ev fr y, t, o.dst)
      | _, _, _ => none
    | _ => none
  | none => none
def elTy (P : Program) (t : TypeId) : Option (TypeId × Nat) :=
  match P.underlying t with
  | some (.slice e) => match P.info? e with
    | some i => some (e, i.size)
    | none => none
  | _ => none
theorem step_copy {ops : Array Oper} {i : Nat} {g off q dl dc : Nat} {x : Value} {t : TypeId} {dst : Option Nat} (hc : copyOf ops Γ.nt i s.fr = some (.slice (some ⟨g, off + q, none⟩) dl dc, x, t, dst)) {e sz : Nat} (ht : elTy Γ.P t = some (e, sz))
    (p : Nat) {T n cap : Nat} {xs : List Value} (hp : s.hp[p]? = some (row T sz (some ⟨g, off, none⟩) n cap xs)) {m : Nat} {news : List Value} (hsrc : ∀ w, HS s.hp w → srcOk w sz x m news) (hm : m ≤ dl) (hq : q + m * sz ≤ xs.length)
    {xs' : List Value} (hx : xs.take q ++ news ++ xs.drop (q + news.length) = xs') :
    Step Γ ops i s (fun s' => s' = ⟨putFr s.fr dst (.int .i64 (m : Int)), s.hp.set p (row T sz (some ⟨g, off, none⟩) n cap xs')⟩) := by
  subst hx
  unfold copyOf at hc
  split at hc
  case h_2 => cases hc
  case h_1 o ho =>
    split at hc
    case h_2 => cases hc
    case h_1 cl hop =>
      split at hc
      case h_2 => cases hc
      case h_1 a b t' t2 hcal hargs hts =>
        simp only [Option.some.injEq, Prod.mk.injEq] at hc
        obtain ⟨ha, hb, rfl, rfl⟩ := hc
        have e1 : cl.args = #[a, b] := by apply Array.ext'; simpa using hargs
        have e2 : cl.argTypes = #[t', t2] := by apply Array.ext'; simpa using hts
        unfold elTy at ht
        split at ht
        case h_2 => cases ht
        case h_1 e' hu =>
          split at ht
          case h_2 => cases ht
          case h_1 inf hi =>
            simp only [Option.some.injEq, Prod.mk.injEq] at ht
            obtain ⟨rfl, rfl⟩ := ht
            intro Q b' w' hS K hK
            refine step_sem ho (fun v hp' => v = .int .i64 (m : Int) ∧ hp' = s.hp.set p (row T inf.size (some ⟨g, off, none⟩) n cap (xs.take q ++ news ++ xs.drop (q + news.length)))) (fun w hw => ?_) Q b' w' hS K (fun s' ⟨v, hp', ⟨h1, h2⟩, h3⟩ => hK s' (by rw [h3, h1, h2]))
            have hs := hsrc w hw
            have hnl := src_len hs
            have hrow := hw.holds _ (List.mem_of_getElem? hp)
            obtain ⟨h2, h3⟩ := storeCells_row (P := Γ.P) (vs := news) (q := q) hs.1 hrow (by omega)
            obtain ⟨z1, z2, z3, z4⟩ := setCells_size (g := g) (news := news) (k := off + q) (w := w)
            have hrest : ∀ k, ¬ (0 < cap ∧ rowOwn (some ⟨g, off, none⟩) k) → k < w.heap.size → (w.setCells g (off + q) news).heap[k]? = w.heap[k]? := fun k hk _ => by
              by_cases hvs0 : news = []
              · subst hvs0; rfl
              · refine setCells_other (fun e => hk ⟨?_, _, rfl, e.symm⟩)
                obtain ⟨r1, r2, _⟩ := hrow
                have hl : 0 < news.length := List.length_pos_iff.2 hvs0
                rcases Nat.eq_zero_or_pos cap with hc | hc
                · have hn : n = 0 := by omega
                  rw [hn, Nat.zero_mul] at r1; omega
                · exact hc
            refine ⟨.value (.int .i64 (m : Int)), _, _, _, ?_, .inl rfl, ⟨rfl, rfl⟩, hw.put (c' := row T inf.size (some ⟨g, off, none⟩) n cap (xs.take q ++ news ++ xs.drop (q + news.length))) hp trivial (fun k h => .inl h) h3 hrest, ?_, Bd.put (c' := row T inf.size (some ⟨g, off, none⟩) n cap (xs.take q ++ news ++ xs.drop (q + news.length))) hp trivial (fun k h => .inl h)⟩
            · have hlen := src_lenOf (P := Γ.P) hs w
              have hfirst := src_first (P := Γ.P) (w' := w) hs (fun _ => rfl)
              have hmin : Nat.min m dl = m := Nat.min_eq_left hm
              simp only [execOp, hop, resolve, hcal, e1, e2, invoke, builtin, Sem.run_bind, Sem.run_pure, Result.andThen_ok, List.map_toArray, List.map_cons, List.map_nil, ha, hb]
              simp [Builtin.copy_, run_underlying hu, hlen, hmin, sizeOf, typeInfo, hi, hfirst, h2, goInt]
            · exact ⟨z2, z3, z4, by rw [z1]; exact Nat.le_refl _, fun k hk hf => hrest k (fun ho => hf ⟨_, List.mem_of_getElem? hp, trivial, ho⟩) hk⟩
def makeOf (ops : Array Oper) (nt : Nat) (i : Nat) (fr : Fr) : Option (TypeId × Value × Value × Option Nat) :=
  match opAt ops nt i fr with
  | some o => match o.op with
    | .makeSlice t l c => some (t, ev fr l, ev fr c, o.dst)
    | _ => none
  | none => none
def mrowTy (P : Program) (t : TypeId) : Option (TypeId × Nat × Nat) :=
  match P.underlying t with
  | some (.slice e) => match P.info? e with
    | some i => match i.zero with
      | some z => match z.cells.size == i.size, (0).blt i.size, z.cells.toList.all (fun v => v.oneCell') with | true, true, true => some (e, i.size, i.bytes) | _, _, _ => none
      | none => none
    | none => none
  | _ => none
theorem step_make {ops : Array Oper} {i : Nat} {m : Nat} {t : TypeId} {dst : Option Nat} (hc : makeOf ops Γ.nt i s.fr = some (t, .int .i64 (m : Int), .int .i64 (m : Int), dst)) {e sz bytes : Nat} (ht : mrowTy Γ.P t = some (e, sz, bytes))
    (h63 : m ≤ 1099511627776) (hb : bytes * m ≤ 140737488355328) :
    Step Γ ops i s (fun s' => ∃ g zs, zs.length = m * sz ∧ s' = ⟨putFr s.fr dst (.slice (some ⟨g, 0, none⟩) m m), s.hp ++ [row e sz (some ⟨g, 0, none⟩) m m zs]⟩) := by
  unfold makeOf at hc
  split at hc
  case h_2 => cases hc
  case h_1 o ho =>
    split at hc
    case h_2 => cases hc
    case h_1 t' l c hop =>
      simp only [Option.some.injEq, Prod.mk.injEq] at hc
      obtain ⟨rfl, hl, hcc, rfl⟩ := hc
      unfold mrowTy at ht
      split at ht
      case h_2 => cases ht
      case h_1 e' hu =>
        split at ht
        case h_2 => cases ht
        case h_1 inf hi =>
          split at ht
          case h_2 => cases ht
          case h_1 z hz =>
            split at ht
            case h_2 => cases ht
            case h_1 hzs hsz hz1 =>
              simp only [Option.some.injEq, Prod.mk.injEq] at ht
              obtain ⟨rfl, rfl, rfl⟩ := ht
              have hzs : z.cells.size = inf.size := by simpa using hzs
              have hsz : 0 < inf.size := Nat.le_of_ble_eq_true hsz
              intro Q bb ww hS K hK
              refine step_sem ho (fun v hp' => ∃ g zs, zs.length = m * inf.size ∧ v = .slice (some ⟨g, 0, none⟩) m m ∧ hp' = s.hp ++ [row e' inf.size (some ⟨g, 0, none⟩) m m zs]) (fun w hw => ?_) Q bb ww hS K ?_
              · have hb' : (inf.bytes : Int) * (m : Int) ≤ 281474976710656 := by
                  have h : ((inf.bytes * m : Nat) : Int) ≤ 281474976710656 := by omega
                  rwa [Int.natCast_mul] at h
                have hrun := run_make (P := Γ.P) w t' e' inf z hu hi hz .i64 .i64 m m (by omega) (Int.le_refl _) hb' (by omega)
                simp only [Int.toNat_natCast] at hrun
                have hlen : (madeCells z.cells (m * inf.size)).toList.length = m * inf.size := by simp [madeCells]
                have hone : Sx.One (madeCells z.cells (m * inf.size)).toList := by
                  intro u hu'
                  simp only [madeCells, Array.toList_map, List.mem_map, Array.toList_range, List.mem_range] at hu'
                  obtain ⟨j, hj, rfl⟩ := hu'
                  have hlt := Nat.mod_lt j (show 0 < z.cells.size by omega)
                  rw [getElem!_pos z.cells (j % z.cells.size) hlt]
                  exact List.all_eq_true.1 hz1 _ (by simp)
                have hold : ∀ k, k < w.heap.size → (w.alloc (.cells (madeCells z.cells (m * inf.size)) e')).heap[k]? = w.heap[k]? := fun k hk => by
                  show (w.heap.push _)[k]? = _; rw [Array.getElem?_push, if_neg (by omega)]
                refine ⟨_, _, s.hp ++ [row e' inf.size (some ⟨w.heap.size, 0, none⟩) m m (madeCells z.cells (m * inf.size)).toList], w.alloc (.cells (madeCells z.cells (m * inf.size)) e'), ?_, .inl rfl, ⟨w.heap.size, _, hlen, rfl, rfl⟩, ?_, ?_, ?_⟩
                · simp only [execOp, hop, hl, hcc, hrun, Sem.run_bind, Sem.run_pure, Result.andThen_ok]
                · refine hw.append hold ⟨hlen, Nat.le_refl _, by unfold maxLen; omega, hone, .inr ⟨w.heap.size, 0, madeCells z.cells (m * inf.size), (0, 0), rfl, Array.getElem?_push_size, ?_, ?_, fun o ho' h => by omega⟩⟩ (fun k ⟨_, ad, h1, h2⟩ => by cases h1; exact Nat.le_of_eq h2)
                  · rw [size_madeCells]; omega
                  · rw [List.drop_zero, List.take_of_length_le (by rw [hlen]; omega)]
                · exact ⟨rfl, rfl, rfl, by show w.heap.size ≤ (w.heap.push _).size; simp, fun k hk _ => hold k hk⟩
                · intro c hcm hcr k hk
                  rcases List.mem_append.1 hcm with hcm | hcm
                  · exact .inl ⟨c, hcm, hcr, hk⟩
                  · rw [List.mem_singleton.1 hcm] at hk
                    obtain ⟨_, ad, h1, h2⟩ := hk
                    cases h1; exact .inr (Nat.le_of_eq h2)
              · rintro s' ⟨v, hp', ⟨g, zs, h0, h1, h2⟩, h3⟩
                exact hK s' ⟨g, zs, h0, by rw [h3, h1, h2]⟩
theorem wpr_make {ops : Array Oper} {i : Nat} {l₂ : List Nat} {m : Nat} {t : TypeId} {dst : Option Nat} (hc : makeOf ops Γ.nt i s.fr = some (t, .int .i64 (m : Int), .int .i64 (m : Int), dst)) {e sz bytes : Nat} (ht : mrowTy Γ.P t = some (e, sz, bytes))
    (h63 : m ≤ 1099511627776) (hb : bytes * m ≤ 140737488355328)
    (h : ∀ g zs, zs.length = m * sz → WpR Γ ops l₂ ⟨putFr s.fr dst (.slice (some ⟨g, 0, none⟩) m m), s.hp ++ [row e sz (some ⟨g, 0, none⟩) m m zs]⟩ Q) : WpR Γ ops (i :: l₂) s Q :=
  wpr_step (step_make hc ht h63 hb) fun s' ⟨g, zs, h0, h1⟩ => by rw [h1]; exact h g zs h0
end Go.Sx
namespace Go.Sx
open Go
variable {Γ : Cx} {s : St} {Q : Exit → Act → World → Prop}
def itS (g : Nat) (l : List UInt8) (pos : Nat) : Ch := ob g (.stringIter (mkS l) pos)
def rngOf (P : Program) (ops : Array Oper) (nt : Nat) (i : Nat) (fr : Fr) : Option (Value × Option Nat) :=
  match opAt ops nt i fr with
  | some o => match o.op with
    | .range t x => match P.underlying t with
      | some .string => some (ev fr x, o.dst)
      | _ => none
    | _ => none
  | none => none
theorem step_rng {ops : Array Oper} {i : Nat} {l : List UInt8} {dst : Option Nat} (hc : rngOf Γ.P ops Γ.nt i s.fr = some (.string (mkS l), dst)) :
    Step Γ ops i s (fun s' => ∃ g, s' = ⟨putFr s.fr dst (.pointer (some ⟨g, 0, none⟩)), s.hp ++ [itS g l 0]⟩) := by
  unfold rngOf at hc
  split at hc
  case h_2 => cases hc
  case h_1 o ho =>
    split at hc
    case h_2 => cases hc
    case h_1 t x hop =>
      split at hc
      case h_2 => cases hc
      case h_1 hu =>
        simp only [Option.some.injEq, Prod.mk.injEq] at hc
        obtain ⟨hx, rfl⟩ := hc
        intro Q b' w' hS K hK
        refine step_sem ho (fun v hp' => ∃ g, v = .pointer (some ⟨g, 0, none⟩) ∧ hp' = s.hp ++ [itS g l 0]) (fun w hw => ?_) Q b' w' hS K (fun s' ⟨v, hp', ⟨g, h1, h2⟩, h3⟩ => hK s' ⟨g, by rw [h3, h1, h2]⟩)
        have hold : ∀ k, k < w.heap.size → (w.alloc (.stringIter (mkS l) 0)).heap[k]? = w.heap[k]? := fun k hk => alloc_old hk
        refine ⟨_, _, s.hp ++ [itS w.heap.size l 0], w.alloc (.stringIter (mkS l) 0), ?_, .inl rfl, ⟨w.heap.size, rfl, rfl⟩, hw.append hold (World.alloc_heap_new w _) (fun k hk => Nat.le_of_eq (Eq.symm hk)), ?_, ?_⟩
        · simp only [execOp, hop, hx, Instr.range, run_underlying hu, newObj, Sem.run_bind, Sem.run_pure, Result.andThen_ok, Sem.run]
          rfl
        · exact ⟨rfl, rfl, rfl, by show w.heap.size ≤ (w.heap.push _).size; simp, fun k hk _ => hold k hk⟩
        · intro c hcm hcr k hk
          rcases List.mem_append.1 hcm with hcm | hcm
          · exact .inl ⟨c, hcm, hcr, hk⟩
          · rw [List.mem_singleton.1 hcm] at hk
            exact .inr (Nat.le_of_eq (Eq.symm hk))
def nxtOf (ops : Array Oper) (nt : Nat) (i : Nat) (fr : Fr) : Option (Value × Option Nat) :=
  match opAt ops nt i fr with
  | some o => match o.op with
    | .next x true => some (ev fr x, o.dst)
    | _ => none
  | none => none
theorem step_nxt_end {ops : Array Oper} {i g : Nat} {l : List UInt8} {pos : Nat} {dst : Option Nat} (hc : nxtOf ops Γ.nt i s.fr = some (.pointer (some ⟨g, 0, none⟩), dst)) (p : Nat) (hp : s.hp[p]? = some (itS g l pos)) (hn : l.length ≤ pos) :
    Step Γ ops i s (fun s' => s' = ⟨putFr s.fr dst (.tuple #[.bool false]), s.hp⟩) := by
  unfold nxtOf at hc
  split at hc
  case h_2 => cases hc
  case h_1 o ho =>
    split at hc
    case h_2 => cases hc
    case h_1 x hop =>
      simp only [Option.some.injEq, Prod.mk.injEq] at hc
      obtain ⟨hx, rfl⟩ := hc
      intro Q b' w' hS K hK
      refine step_sem ho (fun v hp' => v = .tuple #[.bool false] ∧ hp' = s.hp) (fun w hw => ⟨_, _, _, w, ?_, .inl rfl, ⟨rfl, rfl⟩, hw, Ext.refl _ _, Bd.self _ _⟩) Q b' w' hS K (fun s' ⟨v, hp', ⟨h1, h2⟩, h3⟩ => hK s' (by rw [h3, h1, h2]))
      have hk : w.heap[g]? = some (.stringIter (mkS l) pos) := hw.holds _ (List.mem_of_getElem? hp)
      simp only [execOp, hop, hx, Go.Lib.run_next_end_at w g (mkS l) pos _ hk (by rw [mkS_size]; omega), Sem.run_bind, Sem.run_pure, Result.andThen_ok]
theorem step_nxt {ops : Array Oper} {i g : Nat} {l : List UInt8} {pos : Nat} {dst : Option Nat} (hc : nxtOf ops Γ.nt i s.fr = some (.pointer (some ⟨g, 0, none⟩), dst)) (p : Nat) (hp : s.hp[p]? = some (itS g l pos)) (hn : pos < l.length) :
    Step Γ ops i s (fun s' => s' = ⟨putFr s.fr dst (.tuple #[.bool true, .int .i64 (pos : Int), .int .i32 (Utf8.decode (mkS l) pos).1]), s.hp.set p (itS g l (pos + (Utf8.decode (mkS l) pos).2))⟩) := by
  unfold nxtOf at hc
  split at hc
  case h_2 => cases hc
  case h_1 o ho =>
    split at hc
    case h_2 => cases hc
    case h_1 x hop =>
      simp only [Option.some.injEq, Prod.mk.injEq] at hc
      obtain ⟨hx, rfl⟩ := hc
      intro Q b' w' hS K hK
      refine step_sem ho (fun v hp' => v = .tuple #[.bool true, .int .i64 (pos : Int), .int .i32 (Utf8.decode (mkS l) pos).1] ∧ hp' = s.hp.set p (itS g l (pos + (Utf8.decode (mkS l) pos).2))) (fun w hw => ?_) Q b' w' hS K (fun s' ⟨v, hp', ⟨h1, h2⟩, h3⟩ => hK s' (by rw [h3, h1, h2]))
      have hk : w.heap[g]? = some (.stringIter (mkS l) pos) := hw.holds _ (List.mem_of_getElem? hp)
      obtain ⟨p', hp'⟩ : ∃ p', p' = pos + (Utf8.decode (mkS l) pos).2 := ⟨_, rfl⟩
      have hrest : ∀ k, ¬ (itS g l pos).own k → k < w.heap.size → (w.iterAt g (mkS l) p').heap[k]? = w.heap[k]? := fun k hk' _ => by
        show (w.heap.setIfInBounds g _)[k]? = _
        rw [Array.getElem?_setIfInBounds, if_neg (fun e => hk' e.symm)]
      refine ⟨_, _, s.hp.set p (itS g l p'), w.iterAt g (mkS l) p', ?_, .inl rfl, ⟨rfl, by rw [hp']⟩, hw.put (c' := itS g l p') hp trivial (fun k h => .inl h) (Go.Lib.iterAt_heap w g (mkS l) pos p' hk) hrest, ?_, Bd.put (c' := itS g l p') hp trivial (fun k h => .inl h)⟩
      · rw [hp']
        simp only [execOp, hop, hx, Go.Lib.run_next_any_at w g (mkS l) pos _ hk (by rw [mkS_size]; exact hn), Sem.run_bind, Sem.run_pure, Result.andThen_ok]
      · exact ⟨rfl, rfl, rfl, by show w.heap.size ≤ (w.heap.setIfInBounds g _).size; simp, fun k hk' hF => hrest k (fun ho => hF ⟨_, List.mem_of_getElem? hp, trivial, ho⟩) hk'⟩
end Go.Sx
namespace Go.Sx
open Go
variable {Γ : Cx} {s : St} {Q : Exit → Act → World → Prop}
def ptrTy (P : Program) (t : TypeId) : Bool := match P.underlying t with
  | some (.pointer te) => (P.info? te).isSome
  | _ => false
theorem step_eqp {ops : Array Oper} {i : Nat} {b : Bool} {t : TypeId} {ad : Addr} {dst : Option Nat} (hc : eqOf ops Γ.nt i s.fr = some (b, t, .pointer (some ad), .pointer (some ad), dst)) (ht : ptrTy Γ.P t = true) :
    Step Γ ops i s (fun s' => s' = ⟨putFr s.fr dst (.bool b), s.hp⟩) := by
  unfold ptrTy at ht
  split at ht
  case h_2 => cases ht
  case h_1 te hu =>
    obtain ⟨j, hj⟩ := Option.isSome_iff_exists.1 ht
    unfold eqOf at hc
    split at hc
    case h_2 => cases hc
    case h_1 o ho =>
      split at hc
      case h_3 => cases hc
      case h_1 t' x y k hop =>
        simp only [Option.some.injEq, Prod.mk.injEq] at hc
        obtain ⟨rfl, rfl, hxx, hyy, rfl⟩ := hc
        refine fun Q b' w hS K hK => step_sem ho (fun v hp' => v = .bool true ∧ hp' = s.hp) (fun w hw => ?_) Q b' w hS K
          (fun s' ⟨v, hp', ⟨h1, h2⟩, h3⟩ => hK s' (by rw [h3, h1, h2]))
        refine ⟨.value (.bool true), _, _, w, ?_, .inl rfl, ⟨rfl, rfl⟩, hw, Ext.refl _ _, Bd.self _ _⟩
        have h1 := run_eql_ptr_same (P := Γ.P) w ad hu hj
        have hg : (eqGuard .eql t' x y (.pointer (some ad)) (.pointer (some ad))).run Γ.P w = .ok () w := by simp [eqGuard]
        simp only [execOp, hop, hxx, hyy, Sem.run_bind, hg, h1, Sem.run_pure, Result.andThen_ok]
      case h_2 t' x y k hop =>
        simp only [Option.some.injEq, Prod.mk.injEq] at hc
        obtain ⟨rfl, rfl, hxx, hyy, rfl⟩ := hc
        refine fun Q b' w hS K hK => step_sem ho (fun v hp' => v = .bool false ∧ hp' = s.hp) (fun w hw => ?_) Q b' w hS K
          (fun s' ⟨v, hp', ⟨h1, h2⟩, h3⟩ => hK s' (by rw [h3, h1, h2]))
        refine ⟨.value (.bool false), _, _, w, ?_, .inl rfl, ⟨rfl, rfl⟩, hw, Ext.refl _ _, Bd.self _ _⟩
        have h1 := run_eql_ptr_same (P := Γ.P) w ad hu hj
        have hq : (Op.equal t' (.pointer (some ad)) (.pointer (some ad))).run Γ.P w = .ok true w := by
          simp only [binOp, Sem.run_bind] at h1
          cases hr : (Op.equal t' (.pointer (some ad)) (.pointer (some ad))).run Γ.P w with
          | ok r w' => rw [hr] at h1; simp only [Result.andThen_ok, Sem.run_pure] at h1; injection h1 with h2 h3; injection h2 with h2; subst h2 h3; rfl
          | _ => rw [hr] at h1; cases h1
        have hg : (eqGuard .neq t' x y (.pointer (some ad)) (.pointer (some ad))).run Γ.P w = .ok () w := by simp [eqGuard]
        simp only [execOp, hop, hxx, hyy, Sem.run_bind, hg, Sem.run_pure, Result.andThen_ok, binOp, hq]
        rfl
def usdOf (ops : Array Oper) (nt : Nat) (i : Nat) (fr : Fr) : Option (Value × Option Nat) :=
  match opAt ops nt i fr with
  | some o => match o.op with
    | .call c => match c.callee, c.args.toList, c.argTypes.toList with
      | .builtin .unsafeSliceData, [x], [_] => some (ev fr x, o.dst)
      | _, _, _ => none
    | _ => none
  | none => none
theorem step_usd {ops : Array Oper} {i : Nat} {ad : Addr} {n c : Nat} {dst : Option Nat} (hc : usdOf ops Γ.nt i s.fr = some (.slice (some ad) n c, dst)) (h0 : c ≠ 0) :
    Step Γ ops i s (fun s' => s' = ⟨putFr s.fr dst (.pointer (some ad)), s.hp⟩) := by
  unfold usdOf at hc
  split at hc
  case h_2 => cases hc
  case h_1 o ho =>
    split at hc
    case h_2 => cases hc
    case h_1 cl hop =>
      split at hc
      case h_2 => cases hc
      case h_1 a t hcal hargs hts =>
        simp only [Option.some.injEq, Prod.mk.injEq] at hc
        obtain ⟨ha, rfl⟩ := hc
        have e1 : cl.args = #[a] := by apply Array.ext'; simpa using hargs
        refine fun Q b' w hS K hK => step_sem ho (fun v hp' => v = .pointer (some ad) ∧ hp' = s.hp) (fun w hw => ?_) Q b' w hS K
          (fun s' ⟨v, hp', ⟨h1, h2⟩, h3⟩ => hK s' (by rw [h3, h1, h2]))
        refine ⟨.value (.pointer (some ad)), _, _, w, ?_, .inl rfl, ⟨rfl, rfl⟩, hw, Ext.refl _ _, Bd.self _ _⟩
        have h1 := Lib.run_unsafeSliceData_row (P := Γ.P) w cl.argTypes o.type ad n c h0
        simp only [execOp, hop, resolve, hcal, e1, invoke, builtin, Sem.run_bind, Sem.run_pure, Result.andThen_ok, List.map_toArray, List.map_cons, List.map_nil, ha]
        simp [h1]
def ustrOf (ops : Array Oper) (nt : Nat) (i : Nat) (fr : Fr) : Option (TypeId × Value × Value × Option Nat) :=
  match opAt ops nt i fr with
  | some o => match o.op with
    | .call c => match c.callee, c.args.toList, c.argTypes.toList with
      | .builtin .unsafeString, [x, y], [t, _] => some (t, ev fr x, ev fr y, o.dst)
      | _, _, _ => none
    | _ => none
  | none => none
def ustrTy (P : Program) (t T : TypeId) : Bool := match P.underlying t with
  | some (.pointer e) => e == T && P.cellsOf e == 1
  | _ => false
theorem liesAt_off {P : Program} {e : TypeId} (hc : P.cellsOf e = 1) (count off n : Nat) (hn : off + n ≤ count) : liesAt P P.depth e count off e n = true := by
  have hd : P.depth = (2 * (P.types.size + Made.depth) + 1) + 1 := rfl
  rw [hd]
  simp only [liesAt, Bool.or_eq_true]
  left
  rw [hd]
  simp [rowAt, hc, hn, sameLayout, Nat.mod_one]
theorem run_ustr {P : Program} (w : World) (pt it ty e : TypeId) (hp : P.underlying pt = some (.pointer e)) (hc : P.cellsOf e = 1) (g off cells : Nat) (hsh : w.shape? g = some (e, cells)) (l : List UInt8) (h0 : l ≠ []) (hn : off + l.length ≤ cells) (h63 : l.length ≤ 9223372036854775807)
    (hcell : ∀ j x, l[j]? = some x → w.cell? ((⟨g, off, none⟩ : Addr).add j) = some (.int .u8 x.toNat)) :
    (Builtin.unsafeString_ #[pt, it] ty #[.pointer (some ⟨g, off, none⟩), .int .i64 l.length]).run P w = .ok (.string ⟨l.toArray⟩) (w.freeze ⟨g, off, none⟩ l.length) := by
  have hl : l.length ≠ 0 := by simpa using h0
  have hlb := Lib.run_loadBytes (P := P) w l ⟨g, off, none⟩ .empty hcell
  have hlies := liesAt_off (P := P) hc (cells / P.cellsOf e) off l.length (by rw [hc]; simpa using hn)
  have h63' : ¬ (9223372036854775807 : Int) < (l.length : Int) := by omega
  have hdef : Builtin.unsafeString_ #[pt, it] ty #[.pointer (some ⟨g, off, none⟩), .int .i64 l.length] =
      (do
        let n ← asInt (.int .i64 l.length)
        if n < 0 then runtimePanic (.error "unsafe.String: len out of range")
        if n > IntKind.i64.max then unsupported (.unsafePointer "String: a length above the largest int")
        if n = 0 then pure (.string .empty)
        else if ← variablesAt ⟨g, off, none⟩ (← elemOf pt) n.toNat then do
          let s ← loadBytes ⟨g, off, none⟩ .empty n.toNat
          freeze ⟨g, off, none⟩ n.toNat
          pure (.string s)
        else unsupported (.unsafePointer "String: not so many bytes at ptr")) := rfl
  rw [hdef]
  have hmax : IntKind.i64.max = 9223372036854775807 := rfl
  have hneg : ¬ (l.length : Int) < 0 := by omega
  simp [asInt, asIntOf, hmax, h63', hneg, hl, variablesAt, hsh, elemOf, run_underlying hp, hlies, hlb]
theorem freeze_other {w : World} {g off n k : Nat} (hk : k ≠ g) : (w.freeze ⟨g, off, none⟩ n).heap[k]? = w.heap[k]? := by
  unfold World.freeze
  split
  · rfl
  · simp only [Array.getElem?_modify]
    rw [if_neg (fun e => hk e.symm)]
theorem freeze_rest {w : World} {ad : Addr} {n : Nat} : (w.freeze ad n).os = w.os ∧ (w.freeze ad n).tape = w.tape ∧ (w.freeze ad n).output = w.output ∧ (w.freeze ad n).heap.size = w.heap.size := by
  unfold World.freeze
  split
  · exact ⟨rfl, rfl, rfl, rfl⟩
  · exact ⟨rfl, rfl, rfl, by simp⟩
theorem step_ustr {ops : Array Oper} {i : Nat} {g off : Nat} {t : TypeId} {dst : Option Nat} {bs : List UInt8} (hc : ustrOf ops Γ.nt i s.fr = some (t, .pointer (some ⟨g, off, none⟩), .int .i64 (bs.length : Int), dst))
    (p : Nat) {T cap : Nat} (hp : s.hp[p]? = some (row T 1 (some ⟨g, off, none⟩) bs.length cap (u8s bs))) (ht : ustrTy Γ.P t T = true) (h0 : bs ≠ []) :
    Step Γ ops i s (fun s' => s' = ⟨putFr s.fr dst (.string (mkS bs)), s.hp.eraseIdx p⟩) := by
  unfold ustrTy at ht
  split at ht
  case h_2 => cases ht
  case h_1 e hu =>
    simp only [Bool.and_eq_true, beq_iff_eq] at ht
    obtain ⟨rfl, hco⟩ := ht
    unfold ustrOf at hc
    split at hc
    case h_2 => cases hc
    case h_1 o ho =>
      split at hc
      case h_2 => cases hc
      case h_1 cl hop =>
        split at hc
        case h_2 => cases hc
        case h_1 a b t' t2 hcal hargs hts =>
          simp only [Option.some.injEq, Prod.mk.injEq] at hc
          obtain ⟨rfl, ha, hb, rfl⟩ := hc
          have e1 : cl.args = #[a, b] := by apply Array.ext'; simpa using hargs
          have e2 : cl.argTypes = #[t', t2] := by apply Array.ext'; simpa using hts
          refine fun Q b' w hS K hK => step_sem ho (fun v hp' => v = .string (mkS bs) ∧ hp' = s.hp.eraseIdx p) (fun w hw => ?_) Q b' w hS K
            (fun s' ⟨v, hp', ⟨h1, h2⟩, h3⟩ => hK s' (by rw [h3, h1, h2]))
          obtain ⟨hpl, hpe⟩ := List.getElem?_eq_some_iff.1 hp
          have hper := perm_erase s.hp p hpl
          rw [hpe] at hper
          have hw2 := hw.perm hper
          have hrow := hw2.holds _ (List.mem_cons_self ..)
          have hap := (List.pairwise_cons.1 hw2.apart).1
          obtain ⟨k1, k2, k3, k4, k5⟩ := hrow
          rcases k5 with ⟨hz, _⟩ | ⟨g', off', cur, fz, hg', hcur, hroom, hx, hfz⟩
          · exfalso
            have : bs.length = 0 := by omega
            exact h0 (List.eq_nil_of_length_eq_zero this)
          · cases hg'
            have hcap : 0 < cap := by
              have : 0 < bs.length := List.length_pos_iff.2 h0
              omega
            have hrun := run_ustr (P := Γ.P) w t' t2 o.type e hu hco g off cur.size (by unfold World.shape?; rw [hcur]) bs h0 (by omega) (by
              have : maxLen ≤ 9223372036854775807 := by decide
              omega) (fun j x hj => by
                have hadd : (⟨g, off, none⟩ : Addr).add j = ⟨g, off + j, none⟩ := by unfold Addr.add; split <;> simp_all
                have hjl := (List.getElem?_eq_some_iff.1 hj).1
                rw [hadd]
                unfold World.cell?
                simp only [hcur]
                have h1 : ((cur.toList.drop off).take (bs.length * 1))[j]? = (u8s bs)[j]? := by rw [hx]
                rw [List.getElem?_take, if_pos (by omega), List.getElem?_drop] at h1
                have h2 : (u8s bs)[j]? = some (.int .u8 x.toNat) := by unfold u8s; rw [List.getElem?_map, hj]; rfl
                rw [h2] at h1
                simpa using h1)
            obtain ⟨f1, f2, f3, f4⟩ := freeze_rest (w := w) (ad := ⟨g, off, none⟩) (n := bs.length)
            refine ⟨.value (.string (mkS bs)), _, _, w.freeze ⟨g, off, none⟩ bs.length, ?_, .inl rfl, ⟨rfl, rfl⟩, ⟨fun c hcm => ?_, (List.pairwise_cons.1 hw2.apart).2⟩, ⟨f1, f2, f3, by rw [f4]; exact Nat.le_refl _, fun k hk hf => freeze_other fun e => hf ⟨_, List.mem_of_getElem? hp, trivial, hcap, _, rfl, e.symm⟩⟩, fun c hcm hcr k hk => .inl ⟨c, List.mem_of_mem_eraseIdx hcm, hcr, hk⟩⟩
            · simp only [execOp, hop, resolve, hcal, e1, e2, invoke, builtin, Sem.run_bind, Sem.run_pure, Result.andThen_ok, List.map_toArray, List.map_cons, List.map_nil, ha, hb]
              rw [hrun]
              rfl
            · refine c.loc (fun k hk => freeze_other fun e => ?_) (hw2.holds c (List.mem_cons_of_mem _ hcm))
              rcases hap c hcm with ⟨h5, _⟩ | h5
              · exact h5 trivial
              · exact h5 k ⟨hcap, _, rfl, e.symm⟩ hk
end Go.Sx
namespace Go.Proofs.YtgcfomhlgipllaaGreatDoor
open Go Go.Sx
/-! Values and objects, plain; their cells. -/
structure V where
  k : Int
  n : Int
  s : List UInt8
deriving DecidableEq
def valC (v : V) : List Value := [.int .i64 v.k, .int .i64 v.n, .string (mkS v.s)]
def valV (v : V) : Value := .agg #[.int .i64 v.k, .int .i64 v.n, .string (mkS v.s)]
theorem valC_len (v : V) : (valC v).length = 3 := rfl
theorem vals_len (l : List V) : (l.flatMap valC).length = l.length * 3 := fm_len valC_len l
theorem vals_at {l : List V} {q : Nat} (hq : q < l.length) : ((l.flatMap valC).drop (q * 3)).take 3 = valC l[q] := fm_at valC_len hq
structure Ob where
  tag : List UInt8
  a : Option Addr
  c : Nat
  cells : List V
def objC (o : Ob) : List Value := [.string (mkS o.tag), .slice o.a o.cells.length o.c]
theorem objC_len (o : Ob) : (objC o).length = 2 := rfl
theorem objs_len (l : List Ob) : (l.flatMap objC).length = l.length * 2 := fm_len objC_len l
theorem objs_at {l : List Ob} {q : Nat} (hq : q < l.length) : ((l.flatMap objC).drop (q * 2)).take 2 = objC l[q] := fm_at objC_len hq
def obRo (o : Ob) : Ch := ro o.a (o.cells.flatMap valC)
abbrev O := List UInt8 × List V
def Ob.o (o : Ob) : O := (o.tag, o.cells)
def gBag (l : List Ob) : Ch := bag (l.map obRo)
end Go.Proofs.YtgcfomhlgipllaaGreatDoor
namespace Go.Proofs.YtgcfomhlgipllaaGreatDoor
open Go Go.Sx
def strV (x : List UInt8) : Value := .string (mkS x)
theorem map_at {α : Type} (f : α → Value) {l : List α} {q : Nat} (hq : q < l.length) : ((l.map f).drop (q * 1)).take 1 = [f l[q]] := by
  rw [Nat.mul_one, List.drop_eq_getElem_cons (by simpa using hq)]
  simp
end Go.Proofs.YtgcfomhlgipllaaGreatDoor
namespace Go.Proofs.YtgcfomhlgipllaaGreatDoor
open Go Go.Sx
theorem bt_at {s : List UInt8} {i : Nat} (h : i < s.length) : bt (mkS s) (i : Int) = (s[i].toNat : Int) := by
  simp [bt, mkS, List.getD, h]
end Go.Proofs.YtgcfomhlgipllaaGreatDoor
namespace Go.Proofs.YtgcfomhlgipllaaGreatDoor
open Go Go.Sx
def plB (c : Int) : Bool := c == 10 || (decide (32 ≤ c) && decide (c ≤ 126))
theorem bad_spec (c : Int) : Does Tryz.prog 175 [.int .i32 c] [] (fun v hp' => v = .bool (!plB c) ∧ hp' = []) := by
  unfold plB
  rcases (by omega : (c = 10) ∨ (¬ c = 10 ∧ c < 32) ∨ (¬ c = 10 ∧ 32 ≤ c ∧ c ≤ 126) ∨ (¬ c = 10 ∧ 32 ≤ c ∧ ¬ c ≤ 126)) with h1 | ⟨h1, h2⟩ | ⟨h1, h2, h3⟩ | ⟨h1, h2, h3⟩
  · refine fn_enter Tryz.func175 rfl 13 rfl fun w0 h0 => ?_
    refine SQ (RG ?_)
    refine RR [] .z (.i 2 (.bool false) .a) .a ?_
    refine RZ (NT (SQ (RG ?_)))
    refine RR [] (.d (.d (.d .a))) (.i 5 (.bool (c != (10 : Int))) .a) .a ?_
    refine SR 5 (c != (10 : Int)) false (by simp only [bne_eq_false_iff_eq, beq_eq_false_iff_ne, ne_eq]; omega) ?_
    refine RR [] .z (.d (.d (.k .z))) .a ?_
    refine RZ (NT (RE ?_))
    refine NE [] .a .a [] (.bool false) ?_
    exact ⟨by simp [h1], rfl⟩
  · refine fn_enter Tryz.func175 rfl 13 rfl fun w0 h0 => ?_
    refine SQ (RG ?_)
    refine RR [] .z (.i 2 (.bool false) .a) .a ?_
    refine RZ (NT (SQ (RG ?_)))
    refine RR [] (.d (.d (.d .a))) (.i 5 (.bool (c != (10 : Int))) .a) .a ?_
    refine SR 5 (c != (10 : Int)) true (by simp only [bne_iff_ne, beq_iff_eq, ne_eq]; omega) ?_
    refine RR [] (.d (.d (.d .a))) (.i 8 (.bool (decide (c < (32 : Int)))) (.k (.d (.k .a)))) .a ?_
    refine SR 8 (decide (c < (32 : Int))) true (decide_eq_true (by omega)) ?_
    refine RR [] .z (.i 2 (.bool true) .z) .a ?_
    refine RZ (NT (RE ?_))
    refine NE [] .a .a [] (.bool true) ?_
    exact ⟨by rw [Value.bool.injEq, Bool.eq_iff_iff]; simp; omega, rfl⟩
  · refine fn_enter Tryz.func175 rfl 13 rfl fun w0 h0 => ?_
    refine SQ (RG ?_)
    refine RR [] .z (.i 2 (.bool false) .a) .a ?_
    refine RZ (NT (SQ (RG ?_)))
    refine RR [] (.d (.d (.d .a))) (.i 5 (.bool (c != (10 : Int))) .a) .a ?_
    refine SR 5 (c != (10 : Int)) true (by simp only [bne_iff_ne, beq_iff_eq, ne_eq]; omega) ?_
    refine RR [] (.d (.d (.d .a))) (.i 8 (.bool (decide (c < (32 : Int)))) (.k (.d (.k .a)))) .a ?_
    refine SR 8 (decide (c < (32 : Int))) false (decide_eq_false (by omega)) ?_
    refine RR [] .z (.i 2 (.bool (decide (c > (126 : Int)))) .z) .a ?_
    refine RZ (NT (RE ?_))
    refine NE [] .a .a [] (.bool (decide (c > 126))) ?_
    exact ⟨by rw [Value.bool.injEq, Bool.eq_iff_iff]; simp; omega, rfl⟩
  · refine fn_enter Tryz.func175 rfl 13 rfl fun w0 h0 => ?_
    refine SQ (RG ?_)
    refine RR [] .z (.i 2 (.bool false) .a) .a ?_
    refine RZ (NT (SQ (RG ?_)))
    refine RR [] (.d (.d (.d .a))) (.i 5 (.bool (c != (10 : Int))) .a) .a ?_
    refine SR 5 (c != (10 : Int)) true (by simp only [bne_iff_ne, beq_iff_eq, ne_eq]; omega) ?_
    refine RR [] (.d (.d (.d .a))) (.i 8 (.bool (decide (c < (32 : Int)))) (.k (.d (.k .a)))) .a ?_
    refine SR 8 (decide (c < (32 : Int))) false (decide_eq_false (by omega)) ?_
    refine RR [] .z (.i 2 (.bool (decide (c > (126 : Int)))) .z) .a ?_
    refine RZ (NT (RE ?_))
    refine NE [] .a .a [] (.bool (decide (c > 126))) ?_
    exact ⟨by rw [Value.bool.injEq, Bool.eq_iff_iff]; simp; omega, rfl⟩
def pairsL : List (List UInt8) := [[92], [92, 92], [34], [92, 34], [10], [92, 110]]
theorem NewReplacer_spec (g0 : Nat) : Does Tryz.prog 177 [.slice (some ⟨g0, 0, none⟩) 6 6] [ro (some ⟨g0, 0, none⟩) (pairsL.map strV)] (fun v hp' => ∃ g a c, v = .pointer (some ⟨g, 0, none⟩) ∧ hp' = [.blk g 286 [.int .u32 0, .int .i32 0, .int .u32 0, .nilIface, .slice a 6 c], row 9 1 a 6 c (pairsL.map strV)]) := by
  refine fn_enter Tryz.func177 rfl 12 rfl fun w0 h0 => ?_
  refine SQ (RG ?_)
  refine RR [] .z (.i 2 (.pointer none) .a) .a ?_
  refine RZ (NT (SQ (SQ (RG ?_))))
  refine RV true [] .z (.i 6 (.bool false) .a) .a [(2 : Int) ≠ (0 : Int)] ⟨by omega, trivial⟩ ?_
  refine RZ (NT (CF (SK (NT (SQ (RG ?_))))))
  refine RR [] (.d .a) (.i 8 (.slice (some ⟨g0, 0, none⟩) 6 6) (.d (.k .z))) .a ?_
  refine wpr_ent (ent_nil 9 1) ?_
  refine wpr_app (a := none) (n := 0) (cap := 0) (x := (.slice (some ⟨g0, 0, none⟩) 6 6)) (t := 22) (xt := 22) (dst := some 9) (by kernel_rfl) (e := 9) (sz := 1) (bytes := 16) (by kernel_rfl) 0 (xs := []) (by kernel_rfl) (m := 6) (news := (pairsL.map strV)) (fun w h => src_ro h 1 rfl rfl (fun e => by cases e)) (by unfold maxLen; omega) (by omega) ?_
  intro a c hac
  refine RP [] (.d (.d .a)) 11 (.d (.d (.k .a))) .a 286 [.int .u32 0, .int .i32 0, .int .u32 0, Value.nilIface, .slice a 6 c] fun g1 => ?_
  refine RR [] .z (.i 2 (.pointer (some ⟨g1, 0, none⟩)) .z) .a ?_
  refine RZ (NT (RE ?_))
  refine NE [2, 0] (.i (.blk g1 286 [.int .u32 0, .int .i32 0, .int .u32 0, Value.nilIface, .slice a 6 c]) (.k .z)) (.d (.k .z)) [] (.pointer (some ⟨g1, 0, none⟩)) ?_
  exact ⟨g1, a, c, rfl, rfl⟩
theorem bLoad_spec (g : Nat) (v o1 o2 : Int) (r o : Value) : Does Tryz.prog 211 [.pointer (some ⟨g, 0, none⟩)] [.blk g 286 [.int .u32 v, .int .i32 o1, .int .u32 o2, r, o]] (fun x hp' => x = .bool (v != 0) ∧ hp' = [.blk g 286 [.int .u32 v, .int .i32 o1, .int .u32 o2, r, o]]) := by
  refine fn_enter Tryz.func211 rfl 8 rfl fun w0 h0 => ?_
  refine SQ (RG ?_)
  refine RR [] .z (.i 2 (.bool false) .a) .a ?_
  refine RZ (NT (SQ (RG ?_)))
  refine RR [0] .z (.i 2 (.bool (v != (0 : Int))) .z) .a ?_
  refine RZ (NT (RE ?_))
  refine NE [0] .a .z [] (.bool (v != 0)) ?_
  exact ⟨rfl, rfl⟩
theorem b32_spec : Does Tryz.prog 232 [.bool true] [] (fun x hp' => x = .int .u32 1 ∧ hp' = []) := by
  refine fn_enter Tryz.func232 rfl 4 rfl fun w0 h0 => ?_
  refine SQ (RG ?_)
  refine RR [] .z (.i 2 (.int .u32 0) .a) .a ?_
  refine RZ (NT (SQ (SQ (RG ?_))))
  refine RR [] .z (.i 3 (.bool true) (.k .z)) .a ?_
  refine RZ (NT (CT (SQ (RG ?_))))
  refine RR [] .z (.i 2 (.int .u32 1) .z) .a ?_
  refine RZ (NT (RE (TR ?_)))
  refine NE [] .a .a [] (.int .u32 1) ?_
  exact ⟨rfl, rfl⟩
theorem iLock_spec (g : Nat) (v o2 : Int) (r o : Value) : Does Tryz.prog 229 [.pointer (some ⟨g, 1, none⟩)] [.blk g 286 [.int .u32 v, .int .i32 0, .int .u32 o2, r, o]] (fun x hp' => x = .tuple #[] ∧ hp' = [.blk g 286 [.int .u32 v, .int .i32 1, .int .u32 o2, r, o]]) := by
  refine fn_enter Tryz.func229 rfl 13 rfl fun w0 h0 => ?_
  refine SQ (RG ?_)
  refine RR [] .z .a .a ?_
  refine RZ (NT (SQ (SQ (RG ?_))))
  refine RR [0, 0, 0, 0] .z (.i 6 (.bool true) .a) (.u (.k (.i (.int .i32 1) (.d (.k .a)))) .a) ?_
  refine RZ (NT (CT (SQ (CT (SQ (RG ?_))))))
  refine RR [] .z (.d (.k .a)) .a ?_
  refine RZ (NT (RG ?_))
  refine RR [0, 0] .z .a .a ?_
  refine RZ (NT (RE (TR ?_)))
  refine NE [0] .a .z [] (.tuple #[]) ?_
  exact ⟨rfl, rfl⟩
theorem Lock_spec (g : Nat) (v o2 : Int) (r o : Value) : Does Tryz.prog 222 [.pointer (some ⟨g, 1, none⟩)] [.blk g 286 [.int .u32 v, .int .i32 0, .int .u32 o2, r, o]] (fun x hp' => x = .tuple #[] ∧ hp' = [.blk g 286 [.int .u32 v, .int .i32 1, .int .u32 o2, r, o]]) := by
  refine fn_enter Tryz.func222 rfl 6 rfl fun w0 h0 => ?_
  refine RG ?_
  refine RR [] (.d (.d (.d .a))) (.i 4 (.pointer (some ⟨g, 1, none⟩)) .z) .a ?_
  refine RCA (dst := some 5) (iLock_spec g v o2 r o) ?_
  rintro v _ ⟨rfl, rfl⟩
  refine RZ ?_
  refine NE [0] .a .z [] (.tuple #[]) ?_
  exact ⟨rfl, rfl⟩
theorem iUnlock_spec (g : Nat) (v o2 : Int) (r o : Value) : Does Tryz.prog 230 [.pointer (some ⟨g, 1, none⟩)] [.blk g 286 [.int .u32 v, .int .i32 1, .int .u32 o2, r, o]] (fun x hp' => x = .tuple #[] ∧ hp' = [.blk g 286 [.int .u32 v, .int .i32 0, .int .u32 o2, r, o]]) := by
  refine fn_enter Tryz.func230 rfl 21 rfl fun w0 h0 => ?_
  refine SQ (CT (SQ (RG ?_)))
  refine RR [0] .z .a .a ?_
  refine RZ (NT (SQ (RG ?_)))
  refine RR [0, 0] .z .a .a ?_
  refine RZ (NT (RG ?_))
  refine RR [] .z .a .a ?_
  refine RZ (NT (SQ (RG ?_)))
  refine RR [0, 0] .z (.i 2 (.int .i32 0) .a) (.u (.k (.i (.int .i32 0) (.d (.k .a)))) .a) ?_
  refine RZ (NT (SQ (SQ (RG ?_))))
  refine RR [] .z (.i 16 (.bool false) .a) .a ?_
  refine RZ (NT (CF (SK (NT (RG ?_)))))
  refine RR [] .z .z .a ?_
  refine RZ ?_
  refine NE [0] .a .z [] (.tuple #[]) ?_
  exact ⟨rfl, rfl⟩
end Go.Proofs.YtgcfomhlgipllaaGreatDoor
namespace Go.Proofs.YtgcfomhlgipllaaGreatDoor
open Go Go.Sx
def repC (R : Nat → Value) (t : Value) : List Value := (List.range 256).map R ++ [t]
theorem repC_len (R : Nat → Value) (t : Value) : (repC R t).length = 257 := by simp [repC]
def upd (R : Nat → Value) (q : Nat) (v : Value) : Nat → Value := fun i => if i = q then v else R i
theorem repC_at {R : Nat → Value} {t : Value} {q : Nat} (hq : q < 256) : ((repC R t).drop (q * 1)).take 1 = [R q] := by
  rw [Nat.mul_one, List.drop_eq_getElem_cons (by rw [repC_len]; omega)]
  simp [repC, List.getElem_append, hq]
theorem repC_t {R : Nat → Value} {t : Value} : ((repC R t).drop 256).take 1 = [t] := by
  unfold repC
  rw [List.drop_left' (by simp)]
  rfl
theorem set_parts {l : List Value} {q : Nat} (hq : q < l.length) (v : Value) : l.take q ++ [v] ++ l.drop (q + 1) = l.set q v := by
  rw [List.set_eq_take_append_cons_drop, if_pos hq]; simp
theorem repC_set {R : Nat → Value} {t v : Value} {q : Nat} (hq : q < 256) : (repC R t).take q ++ [v] ++ (repC R t).drop (q + 1) = repC (upd R q v) t := by
  have hl := repC_len R t
  rw [set_parts (by omega)]
  apply List.ext_getElem?
  intro i
  rw [List.getElem?_set]
  by_cases h : q = i
  · subst h
    simp [repC, upd, List.getElem?_append, hq]
    omega
  · rw [if_neg h]
    by_cases h256 : i < 256
    · simp [repC, upd, List.getElem?_append, h256, show ¬ i = q from fun e => h e.symm]
    · simp [repC, upd, List.getElem?_append, h256]
theorem repC_setT {R : Nat → Value} {t v : Value} : (repC R t).take 256 ++ [v] ++ (repC R t).drop (256 + 1) = repC R v := by
  unfold repC
  rw [List.take_left' (by simp), List.drop_eq_nil_of_le (by simp)]
  simp
def sl2 (x : Nat × Nat) : Value := .slice (some ⟨x.1, 0, none⟩) 2 x.2
def repR (k : Nat) (p : Nat → Nat × Nat) : Nat → Value := fun i => if i = 10 ∧ k ≤ 2 then sl2 (p 2) else if i = 34 ∧ k ≤ 1 then sl2 (p 1) else if i = 92 ∧ k ≤ 0 then sl2 (p 0) else .slice none 0 0
def newL : Nat → List UInt8 | 0 => [92, 92] | 1 => [92, 34] | _ => [92, 110]
def repRow (p : Nat → Nat × Nat) (j : Nat) : Ch := row 5 1 (some ⟨(p j).1, 0, none⟩) 2 (p j).2 (u8s (newL j))
def repRows (k : Nat) (p : Nat → Nat × Nat) : Hp := ([2, 1, 0].take (3 - k)).map (repRow p)
def toRep (k : Nat) : List Value := (([[10], [34], [92]] : List (List UInt8)).take (3 - k)).map strV
theorem repR3 (p : Nat → Nat × Nat) : (fun _ => Value.slice none 0 0) = repR 3 p := by
  funext i; simp [repR]
def updp (p : Nat → Nat × Nat) (j : Nat) (x : Nat × Nat) : Nat → Nat × Nat := fun i => if i = j then x else p i
theorem repR2 (p : Nat → Nat × Nat) (x : Nat × Nat) : upd (repR 3 p) 10 (sl2 x) = repR 2 (updp p 2 x) := by
  funext i; simp [repR, upd, updp]
theorem repR1 (p : Nat → Nat × Nat) (x : Nat × Nat) : upd (repR 2 p) 34 (sl2 x) = repR 1 (updp p 1 x) := by
  funext i; simp only [repR, upd, updp]; by_cases h : i = 34
  · subst h; simp
  · simp [h]
theorem repR0 (p : Nat → Nat × Nat) (x : Nat × Nat) : upd (repR 1 p) 92 (sl2 x) = repR 0 (updp p 0 x) := by
  funext i; simp only [repR, upd, updp]; by_cases h : i = 92
  · subst h; simp
  · simp [h]
structure B2 where
  k : Nat
  p : Nat → Nat × Nat
  ta : Option Addr
  tc : Nat
  hk : k ≤ 3
set_option maxRecDepth 10000 in
theorem build_spec (g : Nat) (r : Value) (a : Option Addr) (c : Nat) : Does Tryz.prog 213 [.pointer (some ⟨g, 0, none⟩)] [.blk g 286 [.int .u32 0, .int .i32 1, .int .u32 0, r, .slice a 6 c], row 9 1 a 6 c (pairsL.map strV)] (fun x hp' => ∃ g2 p ta tc, x = .iface 313 (.pointer (some ⟨g2, 0, none⟩)) ∧ hp' = [.blk g 286 [.int .u32 0, .int .i32 1, .int .u32 0, r, .slice a 6 c], row 9 1 a 6 c (pairsL.map strV), row 9 1 ta 3 tc (toRep 0), row 312 1 (some ⟨g2, 0, none⟩) 257 257 (repC (repR 0 p) (.slice ta 3 tc)), star (repRows 0 p)]) := by
  refine fn_enter Tryz.func213 rfl 132 rfl fun w0 h0 => ?_
  refine SQ (RG ?_)
  refine RR [] .z (.i 2 Value.nilIface .a) .a ?_
  refine RZ (NT (SQ (RG ?_)))
  refine RR [0] .z (.i 3 (.slice a 6 c) (.k .z)) .a ?_
  refine RZ (NT (SQ (SQ (RG ?_))))
  refine RR [] .z (.i 28 (.bool false) .a) .a ?_
  refine RZ (NT (CF (SK (NT (SQ (RG ?_))))))
  refine RR [] .z (.i 4 (.bool true) (.d (.k .a))) .a ?_
  refine RZ (NT (SQ (SQ (RG ?_))))
  refine RR [] .z (.i 5 (.int .i64 0) .a) .a ?_
  refine RZ (NT (BK ?_))
  refine wpc_fact (fun w h => row_addr h 1 rfl (by decide)) ?_
  rintro ⟨ga, oa, rfl⟩
  refine wpc_loop (X := {x : Nat × Bool // x.1 ≤ 3 ∧ (0 < x.1 → x.2 = false)}) (fun x => St.mk [(5, .int .i64 ((2 * x.1.1 : Nat) : Int)), (4, .bool x.1.2), (3, .slice (some ⟨ga, oa, none⟩) 6 c), (2, Value.nilIface)] [.blk g 286 [.int .u32 0, .int .i32 1, .int .u32 0, r, .slice (some ⟨ga, oa, none⟩) 6 c], row 9 1 (some ⟨ga, oa, none⟩) 6 c (pairsL.map strV)]) (fun x => 3 - x.1.1) ⟨(0, true), by decide, fun h => absurd h (by decide)⟩ (ent_fr (by kernel_rfl)) ?_
  rintro ⟨⟨k, b⟩, hk, hb⟩
  dsimp only at hk hb ⊢
  by_cases hlt : k < 3
  · have hi0 : 2 * k < pairsL.length := by show 2 * k < 6; omega
    have hi1 : 2 * k + 1 < pairsL.length := by show 2 * k + 1 < 6; omega
    have e0 : (pairsL[2 * k]).length = 1 := by
      rcases (by omega : k = 0 ∨ k = 1 ∨ k = 2) with rfl | rfl | rfl <;> rfl
    have e1 : (pairsL[2 * k + 1]).length = 2 := by
      rcases (by omega : k = 0 ∨ k = 1 ∨ k = 2) with rfl | rfl | rfl <;> rfl
    refine SQ (SQ (RG ?_))
    refine RR [] .z (.i 40 (.bool (decide ((↑((2 : Nat) * k) : Int) < (6 : Int)))) .a) .a ?_
    refine RZ (NT ?_)
    refine SC 40 (decide ((↑((2 : Nat) * k) : Int) < (6 : Int))) true (decide_eq_true (by omega)) ?_
    refine CT (SK (NT (SQ (BK (SQ (SQ (RG ?_)))))))
    refine RV true [] (.d (.d (.d .a))) (.i 45 (.pointer (some ⟨ga, oa + 2 * k * 1, none⟩)) (.d (.d (.k .a)))) .a [(0 : Int) ≤ (↑((2 : Nat) * k) : Int) ∧ (↑((2 : Nat) * k) : Int) < (↑(6 : Nat) : Int)] ⟨by omega, trivial⟩ ?_
    refine wpr_eq (ld (t := 9) (a := (⟨ga, oa + 2 * k * 1, none⟩)) (dst := some 46) (by kernel_rfl) false 1 (by kernel_rfl) (by simp) [.string (mkS (pairsL[2 * k]))] rfl (fun w h => ld_row h 1 rfl (2 * k * 1) (map_at strV hi0))) ?_
    refine RR [] .z (.i 48 (.bool ((↑pairsL[(2 : Nat) * k].length : Int) != (1 : Int))) (.d (.d (.k .a)))) .a ?_
    refine RZ (NT ?_)
    refine SC 48 ((↑pairsL[(2 : Nat) * k].length : Int) != (1 : Int)) false (by simp only [bne_eq_false_iff_eq, beq_eq_false_iff_ne, ne_eq]; omega) ?_
    refine CF (SK (NT (SQ (RG ?_))))
    refine RV true [] (.d (.d (.d (.d .a)))) (.i 55 (.pointer (some ⟨ga, oa + Int.toNat ((↑(2 * k) : Int) + 1) * 1, none⟩)) (.d (.d (.k .a)))) .a ([inI64 ((↑((2 : Nat) * k) : Int) + (1 : Int)), (0 : Int) ≤ (↑((2 : Nat) * k) : Int) + (1 : Int) ∧ (↑((2 : Nat) * k) : Int) + (1 : Int) < (↑(6 : Nat) : Int)]) ⟨by unfold inI64; omega, by omega, trivial⟩ ?_
    rw [show (((2 * k : Nat) : Int) + 1).toNat = 2 * k + 1 by omega]
    refine wpr_eq (ld (t := 9) (a := (⟨ga, oa + (2 * k + 1) * 1, none⟩)) (dst := some 56) (by kernel_rfl) false 1 (by kernel_rfl) (by simp) [.string (mkS (pairsL[2 * k + 1]))] rfl (fun w h => ld_row h 1 rfl ((2 * k + 1) * 1) (map_at strV hi1))) ?_
    refine RR [] .z (.i 58 (.bool ((↑pairsL[(2 : Nat) * k + (1 : Nat)].length : Int) != (1 : Int))) (.d (.d (.k .a)))) .a ?_
    refine RZ (NT ?_)
    refine SC 58 ((↑pairsL[(2 : Nat) * k + (1 : Nat)].length : Int) != (1 : Int)) true (by simp only [bne_iff_ne, beq_iff_eq, ne_eq]; omega) ?_
    refine CT (RG ?_)
    refine RR [] .z (.i 4 (.bool false) (.d (.d (.k (.d (.k .a)))))) .a ?_
    refine RZ (BN (NT (RG ?_)))
    refine RV true [] .z (.i 5 (.int .i64 ((↑(2 * k) : Int) + 2)) (.k (.d (.k .a)))) .a ([inI64 ((↑((2 : Nat) * k) : Int) + (2 : Int))]) ⟨by unfold inI64; omega, trivial⟩ ?_
    refine RZ ?_
    exact fun a' w' hS' => ⟨⟨(k + 1, false), by omega, fun _ => rfl⟩, by dsimp only; omega, ent_fr (by kernel_rfl) _ _ (ent_hp [0, 0] rfl _ _ hS')⟩
  · have h62 : Int.tdiv 6 2 = 3 := by decide
    obtain rfl : k = 3 := by omega
    obtain rfl : b = false := hb (by decide)
    refine SQ (SQ (RG ?_))
    refine RR [] .z (.i 40 (.bool false) (.i 5 (.int .i64 6) (.d (.k .a)))) .a ?_
    refine RZ (NT (CF (EX (TE (TE (BH (NT (SQ (SQ (RG ?_))))))))))
    refine RR [] .z (.i 59 (.bool false) (.d (.d (.d (.k .a))))) .a ?_
    refine RZ (NT (CF (SK (NT (SQ (RG ?_))))))
    refine wpr_new (l₂ := [4, 5, 6]) true [0, 1, 2, 3] [] (fun g1 => [(94, .slice (some ⟨g1, 0, none⟩) 0 3), (3, .slice (some ⟨ga, oa, none⟩) 6 c), (2, Value.nilIface)]) (fun g1 => [.blk g 286 [.int .u32 0, .int .i32 1, .int .u32 0, r, .slice (some ⟨ga, oa, none⟩) 6 c], row 9 1 (some ⟨ga, oa, none⟩) 6 c (List.map strV pairsL), .blk g1 9 [.string ⟨#[]⟩, .string ⟨#[]⟩, .string ⟨#[]⟩]]) (fun g1 => [(2 : Int) ≠ (0 : Int) ∧ inI64 (Int.tdiv (6 : Int) (2 : Int))]) (fun g1 => by kernel_rfl) (fun g1 => by kernel_rfl) (fun g1 => ⟨by unfold inI64; omega, trivial⟩) fun g1 => ?_
    refine RP [] (.d (.d .a)) 11 (.i 95 (.agg #[.slice none 0 0, .slice none 0 0, .slice none 0 0, .slice none 0 0, .slice none 0 0, .slice none 0 0, .slice none 0 0, .slice none 0 0, .slice none 0 0, .slice none 0 0, .slice none 0 0, .slice none 0 0, .slice none 0 0, .slice none 0 0, .slice none 0 0, .slice none 0 0, .slice none 0 0, .slice none 0 0, .slice none 0 0, .slice none 0 0, .slice none 0 0, .slice none 0 0, .slice none 0 0, .slice none 0 0, .slice none 0 0, .slice none 0 0, .slice none 0 0, .slice none 0 0, .slice none 0 0, .slice none 0 0, .slice none 0 0, .slice none 0 0, .slice none 0 0, .slice none 0 0, .slice none 0 0, .slice none 0 0, .slice none 0 0, .slice none 0 0, .slice none 0 0, .slice none 0 0, .slice none 0 0, .slice none 0 0, .slice none 0 0, .slice none 0 0, .slice none 0 0, .slice none 0 0, .slice none 0 0, .slice none 0 0, .slice none 0 0, .slice none 0 0, .slice none 0 0, .slice none 0 0, .slice none 0 0, .slice none 0 0, .slice none 0 0, .slice none 0 0, .slice none 0 0, .slice none 0 0, .slice none 0 0, .slice none 0 0, .slice none 0 0, .slice none 0 0, .slice none 0 0, .slice none 0 0, .slice none 0 0, .slice none 0 0, .slice none 0 0, .slice none 0 0, .slice none 0 0, .slice none 0 0, .slice none 0 0, .slice none 0 0, .slice none 0 0, .slice none 0 0, .slice none 0 0, .slice none 0 0, .slice none 0 0, .slice none 0 0, .slice none 0 0, .slice none 0 0, .slice none 0 0, .slice none 0 0, .slice none 0 0, .slice none 0 0, .slice none 0 0, .slice none 0 0, .slice none 0 0, .slice none 0 0, .slice none 0 0, .slice none 0 0, .slice none 0 0, .slice none 0 0, .slice none 0 0, .slice none 0 0, .slice none 0 0, .slice none 0 0, .slice none 0 0, .slice none 0 0, .slice none 0 0, .slice none 0 0, .slice none 0 0, .slice none 0 0, .slice none 0 0, .slice none 0 0, .slice none 0 0, .slice none 0 0, .slice none 0 0, .slice none 0 0, .slice none 0 0, .slice none 0 0, .slice none 0 0, .slice none 0 0, .slice none 0 0, .slice none 0 0, .slice none 0 0, .slice none 0 0, .slice none 0 0, .slice none 0 0, .slice none 0 0, .slice none 0 0, .slice none 0 0, .slice none 0 0, .slice none 0 0, .slice none 0 0, .slice none 0 0, .slice none 0 0, .slice none 0 0, .slice none 0 0, .slice none 0 0, .slice none 0 0, .slice none 0 0, .slice none 0 0, .slice none 0 0, .slice none 0 0, .slice none 0 0, .slice none 0 0, .slice none 0 0, .slice none 0 0, .slice none 0 0, .slice none 0 0, .slice none 0 0, .slice none 0 0, .slice none 0 0, .slice none 0 0, .slice none 0 0, .slice none 0 0, .slice none 0 0, .slice none 0 0, .slice none 0 0, .slice none 0 0, .slice none 0 0, .slice none 0 0, .slice none 0 0, .slice none 0 0, .slice none 0 0, .slice none 0 0, .slice none 0 0, .slice none 0 0, .slice none 0 0, .slice none 0 0, .slice none 0 0, .slice none 0 0, .slice none 0 0, .slice none 0 0, .slice none 0 0, .slice none 0 0, .slice none 0 0, .slice none 0 0, .slice none 0 0, .slice none 0 0, .slice none 0 0, .slice none 0 0, .slice none 0 0, .slice none 0 0, .slice none 0 0, .slice none 0 0, .slice none 0 0, .slice none 0 0, .slice none 0 0, .slice none 0 0, .slice none 0 0, .slice none 0 0, .slice none 0 0, .slice none 0 0, .slice none 0 0, .slice none 0 0, .slice none 0 0, .slice none 0 0, .slice none 0 0, .slice none 0 0, .slice none 0 0, .slice none 0 0, .slice none 0 0, .slice none 0 0, .slice none 0 0, .slice none 0 0, .slice none 0 0, .slice none 0 0, .slice none 0 0, .slice none 0 0, .slice none 0 0, .slice none 0 0, .slice none 0 0, .slice none 0 0, .slice none 0 0, .slice none 0 0, .slice none 0 0, .slice none 0 0, .slice none 0 0, .slice none 0 0, .slice none 0 0, .slice none 0 0, .slice none 0 0, .slice none 0 0, .slice none 0 0, .slice none 0 0, .slice none 0 0, .slice none 0 0, .slice none 0 0, .slice none 0 0, .slice none 0 0, .slice none 0 0, .slice none 0 0, .slice none 0 0, .slice none 0 0, .slice none 0 0, .slice none 0 0, .slice none 0 0, .slice none 0 0, .slice none 0 0, .slice none 0 0, .slice none 0 0, .slice none 0 0, .slice none 0 0, .slice none 0 0, .slice none 0 0, .slice none 0 0, .slice none 0 0, .slice none 0 0, .slice none 0 0, .slice none 0 0, .slice none 0 0, .slice none 0 0, .slice none 0 0, .slice none 0 0, .slice none 0 0, .slice none 0 0, .slice none 0 0, .slice none 0 0, .slice none 0 0, .slice none 0 0, .slice none 0 0, .slice none 0 0, .slice none 0 0, .slice none 0 0, .slice none 0 0, .slice (some ⟨g1, 0, none⟩) 0 3]) (.d (.k .a))) .a 312 (List.replicate 257 (Value.slice none 0 0)) fun g2 => ?_
    refine RR (List.replicate 257 3) .z (.k (.d (.k .a))) (.k (.k (.k (.u (.k (.k (.k (.k (.k (.k (.k (.k (.k (.k (.k (.k (.k (.k (.k (.k (.k (.k (.k (.k (.k (.k (.k (.k (.k (.k (.k (.k (.k (.k (.k (.k (.k (.k (.k (.k (.k (.k (.k (.k (.k (.k (.k (.k (.k (.k (.k (.k (.k (.k (.k (.k (.k (.k (.k (.k (.k (.k (.k (.k (.k (.k (.k (.k (.k (.k (.k (.k (.k (.k (.k (.k (.k (.k (.k (.k (.k (.k (.k (.k (.k (.k (.k (.k (.k (.k (.k (.k (.k (.k (.k (.k (.k (.k (.k (.k (.k (.k (.k (.k (.k (.k (.k (.k (.k (.k (.k (.k (.k (.k (.k (.k (.k (.k (.k (.k (.k (.k (.k (.k (.k (.k (.k (.k (.k (.k (.k (.k (.k (.k (.k (.k (.k (.k (.k (.k (.k (.k (.k (.k (.k (.k (.k (.k (.k (.k (.k (.k (.k (.k (.k (.k (.k (.k (.k (.k (.k (.k (.k (.k (.k (.k (.k (.k (.k (.k (.k (.k (.k (.k (.k (.k (.k (.k (.k (.k (.k (.k (.k (.k (.k (.k (.k (.k (.k (.k (.k (.k (.k (.k (.k (.k (.k (.k (.k (.k (.k (.k (.k (.k (.k (.k (.k (.k (.k (.k (.k (.k (.k (.k (.k (.k (.k (.k (.k (.k (.k (.k (.k (.k (.k (.k (.k (.k (.k (.k (.k (.k (.k (.k (.k (.k (.k (.k (.k (.k (.k (.k (.k (.k (.k (.k (.k (.k (.k (.k (.k (.k (.k (.k (.k (.k (.k (.k (.k (.k (.i (.slice (some ⟨g1, 0, none⟩) 0 3) .z))))))))))))))))))))))))))))))))))))))))))))))))))))))))))))))))))))))))))))))))))))))))))))))))))))))))))))))))))))))))))))))))))))))))))))))))))))))))))))))))))))))))))))))))))))))))))))))))))))))))))))))))))))))))))))))))))))))))))))))))))))))))))))))))) .a)))) ?_
    refine RZ (NT (SQ (SQ (RG ?_))))
    refine RV true [] .z (.i 12 (.int .i64 4) .a) .a [inI64 ((6 : Int) - (2 : Int))] ⟨by unfold inI64; omega, trivial⟩ ?_
    refine RZ (NT (BK ?_))
    refine wpc_ent (ent_turn 2 (row 9 1 (some ⟨g1, 0, none⟩) 3 3 [.string ⟨#[]⟩, .string ⟨#[]⟩, .string ⟨#[]⟩]) rfl (turn_blk rfl (by intro u hu; simp at hu; subst hu; rfl) (by decide)) rfl) ?_
    refine wpc_ent (ent_turn 2 (row 9 1 (some ⟨g1, 0, none⟩) 0 3 []) rfl (turn_cut 0 3 (by decide) (by decide) (by decide)) rfl) ?_
    refine wpc_ent (ent_turn (c := .blk g2 312 (repC (fun _ => .slice none 0 0) (.slice (some ⟨g1, 0, none⟩) 0 3))) 3 (row 312 1 (some ⟨g2, 0, none⟩) 257 257 (repC (fun _ => .slice none 0 0) (.slice (some ⟨g1, 0, none⟩) 0 3))) (by kernel_rfl) (turn_blk (repC_len _ _) (by intro u hu; simp [repC] at hu; rcases hu with ⟨_, rfl⟩ | rfl <;> rfl) (by decide)) rfl) ?_
    rw [repR3 (fun _ => (0, 0))]
    obtain ⟨rc, hlen, hat, hset, hT, hsetT, hrc⟩ : ∃ rc : (Nat → Value) → Value → List Value, (∀ R t, (rc R t).length = 257) ∧ (∀ R t q, q < 256 → ((rc R t).drop (q * 1)).take 1 = [R q]) ∧ (∀ R t v q, q < 256 → (rc R t).take q ++ [v] ++ (rc R t).drop (q + 1) = rc (upd R q v) t) ∧
        (∀ R t, ((rc R t).drop 256).take 1 = [t]) ∧ (∀ R t v, (rc R t).take 256 ++ [v] ++ (rc R t).drop (256 + 1) = rc R v) ∧ rc = repC := ⟨repC, repC_len, fun R t q h => repC_at h, fun R t v q h => repC_set h, fun R t => repC_t, fun R t v => repC_setT, rfl⟩
    rw [← hrc]
    refine wpc_ent ent_star_nil ?_
    refine wpc_loop (X := B2) (fun x => St.mk [(12, .int .i64 (2 * (x.k : Int) - 2)), (11, .pointer (some ⟨g2, 0, none⟩)), (3, .slice (some ⟨ga, oa, none⟩) 6 c), (2, Value.nilIface)]
      [.blk g 286 [.int .u32 0, .int .i32 1, .int .u32 0, r, .slice (some ⟨ga, oa, none⟩) 6 c], row 9 1 (some ⟨ga, oa, none⟩) 6 c (pairsL.map strV), row 9 1 x.ta (3 - x.k) x.tc (toRep x.k), row 312 1 (some ⟨g2, 0, none⟩) 257 257 (rc (repR x.k x.p) (.slice x.ta (3 - x.k) x.tc)), star (repRows x.k x.p)]) (fun x => x.k) ⟨3, fun _ => (0, 0), some ⟨g1, 0, none⟩, 3, Nat.le_refl _⟩ (Ent.trans (ent_hp [1, 1, 1, 1, 0] rfl) (ent_fr (by kernel_rfl))) ?_
    rintro ⟨k, p, ta, tc, hk⟩
    dsimp only at hk ⊢
    rcases (by omega : k = 0 ∨ k = 1 ∨ k = 2 ∨ k = 3) with rfl | rfl | rfl | rfl
    --CASES
    · refine SQ (SQ (RG ?_))
      refine RR [] .z (.i 100 (.bool false) (.i 12 (.int .i64 (-2)) (.d (.k .a)))) .a ?_
      refine RZ (NT (CF (EX (TE (TE (BH (NT (SQ (RG ?_)))))))))
      refine RR [] .z (.i 2 (Value.iface 313 (.pointer (some ⟨g2, 0, none⟩))) .z) .a ?_
      refine RZ (NT (RE ?_))
      refine NE [0, 0, 0, 0, 0] .a .z [] (Value.iface 313 (.pointer (some ⟨g2, 0, none⟩))) ?_
      exact ⟨g2, p, ta, tc, rfl, by rw [hrc]⟩
    · have hsz : (mkS [92]).size = 1 := rfl
      refine SQ (SQ (RG ?_))
      refine RR [] .z (.i 100 (.bool true) (.i 12 (.int .i64 0) (.d (.k .a)))) .a ?_
      refine RZ (NT (CT (SK (NT (SQ (BK (SQ (RG ?_))))))))
      refine RV true [] (.d (.d (.d .a))) (.i 105 (.pointer (some ⟨ga, oa, none⟩)) (.d (.k .a))) .a [(0 : Int) ≤ (0 : Int) ∧ (0 : Int) < (↑(6 : Nat) : Int)] ⟨by omega, trivial⟩ ?_
      refine wpr_eq (ld (t := 9) (a := (⟨ga, oa, none⟩)) (dst := some 106) (by kernel_rfl) false 1 (by kernel_rfl) (by simp) [.string (mkS [92])] rfl (fun w h => ld_row h 1 rfl 0 rfl)) ?_
      refine RV true [] .z (.i 13 (.int .u8 92) (.d (.d (.k .a)))) .a [(0 : Int) ≤ (0 : Int) ∧ (0 : Int) < (↑[(92 : UInt8)].length : Int)] ⟨by decide, trivial⟩ ?_
      refine RZ (NT (SQ (RG ?_)))
      refine RV true [] (.d (.d (.d (.d .a)))) (.i 111 (.pointer (some ⟨ga, oa + 1, none⟩)) .a) .a ([inI64 ((0 : Int) + (1 : Int)), (0 : Int) ≤ (1 : Int) ∧ (1 : Int) < (↑(6 : Nat) : Int)]) ⟨by unfold inI64; omega, by omega, trivial⟩ ?_
      refine wpr_eq (ld (t := 9) (a := (⟨ga, oa + 1, none⟩)) (dst := some 112) (by kernel_rfl) false 1 (by kernel_rfl) (by simp) [.string (mkS [92, 92])] rfl (fun w h => ld_row h 1 rfl 1 rfl)) ?_
      refine RR [] .z (.i 14 (.string (mkS [92, 92])) (.d (.d (.k .a)))) .a ?_
      refine RZ (NT (SQ (SQ (RG ?_))))
      refine RV true [] (.d (.d (.d .a))) (.i 115 (.pointer (some ⟨g2, 92, none⟩)) .a) .a [(0 : Int) ≤ (92 : Int) ∧ (92 : Int) < (↑(256 : Nat) : Int)] ⟨by omega, trivial⟩ ?_
      refine wpr_eq (ld (t := 39) (a := (⟨g2, 92, none⟩)) (dst := some 116) (by kernel_rfl) false 1 (by kernel_rfl) (by simp) [.slice none 0 0] rfl (fun w h => ld_row h 3 rfl 92 ((hat _ _ 92 (by decide)).trans (by simp [repR])))) ?_
      refine RR [] .z (.i 117 (.bool true) (.d (.d (.k .a)))) .a ?_
      refine RZ (NT (CT (RG ?_)))
      refine RR [] (.d .a) (.i 118 (.pointer (some ⟨g2, 256, none⟩)) (.d (.k .a))) .a ?_
      refine wpr_eq (ld (t := 22) (a := (⟨g2, 256, none⟩)) (dst := some 119) (by kernel_rfl) false 1 (by kernel_rfl) (by simp) [.slice ta (3 - 1) tc] rfl (fun w h => ld_row h 3 rfl 256 (hT _ _))) ?_
      refine RN [] (.d (.d .a)) 121 (fun g3 => (.slice (some ⟨g3, 0, none⟩) 1 1)) (.i 119 (.slice ta 2 tc) (.d (.d (.k .a)))) .a 5 [.int .u8 92] fun g3 => ?_
      refine RN [5] (.d (.d .a)) 123 (fun g4 => (.slice (some ⟨g4, 0, none⟩) 1 1)) (.d (.k .a)) .a 9 [.string (ByteArray.push ByteArray.empty (UInt8.ofNat (Int.toNat 92)))] fun g4 => ?_
      refine wpr_ent (ent_turn (c := .blk g4 9 [strV [92]]) 6 (ro (some ⟨g4, 0, none⟩) [strV [92]]) (by kernel_rfl) (turn_rblk (by intro u hu; rw [List.mem_singleton.1 hu]; rfl)) rfl) ?_
      refine wpr_app (a := ta) (n := 2) (cap := tc) (x := (.slice (some ⟨g4, 0, none⟩) 1 1)) (t := 22) (xt := 22) (dst := some 124) (by kernel_rfl) (e := 9) (sz := 1) (bytes := 16) (by kernel_rfl) 2 (xs := (toRep 1)) (by kernel_rfl) (m := 1) (news := [strV [92]]) (fun w h => src_ro h 6 rfl rfl (fun e => by cases e)) (by unfold maxLen; omega) (by omega) ?_
      intro ta2 tc2 hta2
      rw [show toRep 1 ++ [strV [92]] = toRep 0 from rfl]
      refine RR [] (.d .a) (.i 125 (.pointer (some ⟨g2, 256, none⟩)) (.k (.d (.d (.k .a))))) .a ?_
      refine wpr_eq (stq' (t := 22) (g := g2) (off := 0) (q := 256) (v := (.slice ta2 3 tc2)) (dst := none) (by kernel_rfl) 3 (T := 312) (sz := 1) (n := 257) (cap := 257) (xs := (rc (repR 1 p) (.slice ta (3 - 1) tc))) (by kernel_rfl) [.slice ta2 3 tc2] (by kernel_rfl) (by kernel_rfl) (by simp [Go.Sx.One, Value.oneCell']) (by rw [hlen]; simp) (xs' := (rc (repR 1 p) (.slice ta2 3 tc2))) (hsetT _ _ _)) ?_
      refine RZ (NT (RG ?_))
      refine RR [] (.d (.d .a)) (.i 127 (.string (mkS [92, 92])) (.i 126 (.int .u8 92) (.d (.d (.d (.d (.k .a))))))) .a ?_
      refine wpr_s2b (a := 9) (b := 39) (e := 5) (dst := some 128) [92, 92] (by kernel_rfl) (by kernel_rfl) (by unfold maxLen; first | omega | decide) ?_
      intro gb cb
      refine RV true [] (.d (.d .a)) (.i 130 (.pointer (some ⟨g2, 92, none⟩)) (.i 128 (.slice (some ⟨gb, 0, none⟩) 2 cb) (.d (.d (.d (.k .a)))))) (.k (.k (.k (.k (.k (.k (.k (.i (row 5 1 (some ⟨gb, 0, none⟩) 2 cb (u8s [92, 92])) .z)))))))) [(0 : Int) ≤ (92 : Int) ∧ (92 : Int) < (↑(256 : Nat) : Int)] ⟨by omega, trivial⟩ ?_
      refine wpr_eq (stq' (t := 39) (g := g2) (off := 0) (q := 92) (v := (.slice (some ⟨gb, 0, none⟩) 2 cb)) (dst := none) (by kernel_rfl) 3 (T := 312) (sz := 1) (n := 257) (cap := 257) (xs := (rc (repR 1 p) (.slice ta2 3 tc2))) (by kernel_rfl) [.slice (some ⟨gb, 0, none⟩) 2 cb] (by kernel_rfl) (by kernel_rfl) (by simp [Go.Sx.One, Value.oneCell']) (by rw [hlen]; simp) (xs' := (rc (repR 0 (updp p 0 (gb, cb))) (.slice ta2 3 tc2))) ((hset _ _ _ 92 (by decide)).trans (by rw [show .slice (some ⟨gb, 0, none⟩) 2 cb = sl2 (gb, cb) from rfl, repR0]))) ?_
      refine RZ (BN (NT (RG ?_)))
      refine RV true [] .z (.i 12 (.int .i64 (-2)) (.d (.d (.d (.k .a))))) .a [inI64 ((0 : Int) - (2 : Int))] ⟨by unfold inI64; omega, trivial⟩ ?_
      refine RZ ?_
      refine nx_ent (ent_hp [4, 6, 0, 0, 0, 0] rfl) ?_
      refine nx_ent (ent_star_snoc trivial) ?_
      rw [show repRows 1 p ++ [row 5 1 (some ⟨gb, 0, none⟩) 2 cb (u8s [92, 92])] = repRows 0 (updp p 0 (gb, cb)) from rfl]
      exact fun a' w' hS' => ⟨⟨0, updp p 0 (gb, cb), ta2, tc2, by decide⟩, by dsimp only; omega, ent_fr (by kernel_rfl) _ _ (ent_hp [1, 1, 1, 1, 0] rfl _ _ hS')⟩
    · have hsz : (mkS [34]).size = 1 := rfl
      refine SQ (SQ (RG ?_))
      refine RR [] .z (.i 100 (.bool true) (.i 12 (.int .i64 2) (.d (.k .a)))) .a ?_
      refine RZ (NT (CT (SK (NT (SQ (BK (SQ (RG ?_))))))))
      refine RV true [] (.d (.d (.d .a))) (.i 105 (.pointer (some ⟨ga, oa + 2, none⟩)) (.d (.k .a))) .a [(0 : Int) ≤ (2 : Int) ∧ (2 : Int) < (↑(6 : Nat) : Int)] ⟨by omega, trivial⟩ ?_
      refine wpr_eq (ld (t := 9) (a := (⟨ga, oa + 2, none⟩)) (dst := some 106) (by kernel_rfl) false 1 (by kernel_rfl) (by simp) [.string (mkS [34])] rfl (fun w h => ld_row h 1 rfl 2 rfl)) ?_
      refine RV true [] .z (.i 13 (.int .u8 34) (.d (.d (.k .a)))) .a [(0 : Int) ≤ (0 : Int) ∧ (0 : Int) < (↑[(34 : UInt8)].length : Int)] ⟨by decide, trivial⟩ ?_
      refine RZ (NT (SQ (RG ?_)))
      refine RV true [] (.d (.d (.d (.d .a)))) (.i 111 (.pointer (some ⟨ga, oa + 3, none⟩)) .a) .a ([inI64 ((2 : Int) + (1 : Int)), (0 : Int) ≤ (3 : Int) ∧ (3 : Int) < (↑(6 : Nat) : Int)]) ⟨by unfold inI64; omega, by omega, trivial⟩ ?_
      refine wpr_eq (ld (t := 9) (a := (⟨ga, oa + 3, none⟩)) (dst := some 112) (by kernel_rfl) false 1 (by kernel_rfl) (by simp) [.string (mkS [92, 34])] rfl (fun w h => ld_row h 1 rfl 3 rfl)) ?_
      refine RR [] .z (.i 14 (.string (mkS [92, 34])) (.d (.d (.k .a)))) .a ?_
      refine RZ (NT (SQ (SQ (RG ?_))))
      refine RV true [] (.d (.d (.d .a))) (.i 115 (.pointer (some ⟨g2, 34, none⟩)) .a) .a [(0 : Int) ≤ (34 : Int) ∧ (34 : Int) < (↑(256 : Nat) : Int)] ⟨by omega, trivial⟩ ?_
      refine wpr_eq (ld (t := 39) (a := (⟨g2, 34, none⟩)) (dst := some 116) (by kernel_rfl) false 1 (by kernel_rfl) (by simp) [.slice none 0 0] rfl (fun w h => ld_row h 3 rfl 34 ((hat _ _ 34 (by decide)).trans (by simp [repR])))) ?_
      refine RR [] .z (.i 117 (.bool true) (.d (.d (.k .a)))) .a ?_
      refine RZ (NT (CT (RG ?_)))
      refine RR [] (.d .a) (.i 118 (.pointer (some ⟨g2, 256, none⟩)) (.d (.k .a))) .a ?_
      refine wpr_eq (ld (t := 22) (a := (⟨g2, 256, none⟩)) (dst := some 119) (by kernel_rfl) false 1 (by kernel_rfl) (by simp) [.slice ta (3 - 2) tc] rfl (fun w h => ld_row h 3 rfl 256 (hT _ _))) ?_
      refine RN [] (.d (.d .a)) 121 (fun g3 => (.slice (some ⟨g3, 0, none⟩) 1 1)) (.i 119 (.slice ta 1 tc) (.d (.d (.k .a)))) .a 5 [.int .u8 34] fun g3 => ?_
      refine RN [5] (.d (.d .a)) 123 (fun g4 => (.slice (some ⟨g4, 0, none⟩) 1 1)) (.d (.k .a)) .a 9 [.string (ByteArray.push ByteArray.empty (UInt8.ofNat (Int.toNat 34)))] fun g4 => ?_
      refine wpr_ent (ent_turn (c := .blk g4 9 [strV [34]]) 6 (ro (some ⟨g4, 0, none⟩) [strV [34]]) (by kernel_rfl) (turn_rblk (by intro u hu; rw [List.mem_singleton.1 hu]; rfl)) rfl) ?_
      refine wpr_app (a := ta) (n := 1) (cap := tc) (x := (.slice (some ⟨g4, 0, none⟩) 1 1)) (t := 22) (xt := 22) (dst := some 124) (by kernel_rfl) (e := 9) (sz := 1) (bytes := 16) (by kernel_rfl) 2 (xs := (toRep 2)) (by kernel_rfl) (m := 1) (news := [strV [34]]) (fun w h => src_ro h 6 rfl rfl (fun e => by cases e)) (by unfold maxLen; omega) (by omega) ?_
      intro ta2 tc2 hta2
      rw [show toRep 2 ++ [strV [34]] = toRep 1 from rfl]
      refine RR [] (.d .a) (.i 125 (.pointer (some ⟨g2, 256, none⟩)) (.k (.d (.d (.k .a))))) .a ?_
      refine wpr_eq (stq' (t := 22) (g := g2) (off := 0) (q := 256) (v := (.slice ta2 2 tc2)) (dst := none) (by kernel_rfl) 3 (T := 312) (sz := 1) (n := 257) (cap := 257) (xs := (rc (repR 2 p) (.slice ta (3 - 2) tc))) (by kernel_rfl) [.slice ta2 2 tc2] (by kernel_rfl) (by kernel_rfl) (by simp [Go.Sx.One, Value.oneCell']) (by rw [hlen]; simp) (xs' := (rc (repR 2 p) (.slice ta2 2 tc2))) (hsetT _ _ _)) ?_
      refine RZ (NT (RG ?_))
      refine RR [] (.d (.d .a)) (.i 127 (.string (mkS [92, 34])) (.i 126 (.int .u8 34) (.d (.d (.d (.d (.k .a))))))) .a ?_
      refine wpr_s2b (a := 9) (b := 39) (e := 5) (dst := some 128) [92, 34] (by kernel_rfl) (by kernel_rfl) (by unfold maxLen; first | omega | decide) ?_
      intro gb cb
      refine RV true [] (.d (.d .a)) (.i 130 (.pointer (some ⟨g2, 34, none⟩)) (.i 128 (.slice (some ⟨gb, 0, none⟩) 2 cb) (.d (.d (.d (.k .a)))))) (.k (.k (.k (.k (.k (.k (.k (.i (row 5 1 (some ⟨gb, 0, none⟩) 2 cb (u8s [92, 34])) .z)))))))) [(0 : Int) ≤ (34 : Int) ∧ (34 : Int) < (↑(256 : Nat) : Int)] ⟨by omega, trivial⟩ ?_
      refine wpr_eq (stq' (t := 39) (g := g2) (off := 0) (q := 34) (v := (.slice (some ⟨gb, 0, none⟩) 2 cb)) (dst := none) (by kernel_rfl) 3 (T := 312) (sz := 1) (n := 257) (cap := 257) (xs := (rc (repR 2 p) (.slice ta2 2 tc2))) (by kernel_rfl) [.slice (some ⟨gb, 0, none⟩) 2 cb] (by kernel_rfl) (by kernel_rfl) (by simp [Go.Sx.One, Value.oneCell']) (by rw [hlen]; simp) (xs' := (rc (repR 1 (updp p 1 (gb, cb))) (.slice ta2 2 tc2))) ((hset _ _ _ 34 (by decide)).trans (by rw [show .slice (some ⟨gb, 0, none⟩) 2 cb = sl2 (gb, cb) from rfl, repR1]))) ?_
      refine RZ (BN (NT (RG ?_)))
      refine RV true [] .z (.i 12 (.int .i64 0) (.d (.d (.d (.k .a))))) .a [inI64 ((2 : Int) - (2 : Int))] ⟨by unfold inI64; omega, trivial⟩ ?_
      refine RZ ?_
      refine nx_ent (ent_hp [4, 6, 0, 0, 0, 0] rfl) ?_
      refine nx_ent (ent_star_snoc trivial) ?_
      rw [show repRows 2 p ++ [row 5 1 (some ⟨gb, 0, none⟩) 2 cb (u8s [92, 34])] = repRows 1 (updp p 1 (gb, cb)) from rfl]
      exact fun a' w' hS' => ⟨⟨1, updp p 1 (gb, cb), ta2, tc2, by decide⟩, by dsimp only; omega, ent_fr (by kernel_rfl) _ _ (ent_hp [1, 1, 1, 1, 0] rfl _ _ hS')⟩
    · have hsz : (mkS [10]).size = 1 := rfl
      refine SQ (SQ (RG ?_))
      refine RR [] .z (.i 100 (.bool true) (.i 12 (.int .i64 4) (.d (.k .a)))) .a ?_
      refine RZ (NT (CT (SK (NT (SQ (BK (SQ (RG ?_))))))))
      refine RV true [] (.d (.d (.d .a))) (.i 105 (.pointer (some ⟨ga, oa + 4, none⟩)) (.d (.k .a))) .a [(0 : Int) ≤ (4 : Int) ∧ (4 : Int) < (↑(6 : Nat) : Int)] ⟨by omega, trivial⟩ ?_
      refine wpr_eq (ld (t := 9) (a := (⟨ga, oa + 4, none⟩)) (dst := some 106) (by kernel_rfl) false 1 (by kernel_rfl) (by simp) [.string (mkS [10])] rfl (fun w h => ld_row h 1 rfl 4 rfl)) ?_
      refine RV true [] .z (.i 13 (.int .u8 10) (.d (.d (.k .a)))) .a [(0 : Int) ≤ (0 : Int) ∧ (0 : Int) < (↑[(10 : UInt8)].length : Int)] ⟨by decide, trivial⟩ ?_
      refine RZ (NT (SQ (RG ?_)))
      refine RV true [] (.d (.d (.d (.d .a)))) (.i 111 (.pointer (some ⟨ga, oa + 5, none⟩)) .a) .a ([inI64 ((4 : Int) + (1 : Int)), (0 : Int) ≤ (5 : Int) ∧ (5 : Int) < (↑(6 : Nat) : Int)]) ⟨by unfold inI64; omega, by omega, trivial⟩ ?_
      refine wpr_eq (ld (t := 9) (a := (⟨ga, oa + 5, none⟩)) (dst := some 112) (by kernel_rfl) false 1 (by kernel_rfl) (by simp) [.string (mkS [92, 110])] rfl (fun w h => ld_row h 1 rfl 5 rfl)) ?_
      refine RR [] .z (.i 14 (.string (mkS [92, 110])) (.d (.d (.k .a)))) .a ?_
      refine RZ (NT (SQ (SQ (RG ?_))))
      refine RV true [] (.d (.d (.d .a))) (.i 115 (.pointer (some ⟨g2, 10, none⟩)) .a) .a [(0 : Int) ≤ (10 : Int) ∧ (10 : Int) < (↑(256 : Nat) : Int)] ⟨by omega, trivial⟩ ?_
      refine wpr_eq (ld (t := 39) (a := (⟨g2, 10, none⟩)) (dst := some 116) (by kernel_rfl) false 1 (by kernel_rfl) (by simp) [.slice none 0 0] rfl (fun w h => ld_row h 3 rfl 10 ((hat _ _ 10 (by decide)).trans (by simp [repR])))) ?_
      refine RR [] .z (.i 117 (.bool true) (.d (.d (.k .a)))) .a ?_
      refine RZ (NT (CT (RG ?_)))
      refine RR [] (.d .a) (.i 118 (.pointer (some ⟨g2, 256, none⟩)) (.d (.k .a))) .a ?_
      refine wpr_eq (ld (t := 22) (a := (⟨g2, 256, none⟩)) (dst := some 119) (by kernel_rfl) false 1 (by kernel_rfl) (by simp) [.slice ta (3 - 3) tc] rfl (fun w h => ld_row h 3 rfl 256 (hT _ _))) ?_
      refine RN [] (.d (.d .a)) 121 (fun g3 => (.slice (some ⟨g3, 0, none⟩) 1 1)) (.i 119 (.slice ta 0 tc) (.d (.d (.k .a)))) .a 5 [.int .u8 10] fun g3 => ?_
      refine RN [5] (.d (.d .a)) 123 (fun g4 => (.slice (some ⟨g4, 0, none⟩) 1 1)) (.d (.k .a)) .a 9 [.string (ByteArray.push ByteArray.empty (UInt8.ofNat (Int.toNat 10)))] fun g4 => ?_
      refine wpr_ent (ent_turn (c := .blk g4 9 [strV [10]]) 6 (ro (some ⟨g4, 0, none⟩) [strV [10]]) (by kernel_rfl) (turn_rblk (by intro u hu; rw [List.mem_singleton.1 hu]; rfl)) rfl) ?_
      refine wpr_app (a := ta) (n := 0) (cap := tc) (x := (.slice (some ⟨g4, 0, none⟩) 1 1)) (t := 22) (xt := 22) (dst := some 124) (by kernel_rfl) (e := 9) (sz := 1) (bytes := 16) (by kernel_rfl) 2 (xs := (toRep 3)) (by kernel_rfl) (m := 1) (news := [strV [10]]) (fun w h => src_ro h 6 rfl rfl (fun e => by cases e)) (by unfold maxLen; omega) (by omega) ?_
      intro ta2 tc2 hta2
      rw [show toRep 3 ++ [strV [10]] = toRep 2 from rfl]
      refine RR [] (.d .a) (.i 125 (.pointer (some ⟨g2, 256, none⟩)) (.k (.d (.d (.k .a))))) .a ?_
      refine wpr_eq (stq' (t := 22) (g := g2) (off := 0) (q := 256) (v := (.slice ta2 1 tc2)) (dst := none) (by kernel_rfl) 3 (T := 312) (sz := 1) (n := 257) (cap := 257) (xs := (rc (repR 3 p) (.slice ta (3 - 3) tc))) (by kernel_rfl) [.slice ta2 1 tc2] (by kernel_rfl) (by kernel_rfl) (by simp [Go.Sx.One, Value.oneCell']) (by rw [hlen]; simp) (xs' := (rc (repR 3 p) (.slice ta2 1 tc2))) (hsetT _ _ _)) ?_
      refine RZ (NT (RG ?_))
      refine RR [] (.d (.d .a)) (.i 127 (.string (mkS [92, 110])) (.i 126 (.int .u8 10) (.d (.d (.d (.d (.k .a))))))) .a ?_
      refine wpr_s2b (a := 9) (b := 39) (e := 5) (dst := some 128) [92, 110] (by kernel_rfl) (by kernel_rfl) (by unfold maxLen; first | omega | decide) ?_
      intro gb cb
      refine RV true [] (.d (.d .a)) (.i 130 (.pointer (some ⟨g2, 10, none⟩)) (.i 128 (.slice (some ⟨gb, 0, none⟩) 2 cb) (.d (.d (.d (.k .a)))))) (.k (.k (.k (.k (.k (.k (.k (.i (row 5 1 (some ⟨gb, 0, none⟩) 2 cb (u8s [92, 110])) .z)))))))) [(0 : Int) ≤ (10 : Int) ∧ (10 : Int) < (↑(256 : Nat) : Int)] ⟨by omega, trivial⟩ ?_
      refine wpr_eq (stq' (t := 39) (g := g2) (off := 0) (q := 10) (v := (.slice (some ⟨gb, 0, none⟩) 2 cb)) (dst := none) (by kernel_rfl) 3 (T := 312) (sz := 1) (n := 257) (cap := 257) (xs := (rc (repR 3 p) (.slice ta2 1 tc2))) (by kernel_rfl) [.slice (some ⟨gb, 0, none⟩) 2 cb] (by kernel_rfl) (by kernel_rfl) (by simp [Go.Sx.One, Value.oneCell']) (by rw [hlen]; simp) (xs' := (rc (repR 2 (updp p 2 (gb, cb))) (.slice ta2 1 tc2))) ((hset _ _ _ 10 (by decide)).trans (by rw [show .slice (some ⟨gb, 0, none⟩) 2 cb = sl2 (gb, cb) from rfl, repR2]))) ?_
      refine RZ (BN (NT (RG ?_)))
      refine RV true [] .z (.i 12 (.int .i64 2) (.d (.d (.d (.k .a))))) .a [inI64 ((4 : Int) - (2 : Int))] ⟨by unfold inI64; omega, trivial⟩ ?_
      refine RZ ?_
      refine nx_ent (ent_hp [4, 6, 0, 0, 0, 0] rfl) ?_
      refine nx_ent (ent_star_snoc trivial) ?_
      rw [show repRows 3 p ++ [row 5 1 (some ⟨gb, 0, none⟩) 2 cb (u8s [92, 110])] = repRows 2 (updp p 2 (gb, cb)) from rfl]
      exact fun a' w' hS' => ⟨⟨2, updp p 2 (gb, cb), ta2, tc2, by decide⟩, by dsimp only; omega, ent_fr (by kernel_rfl) _ _ (ent_hp [1, 1, 1, 1, 0] rfl _ _ hS')⟩
end Go.Proofs.YtgcfomhlgipllaaGreatDoor
namespace Go.Proofs.YtgcfomhlgipllaaGreatDoor
open Go Go.Sx
def repH (g2 : Nat) (p : Nat → Nat × Nat) (ta : Option Addr) (tc : Nat) : Hp := [row 9 1 ta 3 tc (toRep 0), row 312 1 (some ⟨g2, 0, none⟩) 257 257 (repC (repR 0 p) (.slice ta 3 tc)), star (repRows 0 p)]
theorem buildOnce_spec (g : Nat) (a : Option Addr) (c : Nat) : Does Tryz.prog 199 [.pointer (some ⟨g, 0, none⟩)] [.blk g 286 [.int .u32 0, .int .i32 1, .int .u32 0, .nilIface, .slice a 6 c], row 9 1 a 6 c (pairsL.map strV)]
    (fun x hp' => ∃ g2 p ta tc, x = .tuple #[] ∧ hp' = .blk g 286 [.int .u32 0, .int .i32 1, .int .u32 0, .iface 313 (.pointer (some ⟨g2, 0, none⟩)), .slice none 0 0] :: repH g2 p ta tc) := by
  refine fn_enter Tryz.func199 rfl 10 rfl fun w0 h0 => ?_
  refine SQ (RG ?_)
  refine RR [] (.d (.d .a)) (.i 3 (.pointer (some ⟨g, 0, none⟩)) (.i 2 (.pointer (some ⟨g, 0, none⟩)) .a)) .a ?_
  refine RCA (dst := some 4) (build_spec g .nilIface a c) ?_
  rintro v _ ⟨g2, p, ta, tc, rfl, rfl⟩
  refine RR [0] .z (.d (.d (.d (.k .a)))) (.u (.k (.k (.k (.i (Value.iface 313 (.pointer (some ⟨g2, 0, none⟩))) (.d (.k .a)))))) .a) ?_
  refine RZ (NT (RG ?_))
  refine RR [0] .z .z (.u (.k (.k (.k (.k (.i (.slice none 0 0) .z))))) .a) ?_
  refine RZ ?_
  refine NE [0, 1, 1, 1] (.k (.d (.k .a))) (.d (.k .z)) [] (.tuple #[]) ?_
  exact ⟨g2, p, ta, tc, rfl, rfl⟩
theorem bStoreD (g : Nat) (v o1 o2 : Int) (r o : Value) : DoesD Tryz.prog 224 [.pointer (some ⟨g, 0, none⟩), .bool true] [.blk g 286 [.int .u32 v, .int .i32 o1, .int .u32 o2, r, o]] (fun x hp' => x = .tuple #[] ∧ hp' = [.blk g 286 [.int .u32 1, .int .i32 o1, .int .u32 o2, r, o]]) := by
  refine fn_enter_d Tryz.func224 rfl 10 rfl fun w0 h0 => ?_
  refine wpc_draw (by kernel_rfl) [] (sub_of [] (by kernel_rfl)) 6 (by kernel_rfl) ?_
  refine TK 2 [(0, []), (1, []), (2, []), (3, [])] (.i 7 (.bool true) (.i 6 (.pointer (some ⟨g, 0, none⟩)) .z)) (#[true, true, true, true, false, false]) ?_
  refine AC (dst := some 8) 1 4 .a (b32_spec) (GI []) [] ?_
  rintro v _ ⟨rfl, rfl⟩
  refine AO 0 5 [0] .z (.u (.i (.int .u32 1) (.d (.k .a))) .a) [] ?_
  refine wpa_done 0 (by kernel_rfl) ?_
  refine NE [0] .a .z [] (.tuple #[]) ?_
  exact ⟨rfl, rfl⟩
theorem UnlockD (g : Nat) (v o2 : Int) (r o : Value) : DoesD Tryz.prog 223 [.pointer (some ⟨g, 1, none⟩)] [.blk g 286 [.int .u32 v, .int .i32 1, .int .u32 o2, r, o]] (fun x hp' => x = .tuple #[] ∧ hp' = [.blk g 286 [.int .u32 v, .int .i32 0, .int .u32 o2, r, o]]) := by
  refine fn_enter_d Tryz.func223 rfl 6 rfl fun w0 h0 => ?_
  refine RG ?_
  refine RR [] (.d (.d (.d .a))) (.i 4 (.pointer (some ⟨g, 1, none⟩)) .z) .a ?_
  refine RCA (dst := some 5) (iUnlock_spec g v o2 r o) ?_
  rintro v _ ⟨rfl, rfl⟩
  refine RZ ?_
  refine NE [0] .a .z [] (.tuple #[]) ?_
  exact ⟨rfl, rfl⟩
theorem doSlow_spec (g : Nat) (a : Option Addr) (c : Nat) : Does Tryz.prog 212 [.pointer (some ⟨g, 0, none⟩), .func (.func 199) #[.pointer (some ⟨g, 0, none⟩)] #[]] [.blk g 286 [.int .u32 0, .int .i32 0, .int .u32 0, .nilIface, .slice a 6 c], row 9 1 a 6 c (pairsL.map strV)]
    (fun x hp' => ∃ g2 p ta tc, x = .tuple #[] ∧ hp' = .blk g 286 [.int .u32 1, .int .i32 0, .int .u32 0, .iface 313 (.pointer (some ⟨g2, 0, none⟩)), .slice none 0 0] :: repH g2 p ta tc) := by
  refine fn_enter_def Tryz.func212 rfl 21 rfl fun w0 h0 => ?_
  refine SQ (RG ?_)
  refine RR [] (.d (.d (.d .a))) (.i 6 (.pointer (some ⟨g, 1, none⟩)) .a) .a ?_
  refine RC (dst := some 7) [0] (.d (.k .a)) (Lock_spec g 0 0 .nilIface (.slice a 6 c)) ?_
  rintro v _ ⟨rfl, rfl⟩
  refine RZ (NT (SQ (RG ?_)))
  refine RR [] (.d (.d (.d .a))) (.i 10 (.pointer (some ⟨g, 1, none⟩)) (.d (.d (.k .a)))) .a ?_
  refine wpr_defer (f := 223) (caps := #[]) (args := #[.pointer (some ⟨g, 1, none⟩)]) (by kernel_rfl) ?_
  refine RZ (NT (SQ (RG ?_)))
  refine RR [] (.d (.d (.d .a))) (.i 13 (.pointer (some ⟨g, 0, none⟩)) (.d (.k .a))) .a ?_
  refine RC (dst := some 14) [0] (.d (.k .a)) (bLoad_spec g 0 1 0 .nilIface (.slice a 6 c)) ?_
  rintro v _ ⟨rfl, rfl⟩
  refine RR [] .z (.i 15 (.bool true) (.d (.d (.k .a)))) .a ?_
  refine RZ (NT (CT (SQ (RG ?_))))
  refine RR [] (.d (.d (.d .a))) (.i 18 (.pointer (some ⟨g, 0, none⟩)) (.d (.d (.k .a)))) .a ?_
  refine wpr_defer (f := 224) (caps := #[]) (args := #[.pointer (some ⟨g, 0, none⟩), .bool true]) (by kernel_rfl) ?_
  refine RZ (NT (RG ?_))
  refine RR [] (.d .a) (.i 19 (Value.func (Fn.func 199) #[.pointer (some ⟨g, 0, none⟩)] #[]) .z) .a ?_
  refine wpr_callv_all (dst := some 20) (first := (#[.pointer (some ⟨g, 0, none⟩)])) (caps := (#[])) (args := []) (f := 199) (by kernel_rfl) (by kernel_rfl) (buildOnce_spec g a c) give_all ?_
  rintro v _ ⟨g2, p, ta, tc, rfl, rfl⟩
  refine RZ ?_
  refine nx_lv (.inl rfl) ?_
  refine lv_cons (by kernel_rfl) (bStoreD g 0 1 0 _ _) (rest := repH g2 p ta tc) (give [0] rfl) ?_
  rintro v _ ⟨rfl, rfl⟩
  refine lv_cons (by kernel_rfl) (UnlockD g 1 0 _ _) (rest := repH g2 p ta tc) (give [0] rfl) ?_
  rintro v _ ⟨rfl, rfl⟩
  refine lv_nil (.tuple #[]) rfl give_all ⟨trivial, trivial, trivial, trivial, trivial⟩ ⟨g2, p, ta, tc, rfl, rfl⟩
theorem Do_spec (g : Nat) (a : Option Addr) (c : Nat) : Does Tryz.prog 198 [.pointer (some ⟨g, 0, none⟩), .func (.func 199) #[.pointer (some ⟨g, 0, none⟩)] #[]] [.blk g 286 [.int .u32 0, .int .i32 0, .int .u32 0, .nilIface, .slice a 6 c], row 9 1 a 6 c (pairsL.map strV)]
    (fun x hp' => ∃ g2 p ta tc, x = .tuple #[] ∧ hp' = .blk g 286 [.int .u32 1, .int .i32 0, .int .u32 0, .iface 313 (.pointer (some ⟨g2, 0, none⟩)), .slice none 0 0] :: repH g2 p ta tc) := by
  refine fn_enter Tryz.func198 rfl 12 rfl fun w0 h0 => ?_
  refine SQ (RG ?_)
  refine RR [] (.d (.d (.d .a))) (.i 6 (.pointer (some ⟨g, 0, none⟩)) .a) .a ?_
  refine RC (dst := some 7) [0] (.d (.k .a)) (bLoad_spec g 0 0 0 .nilIface (.slice a 6 c)) ?_
  rintro v _ ⟨rfl, rfl⟩
  refine RR [] .z (.i 8 (.bool true) (.d (.d (.k .a)))) .a ?_
  refine RZ (NT (CT (RG ?_)))
  refine RR [] (.d (.d .a)) (.i 10 (Value.func (Fn.func 199) #[.pointer (some ⟨g, 0, none⟩)] #[]) (.i 9 (.pointer (some ⟨g, 0, none⟩)) .z)) .a ?_
  refine RCA (dst := some 11) (doSlow_spec g a c) ?_
  rintro v _ ⟨g2, p, ta, tc, rfl, rfl⟩
  refine RZ ?_
  refine NE [0, 0, 0, 0] .a .z [] (.tuple #[]) ?_
  exact ⟨g2, p, ta, tc, rfl, rfl⟩
end Go.Proofs.YtgcfomhlgipllaaGreatDoor
namespace Go.Proofs.YtgcfomhlgipllaaGreatDoor
open Go Go.Sx
def escB (c : UInt8) : List UInt8 := if c = 92 then [92, 92] else if c = 34 then [92, 34] else if c = 10 then [92, 110] else [c]
def spB (c : UInt8) : Bool := c == 92 || c == 34 || c == 10
def escL (s : List UInt8) : List UInt8 := s.flatMap escB
theorem Count_spec (s : List UInt8) (c : UInt8) : Does Tryz.prog 192 [.string (mkS s), .string (mkS [c])] [] (fun v hp' => v = .int .i64 ((s.count c : Nat) : Int) ∧ hp' = []) := by
  refine fn_enter Tryz.func192 rfl 34 rfl fun w0 h0 => ?_
  refine SQ (RG ?_)
  refine RR [] .z (.i 4 (.int .i64 0) .a) .a ?_
  refine RZ (NT (SQ (SQ (RG ?_))))
  refine RR [] .z (.i 9 (.bool false) .a) .a ?_
  refine RZ (NT (CF (SK (NT (SQ (SQ (RG ?_)))))))
  refine RR [] .z (.i 15 (.bool true) (.d (.k .a))) .a ?_
  refine RZ (NT (CT (SQ (RG ?_))))
  refine RV true [] .z (.i 4 (.int .i64 (ByteArray.foldl (fun (n : Int) (x : UInt8) => if (x == Nat.toUInt8 (Int.toNat (bt (mkS [c]) 0))) = true then n + 1 else n) (↑0 : Int) (mkS s) 0 (List.length s))) (.d (.d (.k .a)))) .a [(0 : Int) ≤ (0 : Int) ∧ (0 : Int) < (↑[c].length : Int)] ⟨by simp, trivial⟩ ?_
  refine RZ (NT (RE (TR ?_)))
  refine NE [] .a .a [] (.int .i64 (ByteArray.foldl (fun (n : Int) (x : UInt8) => if (x == Nat.toUInt8 (Int.toNat (bt (mkS [c]) 0))) = true then n + 1 else n) 0 (mkS s) 0 (List.length s))) ?_
  refine ⟨?_, rfl⟩
  have hb : (bt (mkS [c]) 0).toNat.toUInt8 = c := by
    rw [show bt (mkS [c]) 0 = (c.toNat : Int) from bt_at (s := [c]) (i := 0) (by simp)]
    simp
  rw [hb]
  show Value.int .i64 (ByteArray.foldl (fun (n : Int) x => if (x == c) = true then n + 1 else n) ((0 : Nat) : Int) (mkS s)) = _
  rw [Go.Lib.foldl_data, Go.Lib.count_foldl]
  simp [Go.Lib.countByte, mkS]
def spN (s : List UInt8) : Nat := s.countP spB
theorem spN_count : ∀ s : List UInt8, spN s = s.count 10 + s.count 34 + s.count 92
  | [] => rfl
  | c :: s => by
    have ih := spN_count s
    unfold spN at ih ⊢
    rw [List.countP_cons, List.count_cons, List.count_cons, List.count_cons, ih]
    unfold spB
    by_cases h1 : c = 92
    · subst h1; simp; omega
    · by_cases h2 : c = 34
      · subst h2; simp; omega
      · by_cases h3 : c = 10
        · subst h3; simp; omega
        · simp [h1, h2, h3]
theorem escB_len (c : UInt8) : (escB c).length = if spB c then 2 else 1 := by
  unfold escB spB
  by_cases h1 : c = 92
  · subst h1; rfl
  · by_cases h2 : c = 34
    · subst h2; rfl
    · by_cases h3 : c = 10
      · subst h3; rfl
      · simp [h1, h2, h3]
theorem escL_len : ∀ s : List UInt8, (escL s).length = s.length + spN s
  | [] => rfl
  | c :: s => by
    have ih := escL_len s
    unfold escL spN at ih ⊢
    rw [List.flatMap_cons, List.length_append, ih, escB_len, List.countP_cons, List.length_cons]
    cases spB c <;> simp <;> omega
theorem escL_same {s : List UInt8} (h : spN s = 0) : escL s = s := by
  induction s with
  | nil => rfl
  | cons c s ih =>
    unfold spN at h
    rw [List.countP_cons] at h
    have hc : spB c = false := by
      cases hs : spB c with
      | false => rfl
      | true => rw [hs] at h; simp at h
    have hs : spN s = 0 := by unfold spN; omega
    unfold escL
    rw [List.flatMap_cons]
    have : s.flatMap escB = s := ih hs
    rw [this]
    unfold spB at hc
    simp only [Bool.or_eq_false_iff, beq_eq_false_iff_ne, ne_eq] at hc
    unfold escB
    simp [hc.1.1, hc.1.2, hc.2]
theorem repR_sp (p : Nat → Nat × Nat) (c : UInt8) (h : spB c = false) : repR 0 p c.toNat = .slice none 0 0 := by
  unfold spB at h
  simp only [Bool.or_eq_false_iff, beq_eq_false_iff_ne, ne_eq] at h
  have h1 : ¬ c.toNat = 92 := fun e => h.1.1 (UInt8.toNat_inj.1 e)
  have h2 : ¬ c.toNat = 34 := fun e => h.1.2 (UInt8.toNat_inj.1 e)
  have h3 : ¬ c.toNat = 10 := fun e => h.2 (UInt8.toNat_inj.1 e)
  simp [repR, h1, h2, h3]
theorem repR_is (p : Nat → Nat × Nat) (c : UInt8) (h : spB c = true) : ∃ j, j < 3 ∧ repR 0 p c.toNat = sl2 (p j) ∧ newL j = escB c := by
  unfold spB at h
  simp only [Bool.or_eq_true, beq_iff_eq] at h
  rcases h with (rfl | rfl) | rfl
  · exact ⟨0, by decide, rfl, rfl⟩
  · exact ⟨1, by decide, rfl, rfl⟩
  · exact ⟨2, by decide, rfl, rfl⟩
def bsL : List UInt8 := [10, 34, 92]
def cntL (s : List UInt8) (k : Nat) : Nat := ((bsL.take k).map fun b => s.count b).sum
theorem bsrReplace_spec (g2 : Nat) (p : Nat → Nat × Nat) (ta : Option Addr) (tc : Nat) (s : List UInt8) (hl : s.length ≤ 255) (rc : (Nat → Value) → Value → List Value) (hlen : ∀ R t, (rc R t).length = 257) (hat : ∀ R t q, q < 256 → ((rc R t).drop (q * 1)).take 1 = [R q]) (hT : ∀ R t, ((rc R t).drop 256).take 1 = [t]) :
    Does Tryz.prog 278 [.pointer (some ⟨g2, 0, none⟩), .string (mkS s)] [ro (some ⟨g2, 0, none⟩) (rc (repR 0 p) (.slice ta 3 tc)), ro ta (toRep 0), bag (repRows 0 p)] (fun v hp' => v = .string (mkS (escL s)) ∧ hp' = []) := by
  refine fn_enter Tryz.func278 rfl 122 rfl fun w0 h0 => ?_
  refine SQ (RG ?_)
  refine RR [] .z (.i 4 (.string ⟨#[]⟩) .a) .a ?_
  refine RZ (NT (SQ (RG ?_)))
  refine RR [] .z (.i 5 (.int .i64 (↑s.length : Int)) .a) .a ?_
  refine RZ (NT (SQ (RG ?_)))
  refine RR [] .z (.i 6 (.bool false) .a) .a ?_
  refine RZ (NT (SQ (SQ (RG ?_))))
  refine RR [] (.d (.d (.d .a))) (.i 20 (.pointer (some ⟨g2, 256, none⟩)) .a) .a ?_
  refine wpr_eq (ld (t := 22) (a := (⟨g2, 256, none⟩)) (dst := some 21) (by kernel_rfl) false 1 (by kernel_rfl) (by simp) [.slice ta 3 tc] rfl (fun w h => ld_ro h 0 rfl 256 (hT _ _))) ?_
  refine RV true [] .z (.i 26 (.bool (decide ((24 : Int) ≤ (↑s.length : Int)))) (.d (.d (.k .a)))) .a [inI64 ((3 : Int) * (8 : Int))] ⟨by unfold inI64; omega, trivial⟩ ?_
  refine RZ (NT ?_)
  refine wpc_join ⟨[(5, Value.int .i64 ((s.length + spN s : Nat) : Int)), (6, .bool (decide (0 < spN s))), (4, (.string ⟨#[]⟩)), (0, (.pointer (some ⟨g2, 0, none⟩))), (1, (.string (mkS s)))], [ro (some ⟨g2, 0, none⟩) (rc (repR 0 p) (.slice ta 3 tc)), ro ta (toRep 0), bag (repRows 0 p)]⟩ (fun Q1 hQ1 hk => ?_) ?_
  · by_cases h24 : 24 ≤ s.length
    · refine SC 26 (decide ((24 : Int) ≤ (↑s.length : Int))) true (decide_eq_true (by omega)) ?_
      refine CT (SQ (RG ?_))
      refine RR [] (.d (.d (.d .a))) (.i 29 (.pointer (some ⟨g2, 256, none⟩)) (.d (.d (.k .a)))) .a ?_
      refine wpr_eq (ld (t := 22) (a := (⟨g2, 256, none⟩)) (dst := some 30) (by kernel_rfl) false 1 (by kernel_rfl) (by simp) [.slice ta 3 tc] rfl (fun w h => ld_ro h 0 rfl 256 (hT _ _))) ?_
      refine RR [] .z (.i 32 (.int .i64 0) (.i 31 (.int .i64 3) (.i 30 (.slice ta 3 tc) (.d (.d (.k .a)))))) .a ?_
      refine RZ (NT (BK ?_))
      refine wpc_fact (fun w h => ro_addr h 1 rfl (by decide)) ?_
      rintro ⟨gt, ot, rfl⟩
      refine wpc_loop (X := {k : Nat // k ≤ 3}) (fun x => St.mk [(32, .int .i64 (x.1 : Int)), (31, .int .i64 3), (30, .slice (some ⟨gt, ot, none⟩) 3 tc), (6, .bool (decide (0 < cntL s x.1))), (5, .int .i64 ((s.length + cntL s x.1 : Nat) : Int)), (4, .string ⟨#[]⟩), (0, .pointer (some ⟨g2, 0, none⟩)), (1, .string (mkS s))]
        [ro (some { block := g2, off := 0 }) (rc (repR 0 p) (Value.slice (some ⟨gt, ot, none⟩) 3 tc)), ro (some ⟨gt, ot, none⟩) (toRep 0), bag (repRows 0 p)]) (fun x => 3 - x.1) ⟨0, by decide⟩ (ent_fr (by kernel_rfl)) ?_
      rintro ⟨k, hk3⟩
      dsimp only at hk3 ⊢
      rcases (by omega : k = 0 ∨ k = 1 ∨ k = 2 ∨ k = 3) with rfl | rfl | rfl | rfl
      · have hcs : cntL s 1 = cntL s 0 + s.count 10 := by simp [cntL, bsL, Nat.add_assoc]
        have hcl := List.count_le_length (a := 10) (l := s)
        have hsz : (mkS [10]).size = 1 := rfl
        have hcz : cntL s 0 ≤ 0 * 255 := by
          have h1 := List.count_le_length (a := 10) (l := s)
          have h2 := List.count_le_length (a := 34) (l := s)
          simp [cntL, bsL] <;> omega
        refine SQ (RG ?_)
        refine RR [] .z (.i 33 (.bool true) (.i 32 (.int .i64 0) (.d (.k (.k (.i 6 (.bool false) (.d (.k .a)))))))) .a ?_
        refine RZ (NT (SQ (CT (SK (NT (SQ (BK (SQ (RG ?_)))))))))
        refine RV true [] (.d .a) (.i 34 (.pointer (some ⟨gt, ot, none⟩)) (.d (.k .a))) .a [(0 : Int) ≤ (0 : Int) ∧ (0 : Int) < (↑(3 : Nat) : Int)] ⟨by omega, trivial⟩ ?_
        refine wpr_eq (ld (t := 9) (a := (⟨gt, ot, none⟩)) (dst := some 35) (by kernel_rfl) false 1 (by kernel_rfl) (by simp) [.string (mkS [10])] rfl (fun w h => ld_ro h 1 rfl 0 rfl)) ?_
        refine RR [] .z (.i 8 (.string (mkS [10])) (.d (.d (.k .a)))) .a ?_
        refine RZ (NT (SQ (RG ?_)))
        refine RR [] (.d (.d .a)) (.i 37 (.string (mkS [10])) (.i 36 (.string (mkS s)) .a)) .a ?_
        refine RC (dst := some 38) [] .a (Count_spec s 10) ?_
        rintro v _ ⟨rfl, rfl⟩
        by_cases hc : s.count 10 = 0
        · refine RR [] .z (.i 9 (.int .i64 (↑(List.count 10 s) : Int)) (.d (.d (.d (.k .a))))) .a ?_
          refine RZ (NT (SQ (RG ?_)))
          refine RR [] .z (.i 40 (.bool ((↑(List.count (10 : UInt8) s) : Int) != (0 : Int))) .a) .a ?_
          refine RZ (NT ?_)
          refine SC 40 ((↑(List.count (10 : UInt8) s) : Int) != (0 : Int)) false (by simp only [bne_eq_false_iff_eq, beq_eq_false_iff_ne, ne_eq]; omega) ?_
          refine CF (SK (BN (NT (RG ?_))))
          refine RV true [] .z (.i 32 (.int .i64 1) (.d (.d (.d (.d (.d (.k .a))))))) .a ([inI64 ((0 : Int) + (1 : Int))]) ⟨by unfold inI64; omega, trivial⟩ ?_
          refine RZ ?_
          refine nx_ent (ent_set 5 (.int .i64 (↑(s.length + cntL s 0) : Int)) (Value.int .i64 ((s.length + cntL s 1 : Nat) : Int)) (by kernel_rfl) (by simp only [hcs, hc, Nat.add_zero]; first | done | rfl)) ?_
          refine nx_ent (ent_set 6 (.bool false) (.bool (decide (0 < cntL s 1))) (by kernel_rfl) (by simp only [hcs, hc, Nat.add_zero]; first | done | rfl)) ?_
          exact fun a' w' hS' => ⟨⟨1, by decide⟩, by dsimp only; omega, ent_fr (by kernel_rfl) _ _ (ent_hp [0, 0, 0] rfl _ _ hS')⟩
        · refine RR [] .z (.i 9 (.int .i64 (↑(List.count 10 s) : Int)) (.d (.d (.d (.k .a))))) .a ?_
          refine RZ (NT (SQ (RG ?_)))
          refine RR [] .z (.i 40 (.bool ((↑(List.count (10 : UInt8) s) : Int) != (0 : Int))) .a) .a ?_
          refine RZ (NT ?_)
          refine SC 40 ((↑(List.count (10 : UInt8) s) : Int) != (0 : Int)) true (by simp only [bne_iff_ne, beq_iff_eq, ne_eq]; omega) ?_
          refine CT (SQ ?_)
          refine wpc_draw (by kernel_rfl) [ro (some ⟨g2, 0, none⟩) (rc (repR 0 p) (.slice (some ⟨gt, ot, none⟩) 3 tc))] (sub_of [0] (by kernel_rfl)) 14 (by kernel_rfl) ?_
          refine wpa_take true [(0, []), (1, []), (2, []), (3, []), (4, []), (5, []), (6, []), (7, [])] ([(48, .pointer (some ⟨g2, 10, none⟩)), (42, .int .i64 (↑(List.count 10 s) : Int)), (41, .int .i64 (↑(s.length + cntL s 0) : Int)), (32, .int .i64 0), (31, .int .i64 3), (30, .slice (some ⟨gt, ot, none⟩) 3 tc), (6, .bool false), (5, .int .i64 (↑(s.length + cntL s 0) : Int)), (4, .string ⟨#[]⟩), (0, .pointer (some ⟨g2, 0, none⟩)), (1, .string (mkS s))]) (#[true, true, true, true, true, true, true, true, false, false, false, false, false, false]) [(0 : Int) ≤ (0 : Int) ∧ (0 : Int) < (↑[(10 : UInt8)].length : Int), (0 : Int) ≤ (10 : Int) ∧ (10 : Int) < (↑(256 : Nat) : Int)] (n := 6) (by kernel_rfl) (by kernel_rfl) (by kernel_rfl) ⟨by decide, by omega, trivial⟩ ?_
          refine wpa_qld (i := 8) (n := 5) (by kernel_rfl) (by kernel_rfl) (by kernel_rfl) (t := 39) (a := (⟨g2, 10, none⟩)) (dst := some 49) (by kernel_rfl) false 1 (by kernel_rfl) (by simp) [sl2 (p 2)] rfl (fun w h => ld_roL h 0 rfl 10 (hat _ _ 10 (by decide))) ?_
          refine wpa_take true [(9, []), (10, []), (11, []), (12, []), (13, [])] ([(5, .int .i64 ((↑(s.length + cntL s 0) : Int) + (↑(List.count 10 s) : Int) * 1)), (32, .int .i64 0), (31, .int .i64 3), (30, .slice (some ⟨gt, ot, none⟩) 3 tc), (6, .bool false), (4, .string ⟨#[]⟩), (0, .pointer (some ⟨g2, 0, none⟩)), (1, .string (mkS s))]) (#[true, true, true, true, true, true, true, true, true, true, true, true, true, true]) ([inI64 ((2 : Int) - (1 : Int)), inI64 ((↑(List.count (10 : UInt8) s) : Int) * (1 : Int)), inI64 ((↑(s.length + cntL s (0 : Nat)) : Int) + (↑(List.count (10 : UInt8) s) : Int) * (1 : Int))]) (n := 0) (by kernel_rfl) (by kernel_rfl) (by kernel_rfl) ⟨by unfold inI64; omega, by unfold inI64; omega, by unfold inI64; omega, trivial⟩ ?_
          refine wpa_done 0 (by kernel_rfl) ?_
          refine NT (RG ?_)
          refine RR [] .z (.i 6 (.bool true) (.k (.k (.k (.k (.d (.k .a))))))) .a ?_
          refine RZ (BN (NT (RG ?_)))
          refine RV true [] .z (.i 32 (.int .i64 1) (.k (.k (.d (.k .a))))) .a ([inI64 ((0 : Int) + (1 : Int))]) ⟨by unfold inI64; omega, trivial⟩ ?_
          refine RZ ?_
          refine nx_ent (ent_set 5 (.int .i64 ((↑(s.length + cntL s 0) : Int) + (↑(List.count 10 s) : Int) * 1)) (Value.int .i64 ((s.length + cntL s 1 : Nat) : Int)) (by kernel_rfl) (by simp only [hcs]; first | done | rfl | (congr 1; omega))) ?_
          refine nx_ent (ent_set 6 (.bool true) (.bool (decide (0 < cntL s 1))) (by kernel_rfl) (by rw [decide_eq_true (by omega)])) ?_
          exact fun a' w' hS' => ⟨⟨1, by decide⟩, by dsimp only; omega, ent_fr (by kernel_rfl) _ _ (ent_hp [0, 0, 0] rfl _ _ hS')⟩
      · have hcs : cntL s 2 = cntL s 1 + s.count 34 := by simp [cntL, bsL, Nat.add_assoc]
        have hcl := List.count_le_length (a := 34) (l := s)
        have hsz : (mkS [34]).size = 1 := rfl
        have hcz : cntL s 1 ≤ 1 * 255 := by
          have h1 := List.count_le_length (a := 10) (l := s)
          have h2 := List.count_le_length (a := 34) (l := s)
          simp [cntL, bsL] <;> omega
        refine SQ (RG ?_)
        refine RR [] .z (.i 33 (.bool true) (.i 32 (.int .i64 1) (.d (.k .a)))) .a ?_
        refine RZ (NT (SQ (CT (SK (NT (SQ (BK (SQ (RG ?_)))))))))
        refine RV true [] (.d .a) (.i 34 (.pointer (some ⟨gt, ot + 1, none⟩)) (.d (.k .a))) .a [(0 : Int) ≤ (1 : Int) ∧ (1 : Int) < (↑(3 : Nat) : Int)] ⟨by omega, trivial⟩ ?_
        refine wpr_eq (ld (t := 9) (a := (⟨gt, ot + 1, none⟩)) (dst := some 35) (by kernel_rfl) false 1 (by kernel_rfl) (by simp) [.string (mkS [34])] rfl (fun w h => ld_ro h 1 rfl 1 rfl)) ?_
        refine RR [] .z (.i 8 (.string (mkS [34])) (.d (.d (.k .a)))) .a ?_
        refine RZ (NT (SQ (RG ?_)))
        refine RR [] (.d (.d .a)) (.i 37 (.string (mkS [34])) (.i 36 (.string (mkS s)) .a)) .a ?_
        refine RC (dst := some 38) [] .a (Count_spec s 34) ?_
        rintro v _ ⟨rfl, rfl⟩
        by_cases hc : s.count 34 = 0
        · refine RR [] .z (.i 9 (.int .i64 (↑(List.count 34 s) : Int)) (.d (.d (.d (.k .a))))) .a ?_
          refine RZ (NT (SQ (RG ?_)))
          refine RR [] .z (.i 40 (.bool ((↑(List.count (34 : UInt8) s) : Int) != (0 : Int))) .a) .a ?_
          refine RZ (NT ?_)
          refine SC 40 ((↑(List.count (34 : UInt8) s) : Int) != (0 : Int)) false (by simp only [bne_eq_false_iff_eq, beq_eq_false_iff_ne, ne_eq]; omega) ?_
          refine CF (SK (BN (NT (RG ?_))))
          refine RV true [] .z (.i 32 (.int .i64 2) (.d (.d (.d (.d (.d (.k .a))))))) .a ([inI64 ((1 : Int) + (1 : Int))]) ⟨by unfold inI64; omega, trivial⟩ ?_
          refine RZ ?_
          refine nx_ent (ent_set 5 (.int .i64 (↑(s.length + cntL s 1) : Int)) (Value.int .i64 ((s.length + cntL s 2 : Nat) : Int)) (by kernel_rfl) (by simp only [hcs, hc, Nat.add_zero]; first | done | rfl)) ?_
          refine nx_ent (ent_set 6 (.bool (decide (0 < cntL s 1))) (.bool (decide (0 < cntL s 2))) (by kernel_rfl) (by simp only [hcs, hc, Nat.add_zero]; first | done | rfl)) ?_
          exact fun a' w' hS' => ⟨⟨2, by decide⟩, by dsimp only; omega, ent_fr (by kernel_rfl) _ _ (ent_hp [0, 0, 0] rfl _ _ hS')⟩
        · refine RR [] .z (.i 9 (.int .i64 (↑(List.count 34 s) : Int)) (.d (.d (.d (.k .a))))) .a ?_
          refine RZ (NT (SQ (RG ?_)))
          refine RR [] .z (.i 40 (.bool ((↑(List.count (34 : UInt8) s) : Int) != (0 : Int))) .a) .a ?_
          refine RZ (NT ?_)
          refine SC 40 ((↑(List.count (34 : UInt8) s) : Int) != (0 : Int)) true (by simp only [bne_iff_ne, beq_iff_eq, ne_eq]; omega) ?_
          refine CT (SQ ?_)
          refine wpc_draw (by kernel_rfl) [ro (some ⟨g2, 0, none⟩) (rc (repR 0 p) (.slice (some ⟨gt, ot, none⟩) 3 tc))] (sub_of [0] (by kernel_rfl)) 14 (by kernel_rfl) ?_
          refine wpa_take true [(0, []), (1, []), (2, []), (3, []), (4, []), (5, []), (6, []), (7, [])] ([(48, .pointer (some ⟨g2, 34, none⟩)), (42, .int .i64 (↑(List.count 34 s) : Int)), (41, .int .i64 (↑(s.length + cntL s 1) : Int)), (32, .int .i64 1), (31, .int .i64 3), (30, .slice (some ⟨gt, ot, none⟩) 3 tc), (6, .bool (decide (0 < cntL s 1))), (5, .int .i64 (↑(s.length + cntL s 1) : Int)), (4, .string ⟨#[]⟩), (0, .pointer (some ⟨g2, 0, none⟩)), (1, .string (mkS s))]) (#[true, true, true, true, true, true, true, true, false, false, false, false, false, false]) [(0 : Int) ≤ (0 : Int) ∧ (0 : Int) < (↑[(34 : UInt8)].length : Int), (0 : Int) ≤ (34 : Int) ∧ (34 : Int) < (↑(256 : Nat) : Int)] (n := 6) (by kernel_rfl) (by kernel_rfl) (by kernel_rfl) ⟨by decide, by omega, trivial⟩ ?_
          refine wpa_qld (i := 8) (n := 5) (by kernel_rfl) (by kernel_rfl) (by kernel_rfl) (t := 39) (a := (⟨g2, 34, none⟩)) (dst := some 49) (by kernel_rfl) false 1 (by kernel_rfl) (by simp) [sl2 (p 1)] rfl (fun w h => ld_roL h 0 rfl 34 (hat _ _ 34 (by decide))) ?_
          refine wpa_take true [(9, []), (10, []), (11, []), (12, []), (13, [])] ([(5, .int .i64 ((↑(s.length + cntL s 1) : Int) + (↑(List.count 34 s) : Int) * 1)), (32, .int .i64 1), (31, .int .i64 3), (30, .slice (some ⟨gt, ot, none⟩) 3 tc), (6, .bool (decide (0 < cntL s 1))), (4, .string ⟨#[]⟩), (0, .pointer (some ⟨g2, 0, none⟩)), (1, .string (mkS s))]) (#[true, true, true, true, true, true, true, true, true, true, true, true, true, true]) ([inI64 ((2 : Int) - (1 : Int)), inI64 ((↑(List.count (34 : UInt8) s) : Int) * (1 : Int)), inI64 ((↑(s.length + cntL s (1 : Nat)) : Int) + (↑(List.count (34 : UInt8) s) : Int) * (1 : Int))]) (n := 0) (by kernel_rfl) (by kernel_rfl) (by kernel_rfl) ⟨by unfold inI64; omega, by unfold inI64; omega, by unfold inI64; omega, trivial⟩ ?_
          refine wpa_done 0 (by kernel_rfl) ?_
          refine NT (RG ?_)
          refine RR [] .z (.i 6 (.bool true) (.k (.k (.k (.k (.d (.k .a))))))) .a ?_
          refine RZ (BN (NT (RG ?_)))
          refine RV true [] .z (.i 32 (.int .i64 2) (.k (.k (.d (.k .a))))) .a ([inI64 ((1 : Int) + (1 : Int))]) ⟨by unfold inI64; omega, trivial⟩ ?_
          refine RZ ?_
          refine nx_ent (ent_set 5 (.int .i64 ((↑(s.length + cntL s 1) : Int) + (↑(List.count 34 s) : Int) * 1)) (Value.int .i64 ((s.length + cntL s 2 : Nat) : Int)) (by kernel_rfl) (by simp only [hcs]; first | done | rfl | (congr 1; omega))) ?_
          refine nx_ent (ent_set 6 (.bool true) (.bool (decide (0 < cntL s 2))) (by kernel_rfl) (by rw [decide_eq_true (by omega)])) ?_
          exact fun a' w' hS' => ⟨⟨2, by decide⟩, by dsimp only; omega, ent_fr (by kernel_rfl) _ _ (ent_hp [0, 0, 0] rfl _ _ hS')⟩
      · have hcs : cntL s 3 = cntL s 2 + s.count 92 := by simp [cntL, bsL, Nat.add_assoc]
        have hcl := List.count_le_length (a := 92) (l := s)
        have hsz : (mkS [92]).size = 1 := rfl
        have hcz : cntL s 2 ≤ 2 * 255 := by
          have h1 := List.count_le_length (a := 10) (l := s)
          have h2 := List.count_le_length (a := 34) (l := s)
          simp [cntL, bsL] <;> omega
        refine SQ (RG ?_)
        refine RR [] .z (.i 33 (.bool true) (.i 32 (.int .i64 2) (.d (.k .a)))) .a ?_
        refine RZ (NT (SQ (CT (SK (NT (SQ (BK (SQ (RG ?_)))))))))
        refine RV true [] (.d .a) (.i 34 (.pointer (some ⟨gt, ot + 2, none⟩)) (.d (.k .a))) .a [(0 : Int) ≤ (2 : Int) ∧ (2 : Int) < (↑(3 : Nat) : Int)] ⟨by omega, trivial⟩ ?_
        refine wpr_eq (ld (t := 9) (a := (⟨gt, ot + 2, none⟩)) (dst := some 35) (by kernel_rfl) false 1 (by kernel_rfl) (by simp) [.string (mkS [92])] rfl (fun w h => ld_ro h 1 rfl 2 rfl)) ?_
        refine RR [] .z (.i 8 (.string (mkS [92])) (.d (.d (.k .a)))) .a ?_
        refine RZ (NT (SQ (RG ?_)))
        refine RR [] (.d (.d .a)) (.i 37 (.string (mkS [92])) (.i 36 (.string (mkS s)) .a)) .a ?_
        refine RC (dst := some 38) [] .a (Count_spec s 92) ?_
        rintro v _ ⟨rfl, rfl⟩
        by_cases hc : s.count 92 = 0
        · refine RR [] .z (.i 9 (.int .i64 (↑(List.count 92 s) : Int)) (.d (.d (.d (.k .a))))) .a ?_
          refine RZ (NT (SQ (RG ?_)))
          refine RR [] .z (.i 40 (.bool ((↑(List.count (92 : UInt8) s) : Int) != (0 : Int))) .a) .a ?_
          refine RZ (NT ?_)
          refine SC 40 ((↑(List.count (92 : UInt8) s) : Int) != (0 : Int)) false (by simp only [bne_eq_false_iff_eq, beq_eq_false_iff_ne, ne_eq]; omega) ?_
          refine CF (SK (BN (NT (RG ?_))))
          refine RV true [] .z (.i 32 (.int .i64 3) (.d (.d (.d (.d (.d (.k .a))))))) .a ([inI64 ((2 : Int) + (1 : Int))]) ⟨by unfold inI64; omega, trivial⟩ ?_
          refine RZ ?_
          refine nx_ent (ent_set 5 (.int .i64 (↑(s.length + cntL s 2) : Int)) (Value.int .i64 ((s.length + cntL s 3 : Nat) : Int)) (by kernel_rfl) (by simp only [hcs, hc, Nat.add_zero]; first | done | rfl)) ?_
          refine nx_ent (ent_set 6 (.bool (decide (0 < cntL s 2))) (.bool (decide (0 < cntL s 3))) (by kernel_rfl) (by simp only [hcs, hc, Nat.add_zero]; first | done | rfl)) ?_
          exact fun a' w' hS' => ⟨⟨3, by decide⟩, by dsimp only; omega, ent_fr (by kernel_rfl) _ _ (ent_hp [0, 0, 0] rfl _ _ hS')⟩
        · refine RR [] .z (.i 9 (.int .i64 (↑(List.count 92 s) : Int)) (.d (.d (.d (.k .a))))) .a ?_
          refine RZ (NT (SQ (RG ?_)))
          refine RR [] .z (.i 40 (.bool ((↑(List.count (92 : UInt8) s) : Int) != (0 : Int))) .a) .a ?_
          refine RZ (NT ?_)
          refine SC 40 ((↑(List.count (92 : UInt8) s) : Int) != (0 : Int)) true (by simp only [bne_iff_ne, beq_iff_eq, ne_eq]; omega) ?_
          refine CT (SQ ?_)
          refine wpc_draw (by kernel_rfl) [ro (some ⟨g2, 0, none⟩) (rc (repR 0 p) (.slice (some ⟨gt, ot, none⟩) 3 tc))] (sub_of [0] (by kernel_rfl)) 14 (by kernel_rfl) ?_
          refine wpa_take true [(0, []), (1, []), (2, []), (3, []), (4, []), (5, []), (6, []), (7, [])] ([(48, .pointer (some ⟨g2, 92, none⟩)), (42, .int .i64 (↑(List.count 92 s) : Int)), (41, .int .i64 (↑(s.length + cntL s 2) : Int)), (32, .int .i64 2), (31, .int .i64 3), (30, .slice (some ⟨gt, ot, none⟩) 3 tc), (6, .bool (decide (0 < cntL s 2))), (5, .int .i64 (↑(s.length + cntL s 2) : Int)), (4, .string ⟨#[]⟩), (0, .pointer (some ⟨g2, 0, none⟩)), (1, .string (mkS s))]) (#[true, true, true, true, true, true, true, true, false, false, false, false, false, false]) [(0 : Int) ≤ (0 : Int) ∧ (0 : Int) < (↑[(92 : UInt8)].length : Int), (0 : Int) ≤ (92 : Int) ∧ (92 : Int) < (↑(256 : Nat) : Int)] (n := 6) (by kernel_rfl) (by kernel_rfl) (by kernel_rfl) ⟨by decide, by omega, trivial⟩ ?_
          refine wpa_qld (i := 8) (n := 5) (by kernel_rfl) (by kernel_rfl) (by kernel_rfl) (t := 39) (a := (⟨g2, 92, none⟩)) (dst := some 49) (by kernel_rfl) false 1 (by kernel_rfl) (by simp) [sl2 (p 0)] rfl (fun w h => ld_roL h 0 rfl 92 (hat _ _ 92 (by decide))) ?_
          refine wpa_take true [(9, []), (10, []), (11, []), (12, []), (13, [])] ([(5, .int .i64 ((↑(s.length + cntL s 2) : Int) + (↑(List.count 92 s) : Int) * 1)), (32, .int .i64 2), (31, .int .i64 3), (30, .slice (some ⟨gt, ot, none⟩) 3 tc), (6, .bool (decide (0 < cntL s 2))), (4, .string ⟨#[]⟩), (0, .pointer (some ⟨g2, 0, none⟩)), (1, .string (mkS s))]) (#[true, true, true, true, true, true, true, true, true, true, true, true, true, true]) ([inI64 ((2 : Int) - (1 : Int)), inI64 ((↑(List.count (92 : UInt8) s) : Int) * (1 : Int)), inI64 ((↑(s.length + cntL s (2 : Nat)) : Int) + (↑(List.count (92 : UInt8) s) : Int) * (1 : Int))]) (n := 0) (by kernel_rfl) (by kernel_rfl) (by kernel_rfl) ⟨by unfold inI64; omega, by unfold inI64; omega, by unfold inI64; omega, trivial⟩ ?_
          refine wpa_done 0 (by kernel_rfl) ?_
          refine NT (RG ?_)
          refine RR [] .z (.i 6 (.bool true) (.k (.k (.k (.k (.d (.k .a))))))) .a ?_
          refine RZ (BN (NT (RG ?_)))
          refine RV true [] .z (.i 32 (.int .i64 3) (.k (.k (.d (.k .a))))) .a ([inI64 ((2 : Int) + (1 : Int))]) ⟨by unfold inI64; omega, trivial⟩ ?_
          refine RZ ?_
          refine nx_ent (ent_set 5 (.int .i64 ((↑(s.length + cntL s 2) : Int) + (↑(List.count 92 s) : Int) * 1)) (Value.int .i64 ((s.length + cntL s 3 : Nat) : Int)) (by kernel_rfl) (by simp only [hcs]; first | done | rfl | (congr 1; omega))) ?_
          refine nx_ent (ent_set 6 (.bool true) (.bool (decide (0 < cntL s 3))) (by kernel_rfl) (by rw [decide_eq_true (by omega)])) ?_
          exact fun a' w' hS' => ⟨⟨3, by decide⟩, by dsimp only; omega, ent_fr (by kernel_rfl) _ _ (ent_hp [0, 0, 0] rfl _ _ hS')⟩
      · have hcs : cntL s 3 = spN s := by rw [spN_count, Nat.add_assoc]; show s.count 10 + (s.count 34 + (s.count 92 + 0)) = _; rfl
        refine SQ (RG ?_)
        refine RR [] .z (.i 33 (.bool false) (.i 32 (.int .i64 3) (.d (.k .a)))) .a ?_
        refine RZ (NT (SQ (CF (EX (TE (TE (BH ?_)))))))
        rw [hcs]
        exact nx_ent (ent_fr (by kernel_rfl)) hk
    --PATHB
    · refine SC 26 (decide ((24 : Int) ≤ (↑s.length : Int))) false (decide_eq_false (by omega)) ?_
      refine CF (SQ (RG ?_))
      refine RR [] .z (.i 10 (.int .i64 0) (.d (.d (.k .a)))) .a ?_
      refine RZ (NT (BK ?_))
      refine wpc_loop (X := {i : Nat // i ≤ s.length}) (fun x => St.mk [(10, .int .i64 (x.1 : Int)), (6, .bool (decide (0 < spN (s.take x.1)))), (5, .int .i64 ((s.length + spN (s.take x.1) : Nat) : Int)), (4, .string ⟨#[]⟩), (0, .pointer (some ⟨g2, 0, none⟩)), (1, .string (mkS s))]
        [ro (some { block := g2, off := 0 }) (rc (repR 0 p) (Value.slice ta 3 tc)), ro ta (toRep 0), bag (repRows 0 p)]) (fun x => s.length - x.1) ⟨0, Nat.zero_le _⟩ (ent_fr (by kernel_rfl)) ?_
      rintro ⟨i, hi⟩
      dsimp only at hi ⊢
      have hsl : spN (s.take i) ≤ 255 := by
        have h1 : spN (s.take i) ≤ (s.take i).length := List.countP_le_length
        rw [List.length_take] at h1; omega
      by_cases hlt : i < s.length
      · have hstep : spN (s.take (i + 1)) = spN (s.take i) + if spB s[i] then 1 else 0 := by
          unfold spN
          rw [← List.take_append_getElem hlt, List.countP_append, List.countP_singleton]
        have hbt : bt (mkS s) (i : Int) = (s[i].toNat : Int) := bt_at hlt
        have hc256 := (s[i]).toNat_lt
        refine SQ (SQ (RG ?_))
        refine RR [] .z (.i 58 (.bool (decide ((↑i : Int) < (↑s.length : Int)))) .a) .a ?_
        refine RZ (NT ?_)
        refine SC 58 (decide ((↑i : Int) < (↑s.length : Int))) true (decide_eq_true (by omega)) ?_
        refine CT (SK (NT (SQ (BK (SQ (RG ?_))))))
        refine RV true [] .z (.i 11 (.int .u8 (bt (mkS s) (↑i : Int))) (.d (.d (.k .a)))) .a [(0 : Int) ≤ (↑i : Int) ∧ (↑i : Int) < (↑s.length : Int)] ⟨by omega, trivial⟩ ?_
        refine RZ (NT (SQ (RG ?_)))
        refine RV true [] (.d (.d (.d (.d (.d .a))))) (.i 68 (.pointer (some ⟨g2, 0 + Int.toNat (bt (mkS s) (↑i : Int)) * 1, none⟩)) .a) .a [(0 : Int) ≤ bt (mkS s) (↑i : Int) ∧ bt (mkS s) (↑i : Int) < (↑(256 : Nat) : Int)] ⟨by omega, trivial⟩ ?_
        rw [hbt, Int.toNat_natCast]
        cases hsp : spB s[i] with
        | false =>
          rw [hsp] at hstep
          refine wpr_eq (ld (t := 39) (a := (⟨g2, 0 + s[i].toNat * 1, none⟩)) (dst := some 69) (by kernel_rfl) false 1 (by kernel_rfl) (by simp) [.slice none 0 0] rfl (fun w h => ld_ro h 0 rfl (s[i].toNat * 1) ((hat _ _ _ hc256).trans (by rw [repR_sp p _ hsp])))) ?_
          refine RR [] .z (.i 70 (.bool false) (.d (.d (.k .a)))) .a ?_
          refine RZ (NT (CF (SK (BN (NT (RG ?_))))))
          refine RV true [] .z (.i 10 (.int .i64 ((↑i : Int) + 1)) (.d (.d (.d (.k .a))))) .a ([inI64 ((↑i : Int) + (1 : Int))]) ⟨by unfold inI64; omega, trivial⟩ ?_
          refine RZ ?_
          refine nx_ent (ent_set 5 (.int .i64 (↑(s.length + spN (List.take i s)) : Int)) (Value.int .i64 ((s.length + spN (s.take (i + 1)) : Nat) : Int)) (by kernel_rfl) (by rw [hstep]; first | done | rfl)) ?_
          refine nx_ent (ent_set 6 (.bool (decide (0 < spN (List.take i s)))) (.bool (decide (0 < spN (s.take (i + 1))))) (by kernel_rfl) (by rw [hstep]; first | done | rfl)) ?_
          exact fun a' w' hS' => ⟨⟨i + 1, hlt⟩, by dsimp only; omega, ent_fr (by kernel_rfl) _ _ (ent_hp [0, 0, 0] rfl _ _ hS')⟩
        | true =>
          rw [hsp] at hstep
          obtain ⟨j, hj, hR, hnew⟩ := repR_is p s[i] hsp
          refine wpr_eq (ld (t := 39) (a := (⟨g2, 0 + s[i].toNat * 1, none⟩)) (dst := some 69) (by kernel_rfl) false 1 (by kernel_rfl) (by simp) [sl2 (p j)] rfl (fun w h => ld_ro h 0 rfl (s[i].toNat * 1) ((hat _ _ _ hc256).trans (by rw [hR])))) ?_
          refine RR [] .z (.i 70 (.bool true) (.d (.d (.k .a)))) .a ?_
          refine RZ (NT (CT (SQ (RG ?_))))
          refine RV true [] (.d (.d (.d (.d (.d (.d .a)))))) (.i 76 (.pointer (some ⟨g2, 0 + s[i].toNat * 1, none⟩)) (.i 71 (.int .i64 (↑(s.length + spN (List.take i s)) : Int)) (.d (.d (.k .a))))) .a [(0 : Int) ≤ (↑s[i].toNat : Int) ∧ (↑s[i].toNat : Int) < (↑(256 : Nat) : Int)] ⟨by omega, trivial⟩ ?_
          refine wpr_eq (ld (t := 39) (a := (⟨g2, 0 + s[i].toNat * 1, none⟩)) (dst := some 77) (by kernel_rfl) false 1 (by kernel_rfl) (by simp) [sl2 (p j)] rfl (fun w h => ld_ro h 0 rfl (s[i].toNat * 1) ((hat _ _ _ hc256).trans (by rw [hR])))) ?_
          refine RV true [] .z (.i 5 (.int .i64 ((↑(s.length + spN (List.take i s)) : Int) + 1)) (.d (.d (.d (.k (.k (.d (.k .a)))))))) .a ([inI64 ((2 : Int) - (1 : Int)), inI64 ((↑(s.length + spN (List.take i s)) : Int) + (1 : Int))]) ⟨by unfold inI64; omega, by unfold inI64; omega, trivial⟩ ?_
          refine RZ (NT (RG ?_))
          refine RR [] .z (.i 6 (.bool true) (.k (.k (.d (.k .a))))) .a ?_
          refine RZ (BN (NT (RG ?_)))
          refine RV true [] .z (.i 10 (.int .i64 ((↑i : Int) + 1)) (.k (.k (.d (.k .a))))) .a ([inI64 ((↑i : Int) + (1 : Int))]) ⟨by unfold inI64; omega, trivial⟩ ?_
          refine RZ ?_
          refine nx_ent (ent_set 5 (.int .i64 ((↑(s.length + spN (List.take i s)) : Int) + 1)) (Value.int .i64 ((s.length + spN (s.take (i + 1)) : Nat) : Int)) (by kernel_rfl) (by rw [hstep, if_pos rfl]; first | rfl | (congr 1; omega))) ?_
          refine nx_ent (ent_set 6 (.bool true) (.bool (decide (0 < spN (s.take (i + 1))))) (by kernel_rfl) (by rw [hstep, if_pos rfl, decide_eq_true (by omega)])) ?_
          exact fun a' w' hS' => ⟨⟨i + 1, hlt⟩, by dsimp only; omega, ent_fr (by kernel_rfl) _ _ (ent_hp [0, 0, 0] rfl _ _ hS')⟩
      · obtain rfl : i = s.length := by omega
        rw [List.take_length]
        refine SQ (SQ (RG ?_))
        refine RR [] .z (.i 58 (.bool (decide ((↑s.length : Int) < (↑s.length : Int)))) .a) .a ?_
        refine RZ (NT ?_)
        refine SC 58 (decide ((↑s.length : Int) < (↑s.length : Int))) false (by simp) ?_
        refine CF (EX (TE (TE (BH ?_))))
        exact nx_ent (ent_fr (by kernel_rfl)) hk
  have hsl : spN s ≤ s.length := List.countP_le_length
  refine NT (SQ (SQ (RG ?_)))
  refine RR [] .z (.i 82 (.bool !decide ((0 : Nat) < spN s)) (.k (.d (.k .a)))) .a ?_
  refine RZ (NT ?_)
  by_cases h0 : spN s = 0
  · refine SC 82 (!decide ((0 : Nat) < spN s)) true (by simp [h0]) ?_
    refine CT (SQ (RG ?_))
    refine RR [] .z (.i 4 (.string (mkS s)) (.d (.d (.k (.d (.k .a)))))) .a ?_
    refine RZ (NT (RE (TR ?_)))
    refine NE [] .z .a [] (.string (mkS s)) ?_
    exact ⟨by rw [escL_same h0], rfl⟩
  · refine SC 82 (!decide ((0 : Nat) < spN s)) false (by simp; omega) ?_
    refine CF (SK (NT (SQ (RG ?_))))
    refine RR [] (.d .a) (.i 84 (.int .i64 (↑(s.length + spN s) : Int)) (.d (.d (.d (.k .a))))) .a ?_
    refine wpr_make (m := s.length + spN s) (t := 39) (dst := some 85) (by kernel_rfl) (e := 5) (sz := 1) (bytes := 1) (by kernel_rfl) (by omega) (by omega) ?_
    intro gb zs hzs
    refine RR [] .z (.i 12 (.slice (some ⟨gb, 0, none⟩) (s.length + spN s) (s.length + spN s)) (.d (.d (.k .a)))) .a ?_
    refine RZ (NT (SQ (RG ?_)))
    refine RR [] .z (.i 13 (.int .i64 0) .a) .a ?_
    refine RZ (NT (SQ (SQ (RG ?_))))
    refine RR [] .z (.i 14 (.int .i64 0) .a) .a ?_
    refine RZ (NT (BK ?_))
    obtain ⟨N, hN⟩ : ∃ N, N = s.length + spN s := ⟨_, rfl⟩
    have hNl : (escL s).length = N := by rw [escL_len, hN]
    rw [← hN] at hzs ⊢
    have hEs : ∀ i, (hi : i < s.length) → escL (s.take (i + 1)) = escL (s.take i) ++ escB s[i] := fun i hi => by
      unfold escL; rw [← List.take_append_getElem hi, List.flatMap_append]; simp
    have hEl : ∀ i, (escL (s.take i)).length ≤ N := fun i => by
      have h : escL s = escL (s.take i) ++ escL (s.drop i) := by unfold escL; rw [← List.flatMap_append, List.take_append_drop]
      rw [← hNl, h, List.length_append]; omega
    refine wpc_loop (X := {x : Nat × List Value // x.1 ≤ s.length ∧ x.2.length + (escL (s.take x.1)).length = N}) (fun x => St.mk [(14, .int .i64 (x.1.1 : Int)), (13, .int .i64 ((escL (s.take x.1.1)).length : Int)), (12, .slice (some ⟨gb, 0, none⟩) N N), (4, .string ⟨#[]⟩), (0, .pointer (some ⟨g2, 0, none⟩)), (1, .string (mkS s))]
      [ro (some { block := g2, off := 0 }) (rc (repR 0 p) (Value.slice ta 3 tc)), bag (repRows 0 p), row 5 1 (some { block := gb, off := 0 }) N N (u8s (escL (s.take x.1.1)) ++ x.1.2)]) (fun x => s.length - x.1.1) ⟨(0, zs), Nat.zero_le _, by simp [escL]; omega⟩ (Ent.trans (ent_hp [0, 1, 1] rfl) (ent_fr (by kernel_rfl))) ?_
    rintro ⟨⟨i, ys⟩, hi, hys⟩
    dsimp only at hi hys ⊢
    by_cases hlt : i < s.length
    · have hbt : bt (mkS s) (i : Int) = (s[i].toNat : Int) := bt_at hlt
      have hc256 := (s[i]).toNat_lt
      have hE1 := hEs i hlt
      have hE2 := hEl (i + 1)
      have hB := escB_len s[i]
      rw [hE1, List.length_append, hB] at hE2
      obtain ⟨E, hE⟩ : ∃ E, E = escL (s.take i) := ⟨_, rfl⟩
      rw [← hE] at hys hE1 hE2 ⊢
      refine SQ (SQ (RG ?_))
      refine RR [] .z (.i 89 (.bool (decide ((↑i : Int) < (↑s.length : Int)))) .a) .a ?_
      refine RZ (NT ?_)
      refine SC 89 (decide ((↑i : Int) < (↑s.length : Int))) true (decide_eq_true (by omega)) ?_
      refine CT (SK (NT (SQ (BK (SQ (RG ?_))))))
      refine RV true [] .z (.i 15 (.int .u8 (bt (mkS s) (↑i : Int))) (.d (.d (.k .a)))) .a [(0 : Int) ≤ (↑i : Int) ∧ (↑i : Int) < (↑s.length : Int)] ⟨by omega, trivial⟩ ?_
      refine RZ (NT (SQ (RG ?_)))
      refine RV true [] (.d (.d (.d (.d (.d .a))))) (.i 99 (.pointer (some ⟨g2, 0 + Int.toNat (bt (mkS s) (↑i : Int)) * 1, none⟩)) .a) .a [(0 : Int) ≤ bt (mkS s) (↑i : Int) ∧ bt (mkS s) (↑i : Int) < (↑(256 : Nat) : Int)] ⟨by omega, trivial⟩ ?_
      rw [hbt, Int.toNat_natCast]
      cases hsp : spB s[i] with
      | false =>
        rw [hsp] at hE2 hB
        simp only [Bool.false_eq_true, if_false] at hE2 hB
        have hBe : escB s[i] = [s[i]] := by
          unfold spB at hsp
          simp only [Bool.or_eq_false_iff, beq_eq_false_iff_ne, ne_eq] at hsp
          simp [escB, hsp.1.1, hsp.1.2, hsp.2]
        refine wpr_eq (ld (t := 39) (a := (⟨g2, 0 + s[i].toNat * 1, none⟩)) (dst := some 100) (by kernel_rfl) false 1 (by kernel_rfl) (by simp) [.slice none 0 0] rfl (fun w h => ld_ro h 0 rfl (s[i].toNat * 1) ((hat _ _ _ hc256).trans (by rw [repR_sp p _ hsp])))) ?_
        refine RR [] .z (.i 101 (.bool false) (.d (.d (.k .a)))) .a ?_
        refine RZ (NT (CF (SQ (RG ?_))))
        refine RV true [] (.d (.d (.d (.d .a)))) (.i 117 (.pointer (some ⟨gb, 0 + E.length * 1, none⟩)) (.i 116 (.int .u8 (↑s[i].toNat : Int)) (.d (.d (.k .a))))) .a [(0 : Int) ≤ (↑E.length : Int) ∧ (↑E.length : Int) < (↑N : Int)] ⟨by omega, trivial⟩ ?_
        have hE3 : (escL (s.take (i + 1))).length = E.length + 1 := by rw [hE1, List.length_append, hB]
        refine wpr_eq (stq' (t := 5) (g := gb) (off := 0) (q := (E.length * 1)) (v := (.int .u8 (↑s[i].toNat : Int))) (dst := none) (by kernel_rfl) 2 (T := 5) (sz := 1) (n := N) (cap := N) (xs := (u8s E ++ ys)) (by kernel_rfl) [.int .u8 (s[i].toNat : Int)] (by kernel_rfl) (by kernel_rfl) (by simp [Go.Sx.One, Value.oneCell']) (by rw [List.length_append, u8s_len]; simp; omega) (xs' := (u8s (escL (s.take (i + 1))) ++ ys.drop 1)) (by
                  rw [hE1, hBe, Nat.mul_one]
                  rw [List.take_left' (u8s_len E), ← List.drop_drop, List.drop_left' (u8s_len E)]
                  simp [u8s])) ?_
        refine RZ (NT (RG ?_))
        refine RV true [] .z (.i 13 (.int .i64 ((↑E.length : Int) + 1)) (.d (.d (.k (.d (.k .a)))))) .a ([inI64 ((↑E.length : Int) + (1 : Int))]) ⟨by unfold inI64; omega, trivial⟩ ?_
        refine RZ (BN (NT (RG ?_)))
        refine RV true [] .z (.i 14 (.int .i64 ((↑i : Int) + 1)) (.k (.d (.k .a)))) .a ([inI64 ((↑i : Int) + (1 : Int))]) ⟨by unfold inI64; omega, trivial⟩ ?_
        refine RZ ?_
        refine nx_ent (ent_set 13 (.int .i64 ((↑E.length : Int) + 1)) (Value.int .i64 ((escL (s.take (i + 1))).length : Int)) (by kernel_rfl) (by rw [hE3]; rfl)) ?_
        exact fun a' w' hS' => ⟨⟨(i + 1, ys.drop 1), hlt, by rw [List.length_drop, hE3]; omega⟩, by dsimp only; omega, ent_fr (by kernel_rfl) _ _ (ent_hp [0, 0, 0] rfl _ _ hS')⟩
      | true =>
        rw [hsp, if_pos rfl] at hE2 hB
        obtain ⟨j, hj, hR, hnew⟩ := repR_is p s[i] hsp
        have hmem : repRow p j ∈ repRows 0 p := by
          rcases (by omega : j = 0 ∨ j = 1 ∨ j = 2) with rfl | rfl | rfl <;> simp [repRows]
        refine wpr_eq (ld (t := 39) (a := (⟨g2, 0 + s[i].toNat * 1, none⟩)) (dst := some 100) (by kernel_rfl) false 1 (by kernel_rfl) (by simp) [sl2 (p j)] rfl (fun w h => ld_ro h 0 rfl (s[i].toNat * 1) ((hat _ _ _ hc256).trans (by rw [hR])))) ?_
        refine RR [] .z (.i 101 (.bool true) (.d (.d (.k .a)))) .a ?_
        refine RZ (NT (CT ?_))
        refine wpc_ent (ent_copy 1 (ro (some ⟨(p j).1, 0, none⟩) (u8s (newL j))) rfl (fun h => h) (view_in hmem view_row)) ?_
        refine wpc_draw (by kernel_rfl) [ro (some ⟨(p j).fst, 0, none⟩) (u8s (newL j)), ro (some ⟨g2, 0, none⟩) (rc (repR 0 p) (.slice ta 3 tc))] (sub_of [0, 1] (by kernel_rfl)) 13 (by kernel_rfl) ?_
        refine wpa_take true [(0, []), (1, []), (2, []), (3, []), (4, []), (5, []), (6, []), (7, []), (8, [])] ([(110, .pointer (some ⟨g2, 0 + UInt8.toNat s[i] * 1, none⟩)), (105, .slice (some ⟨gb, sOff 0 (↑(List.length E) : Int) (↑N : Int) 1, none⟩) (Int.toNat ((↑N : Int) - (↑(List.length E) : Int))) (Int.toNat ((↑N : Int) - (↑(List.length E) : Int)))), (102, .int .i64 (↑(List.length E) : Int)), (14, .int .i64 (↑i : Int)), (13, .int .i64 (↑(List.length E) : Int)), (12, .slice (some ⟨gb, 0, none⟩) N N), (4, .string ⟨#[]⟩), (0, .pointer (some ⟨g2, 0, none⟩)), (1, .string (mkS s))]) (#[true, true, true, true, true, true, true, true, true, false, false, false, false]) [(0 : Int) ≤ (↑E.length : Int) ∧ (↑E.length : Int) ≤ (↑N : Int), (0 : Int) ≤ (↑s[i].toNat : Int) ∧ (↑s[i].toNat : Int) < (↑(256 : Nat) : Int)] (n := 4) (by kernel_rfl) (by kernel_rfl) (by kernel_rfl) ⟨by omega, by omega, trivial⟩ ?_
        refine wpa_qld (i := 9) (n := 3) (by kernel_rfl) (by kernel_rfl) (by kernel_rfl) (t := 39) (a := (⟨g2, 0 + s[i].toNat * 1, none⟩)) (dst := some 111) (by kernel_rfl) false 1 (by kernel_rfl) (by simp) [sl2 (p j)] rfl (fun w h => ld_roL h 1 rfl (s[i].toNat * 1) ((hat _ _ _ hc256).trans (by rw [hR]))) ?_
        have hnl : (newL j).length = 2 := by rw [hnew]; exact hB
        refine wpa_ent (ent_set 105 (.slice (some ⟨gb, sOff 0 (↑(List.length E) : Int) (↑N : Int) 1, none⟩) (Int.toNat ((↑N : Int) - (↑(List.length E) : Int))) (Int.toNat ((↑N : Int) - (↑(List.length E) : Int)))) (.slice (some ⟨gb, 0 + E.length, none⟩) (N - E.length) (N - E.length)) (by kernel_rfl) (by
                  unfold sOff
                  rw [if_neg (by omega)]
                  congr 1 <;> (try omega)
                  simp)) ?_
        refine wpa_eq (i := 10) (n := 2) (by kernel_rfl) (step_copy (g := gb) (off := 0) (q := E.length) (dl := N - E.length) (dc := N - E.length) (x := .slice (some ⟨(p j).1, 0, none⟩) 2 (p j).2) (t := 39) (dst := some 112) (by kernel_rfl) (e := 5) (sz := 1) (by kernel_rfl) 3 (T := 5) (n := N) (cap := N) (xs := u8s E ++ ys) (by kernel_rfl) (m := 2) (news := u8s (newL j)) (fun w h => src_ro h 0 rfl (by rw [u8s_len, hnl]) (fun e => by cases e)) (by omega) (by rw [List.length_append, u8s_len]; omega) (xs' := u8s (E ++ escB s[i]) ++ ys.drop 2) (by
          rw [u8s_len, hnl, ← hnew]
          rw [List.take_left' (u8s_len E), ← List.drop_drop, List.drop_left' (u8s_len E)]
          simp [u8s])) (sub_of [0, 1] (by kernel_rfl)) ?_
        refine wpa_take true [(11, []), (12, [])] ([(13, .int .i64 ((↑E.length : Int) + 2)), (14, .int .i64 (↑i : Int)), (12, .slice (some ⟨gb, 0, none⟩) N N), (4, .string ⟨#[]⟩), (0, .pointer (some ⟨g2, 0, none⟩)), (1, .string (mkS s))]) (#[true, true, true, true, true, true, true, true, true, true, true, true, true]) ([inI64 ((↑E.length : Int) + (2 : Int))]) (n := 0) (by kernel_rfl) (by kernel_rfl) (by kernel_rfl) ⟨by unfold inI64; omega, trivial⟩ ?_
        refine wpa_done 0 (by kernel_rfl) ?_
        refine BN (NT (RG ?_))
        refine RV true [] .z (.i 14 (.int .i64 ((↑i : Int) + 1)) (.k (.d (.k .a)))) .a ([inI64 ((↑i : Int) + (1 : Int))]) ⟨by unfold inI64; omega, trivial⟩ ?_
        refine RZ ?_
        rw [← hE1]
        have hE3 : (escL (s.take (i + 1))).length = E.length + 2 := by rw [hE1, List.length_append, hB]
        refine nx_ent (ent_set 13 (.int .i64 ((↑E.length : Int) + 2)) (Value.int .i64 ((escL (s.take (i + 1))).length : Int)) (by kernel_rfl) (by rw [hE3]; rfl)) ?_
        exact fun a' w' hS' => ⟨⟨(i + 1, ys.drop 2), hlt, by rw [List.length_drop, hE3]; omega⟩, by dsimp only; omega, ent_fr (by kernel_rfl) _ _ (ent_hp [1, 1, 1] rfl _ _ hS')⟩
    · obtain rfl : i = s.length := by omega
      rw [List.take_length] at hys ⊢
      obtain rfl : ys = [] := List.eq_nil_of_length_eq_zero (by omega)
      rw [List.append_nil]
      refine SQ (SQ (RG ?_))
      refine RR [] .z (.i 89 (.bool (decide ((↑s.length : Int) < (↑s.length : Int)))) .a) .a ?_
      refine RZ (NT ?_)
      refine SC 89 (decide ((↑s.length : Int) < (↑s.length : Int))) false (by simp) ?_
      refine CF (EX (TE (TE (BH (NT (SQ (RG ?_)))))))
      refine RR [] (.d .a) (.i 120 (.slice (some ⟨gb, 0, none⟩) N N) (.d (.d (.d (.d (.d (.k .z))))))) .a ?_
      refine wpr_ent (ent_set 120 (.slice (some ⟨gb, 0, none⟩) N N) (.slice (some ⟨gb, 0, none⟩) (escL s).length N) (by kernel_rfl) (by rw [hNl])) ?_
      refine wpr_eq (b2s (a := 39) (b := 9) (ad := (some ⟨gb, 0, none⟩)) (n := ((escL s).length)) (c := N) (dst := some 121) (by kernel_rfl) (by kernel_rfl) (escL s) (by first | rfl | simp) (fun w h => b2s_row h 2 rfl)) ?_
      refine RR [] .z (.i 4 (.string (mkS (escL s))) .z) .a ?_
      refine RZ (NT (RE ?_))
      refine NE [] .z .a [] (.string (mkS (escL s))) ?_
      exact ⟨rfl, rfl⟩
end Go.Proofs.YtgcfomhlgipllaaGreatDoor
namespace Go.Proofs.YtgcfomhlgipllaaGreatDoor
open Go Go.Sx
def okB (c : UInt8) : Bool := plB c.toNat
theorem okB_lt {c : UInt8} (h : okB c = true) : c.toNat < 128 := by
  unfold okB plB at h
  simp only [Bool.or_eq_true, beq_iff_eq, Bool.and_eq_true, decide_eq_true_eq] at h
  omega
theorem dec_ok {l : List UInt8} {pos : Nat} (hp : pos < l.length) (h : okB l[pos] = true) : Utf8.decode (mkS l) pos = (l[pos].toNat, 1) := decode_ascii (mkS l) pos hp (okB_lt h)
theorem dec_bad {l : List UInt8} {pos : Nat} (hp : pos < l.length) (h : okB l[pos] = false) : plB ((Utf8.decode (mkS l) pos).1 : Int) = false := by
  by_cases ha : l[pos].toNat < 128
  · rw [decode_ascii (mkS l) pos hp ha]; exact h
  · have h2 := (decode_high (mkS l) pos hp (by show 128 ≤ l[pos].toNat; omega)).1
    unfold plB
    simp only [Bool.or_eq_false_iff, beq_eq_false_iff_ne, ne_eq, Bool.and_eq_false_iff, decide_eq_false_iff_not]
    omega
theorem indexFunc_spec (l : List UInt8) (hl : l.length ≤ 1048576) : Does Tryz.prog 197 [.string (mkS l), .func (.func 175) #[] #[], .bool true] [] (fun v hp' => ∃ n : Int, v = .int .i64 n ∧ (0 ≤ n ↔ l.all okB = false) ∧ hp' = []) := by
  refine fn_enter Tryz.func197 rfl 21 rfl fun w0 h0 => ?_
  refine SQ (RG ?_)
  refine RR [] .z (.i 6 (.int .i64 0) .a) .a ?_
  refine RZ (NT (SQ (SQ (RG ?_))))
  refine RR [] (.d .a) (.i 9 (.string (mkS l)) (.k (.d (.k .a)))) .a ?_
  refine wpr_step (step_rng (l := l) (dst := some 10) (by kernel_rfl)) ?_
  rintro _ ⟨g, rfl⟩
  refine RZ (NT (BK ?_))
  refine wpc_loop (X := {pos : Nat // ∃ h : pos ≤ l.length, ∀ j, (hj : j < pos) → okB (l[j]'(by omega)) = true}) (fun x => St.mk [(10, .pointer (some ⟨g, 0, none⟩)), (1, .func (.func 175) #[] #[]), (2, .bool true)] [itS g l x.1]) (fun x => l.length - x.1) ⟨0, Nat.zero_le _, fun j h => absurd h (Nat.not_lt_zero _)⟩ (ent_fr (by kernel_rfl)) ?_
  rintro ⟨pos, hp, hall⟩
  dsimp only at hp hall ⊢
  by_cases hlt : pos < l.length
  · refine SQ (RG ?_)
    refine wpr_eq (step_nxt (g := g) (l := l) (pos := pos) (dst := some 11) (by kernel_rfl) 0 rfl hlt) ?_
    refine RR [] .z (.i 12 (.bool true) .a) .a ?_
    refine RZ (NT (SQ (CT (SK (NT (BK (SQ (RG ?_))))))))
    refine RR [] .z (.i 8 (.int .i32 (↑(Utf8.decode (mkS l) pos).fst : Int)) (.i 7 (.int .i64 (↑pos : Int)) (.d (.d (.k .a))))) .a ?_
    refine RZ (NT (SQ (RG ?_)))
    refine RR [] (.d (.d .a)) (.i 16 (.int .i32 (↑(Utf8.decode (mkS l) pos).fst : Int)) (.i 15 (Value.func (Fn.func 175) #[] #[]) (.d (.k .a)))) .a ?_
    refine wpr_callv (dst := some 17) (rest := ([itS g l (pos + (Utf8.decode (mkS l) pos).snd)])) (first := (#[])) (caps := (#[])) (args := [.int .i32 (↑(Utf8.decode (mkS l) pos).fst : Int)]) (f := 175) (by kernel_rfl) (by kernel_rfl) (bad_spec ((Utf8.decode (mkS l) pos).1 : Int)) (give [] (by kernel_rfl)) ?_
    rintro v _ ⟨rfl, rfl⟩
    cases hok : okB l[pos] with
    | true =>
      have hd := dec_ok hlt hok
      have hpl : plB ((Utf8.decode (mkS l) pos).1 : Int) = true := by rw [hd]; exact hok
      rw [hpl, hd]
      refine RR [] .z (.i 19 (.bool false) (.d (.d (.d (.k .a))))) .a ?_
      refine RZ (NT (CF (SK (BN ?_))))
      exact fun a' w' hS' => ⟨⟨pos + 1, hlt, fun j hj => by
              rcases Nat.lt_or_ge j pos with h | h
              · exact hall j h
              · obtain rfl : j = pos := by omega
                exact hok⟩, by dsimp only; omega, ent_fr (by kernel_rfl) _ _ (ent_hp [0] rfl _ _ hS')⟩
    | false =>
      rw [dec_bad hlt hok]
      refine RR [] .z (.i 19 (.bool true) (.d (.d (.d (.k .a))))) .a ?_
      refine RZ (NT (CT (SQ (RG ?_))))
      refine RR [] .z (.i 6 (.int .i64 (↑pos : Int)) (.d (.d (.k .a)))) .a ?_
      refine RZ (NT (RE (BR (TR (BR (TR ?_))))))
      refine NE [] .z .a [] (.int .i64 (↑pos : Int)) ?_
      refine ⟨_, rfl, ⟨fun _ => ?_, fun _ => by omega⟩, rfl⟩
      cases h : l.all okB with
      | false => rfl
      | true =>
        have h2 := List.all_eq_true.1 h l[pos] (List.getElem_mem hlt)
        rw [hok] at h2; cases h2
  · refine SQ (RG ?_)
    refine wpr_eq (step_nxt_end (g := g) (l := l) (pos := pos) (dst := some 11) (by kernel_rfl) 0 rfl (by omega)) ?_
    refine RR [] .z (.i 12 (.bool false) .a) .a ?_
    refine RZ (NT (SQ (CF (EX (TE (TE (BH (NT (SQ (RG ?_))))))))))
    refine RR [] .z (.i 6 (.int .i64 (-1)) .z) .a ?_
    refine RZ (NT (RE ?_))
    refine NE [] .z .a [] (.int .i64 (-1)) ?_
    refine ⟨-1, rfl, ⟨fun h => absurd h (by decide), fun h => ?_⟩, rfl⟩
    have : l.all okB = true := List.all_eq_true.2 fun x hx => by
      obtain ⟨j, hj⟩ := List.getElem?_of_mem hx
      obtain ⟨hj1, rfl⟩ := List.getElem?_eq_some_iff.1 hj
      exact hall j (by omega)
    rw [this] at h; cases h
theorem IndexFunc_spec (l : List UInt8) (hl : l.length ≤ 1048576) : Does Tryz.prog 176 [.string (mkS l), .func (.func 175) #[] #[]] [] (fun v hp' => ∃ n : Int, v = .int .i64 n ∧ (0 ≤ n ↔ l.all okB = false) ∧ hp' = []) := by
  refine fn_enter Tryz.func176 rfl 8 rfl fun w0 h0 => ?_
  refine SQ (RG ?_)
  refine RR [] .z (.i 4 (.int .i64 0) .a) .a ?_
  refine RZ (NT (SQ (RG ?_)))
  refine RR [] (.d (.d .a)) (.i 6 (Value.func (Fn.func 175) #[] #[]) (.i 5 (.string (mkS l)) (.k .z))) .a ?_
  refine RCA (dst := some 7) (indexFunc_spec l hl) ?_
  rintro v _ ⟨n, rfl, hn, rfl⟩
  refine RR [] .z (.i 4 (.int .i64 n) .z) .a ?_
  refine RZ (NT (RE ?_))
  refine NE [] .a .a [] (.int .i64 n) ?_
  exact ⟨n, rfl, hn, rfl⟩
theorem Replace_spec (g : Nat) (a : Option Addr) (c : Nat) (s : List UInt8) (hl : s.length ≤ 255) : Does Tryz.prog 178 [.pointer (some ⟨g, 0, none⟩), .string (mkS s)] [.blk g 286 [.int .u32 0, .int .i32 0, .int .u32 0, .nilIface, .slice a 6 c], row 9 1 a 6 c (pairsL.map strV)] (fun v hp' => v = .string (mkS (escL s)) ∧ hp' = []) := by
  refine fn_enter Tryz.func178 rfl 17 rfl fun w0 h0 => ?_
  refine SQ (RG ?_)
  refine RR [] .z (.i 4 (.string ⟨#[]⟩) .a) .a ?_
  refine RZ (NT (SQ (RG ?_)))
  refine RR [] (.d (.d (.d (.d (.d .a))))) (.i 9 (Value.func (Fn.func 199) #[.pointer (some ⟨g, 0, none⟩)] #[]) (.i 7 (.pointer (some ⟨g, 0, none⟩)) .a)) .a ?_
  refine RCA (dst := some 10) (Do_spec g a c) ?_
  rintro v _ ⟨g2, p, ta, tc, rfl, rfl⟩
  unfold repH
  obtain ⟨rc, hlen, hat, hT, hrc⟩ : ∃ rc : (Nat → Value) → Value → List Value, (∀ R t, (rc R t).length = 257) ∧ (∀ R t q, q < 256 → ((rc R t).drop (q * 1)).take 1 = [R q]) ∧ (∀ R t, ((rc R t).drop 256).take 1 = [t]) ∧ rc = repC := ⟨repC, repC_len, fun R t q h => repC_at h, fun R t => repC_t, rfl⟩
  rw [← hrc]
  refine RZ (NT (SQ (RG ?_)))
  refine RR [0] (.d (.d (.d (.d (.d .a))))) (.i 15 (.string (mkS s)) (.i 14 (Value.iface 313 (.pointer (some ⟨g2, 0, none⟩))) (.d (.d (.d (.k .z)))))) .a ?_
  refine wpr_ent (ent_turn 1 (ro ta (toRep 0)) rfl (turn_view view_row) rfl) ?_
  refine wpr_ent (ent_turn 2 (ro (some ⟨g2, 0, none⟩) (rc (repR 0 p) (.slice ta 3 tc))) rfl (turn_view view_row) rfl) ?_
  refine wpr_ent (ent_turn 3 (bag (repRows 0 p)) rfl (turn_view view_bag) rfl) ?_
  refine RCG (dst := some 16) .a (bsrReplace_spec g2 p ta tc s hl rc hlen hat hT) (GV (GV (GV (GI []) 3 view_self) 1 view_ro) 2 view_ro) ?_
  rintro v _ ⟨rfl, rfl⟩
  refine RR [] .z (.i 4 (.string (mkS (escL s))) .z) .a ?_
  refine RZ (NT (RE ?_))
  refine NE [] .z .a [] (.string (mkS (escL s))) ?_
  exact ⟨rfl, rfl⟩
def plainB (s : List UInt8) : Bool := decide (s.length ≤ 255) && s.all okB
def quoL (s : List UInt8) : List UInt8 := [34] ++ escL s ++ [34]
theorem quote_spec (s : List UInt8) (hl : s.length ≤ 1048576) : Does Tryz.prog 138 [.string (mkS s)] [] (fun v hp' => v = .tuple #[.string (mkS (if plainB s then quoL s else [])), .bool (plainB s)] ∧ hp' = []) := by
  unfold plainB
  have hEl := escL_len s
  have hsl : spN s ≤ s.length := List.countP_le_length
  by_cases h255 : s.length ≤ 255
  · rw [decide_eq_true h255, Bool.true_and]
    refine fn_enter Tryz.func138 rfl 20 rfl fun w0 h0 => ?_
    refine SQ (RG ?_)
    refine RR [] .z (.i 3 (.bool false) (.i 2 (.string ⟨#[]⟩) .a)) .a ?_
    refine RZ (NT (SQ (RG ?_)))
    refine RR [] .z (.i 4 (Value.func (Fn.func 175) #[] #[]) .a) .a ?_
    refine RZ (NT (SQ (SQ (RG ?_))))
    refine RR [] (.d (.d (.d (.d .a)))) (.i 8 (.bool (decide ((↑s.length : Int) > (255 : Int)))) .a) .a ?_
    refine SR 8 (decide ((↑s.length : Int) > (255 : Int))) false (decide_eq_false (by omega)) ?_
    refine RR [] (.d (.d .a)) (.i 10 (Value.func (Fn.func 175) #[] #[]) (.i 9 (.string (mkS s)) (.k (.d (.d (.k .a)))))) .a ?_
    refine RCA (dst := some 11) (IndexFunc_spec s hl) ?_
    rintro v _ ⟨n, rfl, hn, rfl⟩
    cases hall : s.all okB with
    | false =>
      have hn0 : 0 ≤ n := hn.2 hall
      refine RR [] .z (.i 13 (.bool (decide (n ≥ (0 : Int)))) (.d (.d (.d (.d (.k .a)))))) .a ?_
      refine RZ (NT ?_)
      refine SC 13 (decide (n ≥ (0 : Int))) true (decide_eq_true (by omega)) ?_
      refine CT (SQ (RG ?_))
      refine RR [] .z (.d (.d (.k .a))) .a ?_
      refine RZ (NT (RE (TR ?_)))
      refine NE [] .a .a [] (.tuple #[.string ⟨#[]⟩, .bool false]) ?_
      exact ⟨rfl, rfl⟩
    | true =>
      have hn0 : ¬ 0 ≤ n := fun h => by have := hn.1 h; rw [hall] at this; cases this
      refine RR [] .z (.i 13 (.bool (decide (n ≥ (0 : Int)))) (.d (.d (.d (.d (.k .a)))))) .a ?_
      refine RZ (NT ?_)
      refine SC 13 (decide (n ≥ (0 : Int))) false (decide_eq_false (by omega)) ?_
      refine CF (SK (NT (SQ (RG ?_))))
      refine RN [] (.d .a) 14 (fun g1 => (.slice (some ⟨g1, 0, none⟩) 6 6)) (.d (.d (.k .a))) .a 9 [.string { data := #[92] }, .string { data := #[92, 92] }, .string { data := #[34] }, .string { data := #[92, 34] }, .string { data := #[10] }, .string { data := #[92, 110] }] fun g1 => ?_
      refine wpr_ent (ent_turn (c := .blk g1 9 (pairsL.map strV)) 0 (ro (some ⟨g1, 0, none⟩) (pairsL.map strV)) (by kernel_rfl) (turn_rblk (by intro u hu; obtain ⟨x, _, rfl⟩ := List.mem_map.1 hu; rfl)) rfl) ?_
      refine RCG (dst := some 15) .a (NewReplacer_spec g1) (GV (GI []) 0 view_ro) ?_
      rintro v _ ⟨g, a, c, rfl, rfl⟩
      refine RR [] (.d .a) (.i 16 (.string (mkS s)) (.k (.d (.k (.k .z))))) .a ?_
      refine RC (dst := some 17) [0, 0] (.d (.d (.k .a))) (Replace_spec g a c s h255) ?_
      rintro v _ ⟨rfl, rfl⟩
      have hEl2 : (escL s).length ≤ 510 := by omega
      have hs34 : (ByteArray.mk #[34]).size = 1 := rfl
      have hs35 : (([34] : List UInt8) ++ escL s).length = (escL s).length + 1 := by simp
      have hs36 : (mkS (([34] : List UInt8) ++ escL s)).size = (escL s).length + 1 := by rw [mkS_size]; exact hs35
      refine RV true [] .z (.i 3 (.bool true) (.i 2 (.string (mkS ([34] ++ escL s ++ [34]))) .z)) .a ([(ByteArray.mk #[(34 : UInt8)]).size + (escL s).length ≤ (9223372036854775807 : Nat), ([(34 : UInt8)] ++ escL s).length + (ByteArray.mk #[(34 : UInt8)]).size ≤ (9223372036854775807 : Nat)]) ⟨by omega, by omega, trivial⟩ ?_
      refine RZ (NT (RE ?_))
      refine NE [] .z .a [] (.tuple #[.string (mkS ([34] ++ escL s ++ [34])), .bool true]) ?_
      exact ⟨rfl, rfl⟩
  · rw [decide_eq_false h255]
    refine fn_enter Tryz.func138 rfl 20 rfl fun w0 h0 => ?_
    refine SQ (RG ?_)
    refine RR [] .z (.i 3 (.bool false) (.i 2 (.string ⟨#[]⟩) .a)) .a ?_
    refine RZ (NT (SQ (RG ?_)))
    refine RR [] .z (.i 4 (Value.func (Fn.func 175) #[] #[]) .a) .a ?_
    refine RZ (NT (SQ (SQ (RG ?_))))
    refine RR [] (.d (.d (.d (.d .a)))) (.i 8 (.bool (decide ((↑s.length : Int) > (255 : Int)))) .a) .a ?_
    refine SR 8 (decide ((↑s.length : Int) > (255 : Int))) true (decide_eq_true (by omega)) ?_
    refine RR [] .z (.i 13 (.bool true) (.d (.d (.d (.k .a))))) .a ?_
    refine RZ (NT (CT (SQ (RG ?_))))
    refine RR [] .z (.d (.k .a)) .a ?_
    refine RZ (NT (RE (TR ?_)))
    refine NE [] .a .a [] (.tuple #[.string ⟨#[]⟩, .bool false]) ?_
    exact ⟨rfl, rfl⟩
def tokV (k : Int) (s : List UInt8) : Value := .agg #[.int .i64 k, .string (mkS s), .int .i64 0, .int .i64 0, .int .i64 0]
theorem TextStr_spec (s : List UInt8) (hl : s.length ≤ 1048576) : Does Tryz.prog 86 [tokV 3 s] [] (fun v hp' => v = .tuple #[.string (mkS (if plainB s then quoL s else [])), .int .i64 (if plainB s then 0 else 2)] ∧ hp' = []) := by
  unfold tokV
  refine fn_enter Tryz.func86 rfl 80 rfl fun w0 h0 => ?_
  refine SQ (RG ?_)
  refine RP [] (.d .a) 1 .z .a 162 [.int .i64 3, .string (mkS s), .int .i64 0, .int .i64 0, .int .i64 0] fun g1 => ?_
  refine RR [] .z (.i 3 (.int .i64 0) (.i 2 (.string ⟨#[]⟩) .a)) .a ?_
  refine RZ (NT (SQ (RG ?_)))
  refine RR [0] .z (.i 5 (.bool false) (.i 4 (.string (mkS s)) .a)) .a ?_
  refine RZ (NT (SQ (SQ (RG ?_))))
  refine RR [0] .z (.i 9 (.int .i64 3) .a) .a ?_
  refine RZ (NT (BK (SQ (RG ?_))))
  refine RR [] .z (.i 10 (.bool false) .a) .a ?_
  refine RZ (NT (CF (SQ (RG ?_))))
  refine RR [] .z (.i 19 (.bool false) (.d (.k .a))) .a ?_
  refine RZ (NT (CF (SQ (RG ?_))))
  refine RR [] .z (.i 28 (.bool false) (.d (.k .a))) .a ?_
  refine RZ (NT (CF (SQ (RG ?_))))
  refine RR [] .z (.i 43 (.bool false) (.d (.k .a))) .a ?_
  refine RZ (NT (CF (SQ (RG ?_))))
  refine RR [] .z (.i 52 (.bool false) (.d (.k .a))) .a ?_
  refine RZ (NT (CF (SQ (RG ?_))))
  refine RR [] .z (.i 64 (.bool true) (.d (.d (.k .a)))) .a ?_
  refine RZ (NT (CT (SQ (RG ?_))))
  refine RR [] (.d .a) (.i 67 (.string (mkS s)) (.d (.k .a))) .a ?_
  refine RC (dst := some 68) [] .a (quote_spec s hl) ?_
  rintro v _ ⟨rfl, rfl⟩
  cases hp : plainB s with
  | true =>
    refine RR [] .z (.i 5 (.bool true) (.i 4 (.string (mkS (if true = true then quoL s else []))) (.d (.d (.d (.d (.k .a))))))) .a ?_
    refine RZ (NT (RG ?_))
    refine RR [0] .z (.k (.k (.k (.k .z)))) .a ?_
    refine RZ (BN (NT (SQ (SQ (RG ?_)))))
    refine RR [] .z (.i 78 (.bool false) (.d (.k .a))) .a ?_
    refine RZ (NT (CF (SK (NT (SQ (RG ?_))))))
    refine RR [] .z (.d (.d (.k (.i 2 (.string (mkS (if true = true then quoL s else []))) .z)))) .a ?_
    refine RZ (NT (RE ?_))
    refine NE [] .z .a [] (.tuple #[.string (mkS (if true = true then quoL s else [])), .int .i64 0]) ?_
    exact ⟨rfl, rfl⟩
  | false =>
    refine RR [] .z (.d (.d (.k (.i 4 (.string (mkS (if false = true then quoL s else []))) (.d (.k .a)))))) .a ?_
    refine RZ (NT (RG ?_))
    refine RR [] .z (.k (.k (.k (.k .z)))) .a ?_
    refine RZ (BN (NT (SQ (SQ (RG ?_)))))
    refine RR [] .z (.i 78 (.bool true) (.d (.k .a))) .a ?_
    refine RZ (NT (CT (SQ (RG ?_))))
    refine RR [] .z (.i 3 (.int .i64 2) (.i 2 (.string ⟨#[]⟩) (.d (.k .z)))) .a ?_
    refine RZ (NT (RE (TR ?_)))
    refine NE [] .z .a [] (.tuple #[.string ⟨#[]⟩, .int .i64 2]) ?_
    exact ⟨rfl, rfl⟩
end Go.Proofs.YtgcfomhlgipllaaGreatDoor
namespace Go.Proofs.YtgcfomhlgipllaaGreatDoor
open Go Go.Sx
/-! A code, plain: its parts, its bytes, which are right. -/
abbrev Tx := List UInt8
structure VarP where
  name : Tx
  slot : Int
  fr : Int
  to : Int
abbrev InP := Int × Int
structure UnitP where
  name : Tx
  params : Int
  slots : Int
  stack : Int
  result : Bool
  ins : List InP
  vars : List VarP
abbrev ShP := Tx × List Tx
structure CodeP where
  strs : List Tx
  shapes : List ShP
  units : List UnitP
  main : Int
end Go.Proofs.YtgcfomhlgipllaaGreatDoor
namespace Go.Proofs.YtgcfomhlgipllaaGreatDoor
open Go Go.Sx
/-! A code as it lies in memory. -/
def strsC (l : List Tx) : List Value := l.map fun t => .string (mkS t)
theorem strsC_len (l : List Tx) : (strsC l).length = l.length := List.length_map ..
theorem strs_at {l : List Tx} {q : Nat} (hq : q < l.length) : ((strsC l).drop (q * 1)).take 1 = [.string (mkS l[q])] := by
  have h : q < (strsC l).length := by rw [strsC_len]; exact hq
  rw [Nat.mul_one, List.drop_eq_getElem_cons h]
  simp [strsC]
theorem strs_one (l : List Tx) : Sx.One (strsC l) := by
  intro u hu
  obtain ⟨t, _, rfl⟩ := List.mem_map.1 hu
  rfl
theorem strs_app (l : List Tx) (t : Tx) : strsC l ++ [.string (mkS t)] = strsC (l ++ [t]) := by simp [strsC]
structure ShV where
  name : Tx
  fa : Option Addr
  fc : Nat
  fields : List Tx
def ShV.p (x : ShV) : ShP := (x.name, x.fields)
structure UnV where
  name : Tx
  params : Int
  slots : Int
  stack : Int
  result : Bool
  ia : Option Addr
  ic : Nat
  ins : List InP
  va : Option Addr
  vc : Nat
  vars : List VarP
def UnV.p (x : UnV) : UnitP := ⟨x.name, x.params, x.slots, x.stack, x.result, x.ins, x.vars⟩
structure CoV where
  sa : Option Addr
  sc : Nat
  strs : List Tx
  ha : Option Addr
  hc : Nat
  shapes : List ShV
  ua : Option Addr
  uc : Nat
  units : List UnV
  main : Int
def CoV.p (c : CoV) : CodeP := ⟨c.strs, c.shapes.map ShV.p, c.units.map UnV.p, c.main⟩
def okText (t : Tx) : Prop := t.length ≤ 1048576
def VarP.ok (v : VarP) : Prop := okText v.name ∧ i64r v.slot ∧ i64r v.fr ∧ i64r v.to
def InP.ok (x : InP) : Prop := i64r x.1 ∧ i64r x.2
def ShV.ok (x : ShV) : Prop := okText x.name ∧ x.fields.length ≤ 1048576 ∧ ∀ t ∈ x.fields, okText t
def UnV.ok (x : UnV) : Prop := okText x.name ∧ i64r x.params ∧ i64r x.slots ∧ i64r x.stack ∧ x.ins.length ≤ 1048576 ∧ x.vars.length ≤ 1048576 ∧ (∀ y ∈ x.ins, InP.ok y) ∧ ∀ v ∈ x.vars, v.ok
def CoV.ok (c : CoV) : Prop := c.strs.length ≤ 1048576 ∧ (∀ t ∈ c.strs, okText t) ∧ c.shapes.length ≤ 1048576 ∧ (∀ x ∈ c.shapes, x.ok) ∧ c.units.length ≤ 1048576 ∧ (∀ x ∈ c.units, x.ok) ∧ i64r c.main
end Go.Proofs.YtgcfomhlgipllaaGreatDoor
namespace Go.Proofs
open Go.Shelf
def Tryz.laysM171_ren : Go.Shelf.Ren := ⟨fun | 171 => 51 | 243 => 108 | 246 => 150 | 283 => 183 | 284 => 184 | 285 => 185 | 286 => 186 | 129 => 203 | 317 => 202 | 318 => 204 | 319 => 205 | 320 => 206 | 337 => 214 | 338 => 215 | n => n, fun | 3 => 3 | 9 => 9 | 2 => 2 | 4 => 4 | 171 => 256 | 0 => 0 | 53 => 178 | 37 => 39 | 5 => 5 | 173 => 258 | 212 => 289 | 51 => 274 | 20 => 20 | 213 => 290 | 46 => 63 | 232 => 314 | 233 => 315 | n => n, fun | 17 => 3 | 18 => 5 | 19 => 6 | n => n⟩
theorem Tryz.laysM171 : Go.Proofs.LaysM.n171 Tryz.prog Tryz.laysM171_ren := {
  mixed := by kernel_rfl
  f129 := Tryz.func203.trans (congrArg some (by kernel_rfl))
  f171 := Tryz.func51.trans (congrArg some (by kernel_rfl))
  f243 := Tryz.func108.trans (congrArg some (by kernel_rfl))
  f246 := Tryz.func150.trans (congrArg some (by kernel_rfl))
  f283 := Tryz.func183.trans (congrArg some (by kernel_rfl))
  f284 := Tryz.func184.trans (congrArg some (by kernel_rfl))
  f285 := Tryz.func185.trans (congrArg some (by kernel_rfl))
  f286 := Tryz.func186.trans (congrArg some (by kernel_rfl))
  f317 := Tryz.func202.trans (congrArg some (by kernel_rfl))
  f318 := Tryz.func204.trans (congrArg some (by kernel_rfl))
  f319 := Tryz.func205.trans (congrArg some (by kernel_rfl))
  f320 := Tryz.func206.trans (congrArg some (by kernel_rfl))
  f337 := Tryz.func214.trans (congrArg some (by kernel_rfl))
  f338 := Tryz.func215.trans (congrArg some (by kernel_rfl))
  t0 := Tryz.underlying0
  a0 := Tryz.isAgg0
  z0 := Tryz.sizeOf0
  v0 := Tryz.zeroValue0
  t2 := Tryz.underlying2
  a2 := Tryz.isAgg2
  z2 := Tryz.sizeOf2
  v2 := Tryz.zeroValue2
  t3 := Tryz.underlying3
  a3 := Tryz.isAgg3
  z3 := Tryz.sizeOf3
  v3 := Tryz.zeroValue3
  t4 := Tryz.underlying4
  a4 := Tryz.isAgg4
  z4 := Tryz.sizeOf4
  v4 := Tryz.zeroValue4
  t5 := Tryz.underlying5
  a5 := Tryz.isAgg5
  z5 := Tryz.sizeOf5
  v5 := Tryz.zeroValue5
  t9 := Tryz.underlying9
  a9 := Tryz.isAgg9
  z9 := Tryz.sizeOf9
  v9 := Tryz.zeroValue9
  t20 := Tryz.underlying20
  a20 := Tryz.isAgg20
  z20 := Tryz.sizeOf20
  v20 := Tryz.zeroValue20
  t37 := Tryz.underlying39
  a37 := Tryz.isAgg39
  z37 := Tryz.sizeOf39
  v37 := Tryz.zeroValue39
  t46 := Tryz.underlying63
  a46 := Tryz.isAgg63
  z46 := Tryz.sizeOf63
  v46 := Tryz.zeroValue63
  t51 := Tryz.underlying274
  a51 := Tryz.isAgg274
  z51 := Tryz.sizeOf274
  v51 := Tryz.zeroValue274
  t53 := Tryz.underlying178
  a53 := Tryz.isAgg178
  z53 := Tryz.sizeOf178
  v53 := Tryz.zeroValue178
  t171 := Tryz.underlying256
  a171 := Tryz.isAgg256
  z171 := Tryz.sizeOf256
  v171 := Tryz.zeroValue256
  t173 := Tryz.underlying258
  a173 := Tryz.isAgg258
  z173 := Tryz.sizeOf258
  v173 := Tryz.zeroValue258
  t212 := Tryz.underlying289
  a212 := Tryz.isAgg289
  z212 := Tryz.sizeOf289
  v212 := Tryz.zeroValue289
  t213 := Tryz.underlying290
  a213 := Tryz.isAgg290
  z213 := Tryz.sizeOf290
  t232 := Tryz.underlying314
  a232 := Tryz.isAgg314
  z232 := Tryz.sizeOf314
  v232 := Tryz.zeroValue314
  t233 := Tryz.underlying315
  a233 := Tryz.isAgg315
  z233 := Tryz.sizeOf315
  v233 := Tryz.zeroValue315
  g17 := by kernel_rfl
  g18 := by kernel_rfl
  g19 := by kernel_rfl
  i0 := by kernel_rfl
  i2 := by kernel_rfl
  i3 := by kernel_rfl
  i4 := by kernel_rfl
  i5 := by kernel_rfl
  i9 := by kernel_rfl
  i20 := by kernel_rfl
  i37 := by kernel_rfl
  i46 := by kernel_rfl
  i51 := by kernel_rfl
  i53 := by kernel_rfl
  i171 := by kernel_rfl
  i173 := by kernel_rfl
  i212 := by kernel_rfl
  i232 := by kernel_rfl
  i233 := by kernel_rfl
  m17 := by kernel_rfl
  m18 := by kernel_rfl
  m19 := by kernel_rfl }
open Go.RowKit Go.Sort Go.Lib in
theorem Tryz.strconv_Itoa (n : Int) (h0 : -9223372036854775808 ≤ n) (h1 : n ≤ 9223372036854775807) (w : World) (htab : Lib.TabIs Tryz.prog w "internal/strconv.uint64pow10" .u64 Lib.pow10Tab) :
    Calls Tryz.prog 51 #[.int .i64 n] w fun e w' => e = .returned (.string ⟨(Lib.itoa n).toArray⟩) ∧ ∃ k os, w' = grow (w.drewN k) os := Any.strconv_Itoa Tryz.laysM171 n h0 h1 w htab
end Go.Proofs
namespace Go.Proofs.YtgcfomhlgipllaaGreatDoor
open Go Go.Sx
def powName : String := "internal/strconv.uint64pow10"
def powQ : Sx.Oq where
  own := fun k => k = 3
  rw := False
  holds := fun w => Lib.TabIs Tryz.prog w powName .u64 Lib.pow10Tab
  loc := fun w w' h hw => by
    have hg : Tryz.prog.globalNamed powName = some 3 := by kernel_rfl
    unfold Lib.TabIs World.var? at hw ⊢
    rw [hg] at hw ⊢
    have h2 := h _ rfl
    simp only [Option.bind_some] at hw ⊢
    rw [h2]; exact hw
  lt := fun w k hw hk => by
    subst hk
    have hg : Tryz.prog.globalNamed powName = some 3 := by kernel_rfl
    unfold Lib.TabIs World.var? at hw
    rw [hg] at hw
    simp only [Option.bind_some] at hw
    refine Nat.lt_of_not_le fun hle => ?_
    rw [Array.getElem?_eq_none hle] at hw
    cases hw
def gPow : Ch := .op powQ
theorem view_gPow : View gPow gPow := ⟨fun w h => h, fun w h k hk => hk, fun h => h⟩
theorem Itoa_spec (n : Int) (h0 : -9223372036854775808 ≤ n) (h1 : n ≤ 9223372036854775807) : Does Tryz.prog 51 [.int .i64 n] [gPow] (fun v hp' => v = .string (mkS (Lib.itoa n)) ∧ hp' = []) := fun w hw =>
  (Tryz.strconv_Itoa n h0 h1 w (hw.holds gPow (List.mem_singleton.2 rfl))).mono fun e w' ⟨he, k, os, hw'⟩ => by
    subst hw'
    refine ⟨_, [], ⟨rfl, rfl⟩, he, ⟨(fun c hc => by cases hc), List.Pairwise.nil⟩, ⟨rfl, rfl, rfl, ?_, fun k hk _ => ?_⟩, (fun c hc => by cases hc), fun c hc => by cases hc⟩
    · rw [Sort.size_grow]; exact Nat.le_add_right _ _
    · exact Sort.heap_grow_old _ _ hk
end Go.Proofs.YtgcfomhlgipllaaGreatDoor
namespace Go.Proofs.YtgcfomhlgipllaaGreatDoor
open Go Go.Sx
theorem FormatBool0_spec (b : Bool) : Does Tryz.prog 189 [.bool b] [] (fun v hp' => v = .string (mkS (if b then [116, 114, 117, 101] else [102, 97, 108, 115, 101])) ∧ hp' = []) := by
  cases b with
  | true =>
    refine fn_enter Tryz.func189 rfl 4 rfl fun w0 h0 => ?_
    refine SQ (RG ?_)
    refine RR [] .z (.i 2 (.string ⟨#[]⟩) .a) .a ?_
    refine RZ (NT (SQ (SQ (RG ?_))))
    refine RR [] .z (.i 3 (.bool true) (.k .z)) .a ?_
    refine RZ (NT (CT (SQ (RG ?_))))
    refine RR [] .z (.i 2 (.string (ByteArray.mk #[116, 114, 117, 101])) .z) .a ?_
    refine RZ (NT (RE (TR ?_)))
    refine NE [] .a .a [] (.string (ByteArray.mk #[116, 114, 117, 101])) ?_
    exact ⟨rfl, rfl⟩
  | false =>
    refine fn_enter Tryz.func189 rfl 4 rfl fun w0 h0 => ?_
    refine SQ (RG ?_)
    refine RR [] .z (.i 2 (.string ⟨#[]⟩) .a) .a ?_
    refine RZ (NT (SQ (SQ (RG ?_))))
    refine RR [] .z (.i 3 (.bool false) (.k .z)) .a ?_
    refine RZ (NT (CF (SK (NT (SQ (RG ?_))))))
    refine RR [] .z (.i 2 (.string (ByteArray.mk #[102, 97, 108, 115, 101])) .z) .a ?_
    refine RZ (NT (RE ?_))
    refine NE [] .a .a [] (.string (ByteArray.mk #[102, 97, 108, 115, 101])) ?_
    exact ⟨rfl, rfl⟩
theorem FormatBool_spec (b : Bool) : Does Tryz.prog 163 [.bool b] [] (fun v hp' => v = .string (mkS (if b then [116, 114, 117, 101] else [102, 97, 108, 115, 101])) ∧ hp' = []) := by
  refine fn_enter Tryz.func163 rfl 5 rfl fun w0 h0 => ?_
  refine SQ (RG ?_)
  refine RR [] .z (.i 2 (.string ⟨#[]⟩) .a) .a ?_
  refine RZ (NT (SQ (RG ?_)))
  refine RR [] (.d .a) (.i 3 (.bool b) (.k .z)) .a ?_
  refine RCA (dst := some 4) (FormatBool0_spec b) ?_
  rintro v _ ⟨rfl, rfl⟩
  refine RR [] .z (.i 2 (.string (mkS (if b = true then [116, 114, 117, 101] else [102, 97, 108, 115, 101]))) .z) .a ?_
  refine RZ (NT (RE ?_))
  refine NE [] .a .a [] (.string (mkS (if b = true then [116, 114, 117, 101] else [102, 97, 108, 115, 101]))) ?_
  exact ⟨rfl, rfl⟩
theorem dec_len (n : Nat) (k : Nat) (h : n < 10 ^ k) : (Lib.decDigits n).length ≤ max k 1 := by
  induction k generalizing n with
  | zero => simp at h; subst h; rw [Lib.decDigits]; simp
  | succ k ih =>
    rw [Lib.decDigits]
    split
    · simp
    · rw [List.length_append]
      have h2 := ih (n / 10) (by rw [Nat.pow_succ] at h; omega)
      have hk : 1 ≤ k := by
        rcases Nat.eq_zero_or_pos k with rfl | h3
        · simp at h; omega
        · exact h3
      simp only [List.length_singleton]; omega
end Go.Proofs.YtgcfomhlgipllaaGreatDoor
namespace Go.Proofs.YtgcfomhlgipllaaGreatDoor
open Go Go.Sx
theorem copyCheck_spec (g : Nat) (ad : Option Addr) (had : ad = none ∨ ad = some ⟨g, 0, none⟩) (s x : Value) : Does Tryz.prog 167 [.pointer (some ⟨g, 0, none⟩)] [.blk g 204 [.pointer ad, s, x]] (fun u hp' => u = .tuple #[] ∧ hp' = [.blk g 204 [.pointer (some ⟨g, 0, none⟩), s, x]]) := by
  rcases had with rfl | rfl
  · refine fn_enter Tryz.func167 rfl 20 rfl fun w0 h0 => ?_
    refine SQ (RG ?_)
    refine RR [0] .z (.i 6 (.bool true) .a) .a ?_
    refine RZ (NT (CT (RG ?_)))
    refine RR [0, 0, 0, 0, 0] .z .z (.u (.i (.pointer (some ⟨g, 0, none⟩)) (.d (.k .a))) .a) ?_
    refine RZ ?_
    refine NE [0] .a .z [] (.tuple #[]) ?_
    exact ⟨rfl, rfl⟩
  · refine fn_enter Tryz.func167 rfl 20 rfl fun w0 h0 => ?_
    refine SQ (RG ?_)
    refine RR [0] .z (.i 6 (.bool false) .a) .a ?_
    refine RZ (NT (CF (SQ (RG ?_))))
    refine RR [0] (.d (.d (.d (.d (.d .a))))) (.i 18 (.pointer (some ⟨g, 0, none⟩)) (.i 17 (.pointer (some ⟨g, 0, none⟩)) .z)) .a ?_
    refine wpr_eq (step_eqp (b := false) (t := 200) (ad := ⟨g, 0, none⟩) (dst := some 19) (by kernel_rfl) (by kernel_rfl)) ?_
    refine RZ (NT (CF (SK ?_)))
    refine NE [0] .a .z [] (.tuple #[]) ?_
    exact ⟨rfl, rfl⟩
theorem u8s_cat (a b : List UInt8) : u8s a ++ u8s b = u8s (a ++ b) := by simp [u8s]
theorem WriteString_spec (g : Nat) (ad : Option Addr) (had : ad = none ∨ ad = some ⟨g, 0, none⟩) (a : Option Addr) (c : Nat) (bs : List UInt8) (x : Value) (t : List UInt8) (hb : bs.length ≤ 1099511627000) (ht : t.length ≤ 1099511627000) : Does Tryz.prog 130 [.pointer (some ⟨g, 0, none⟩), .string (mkS t)] [.blk g 204 [.pointer ad, .slice a bs.length c, x], row 5 1 a bs.length c (u8s bs)]
    (fun u hp' => ∃ a' c', u = .tuple #[.int .i64 t.length, .nilIface] ∧ hp' = [.blk g 204 [.pointer (some ⟨g, 0, none⟩), .slice a' (bs ++ t).length c', x], row 5 1 a' (bs ++ t).length c' (u8s (bs ++ t))]) := by
  have hcc := copyCheck_spec g ad had (.slice a bs.length c) x
  refine fn_enter Tryz.func130 rfl 19 rfl fun w0 h0 => ?_
  refine SQ (RG ?_)
  refine RR [] .z (.i 5 Value.nilIface (.i 4 (.int .i64 0) .a)) .a ?_
  refine RZ (NT (SQ (RG ?_)))
  refine RR [] (.d .a) (.i 6 (.pointer (some ⟨g, 0, none⟩)) .a) .a ?_
  refine RC (dst := some 7) [0] (.d (.k .a)) (hcc) ?_
  rintro v _ ⟨rfl, rfl⟩
  refine RZ (NT (SQ (RG ?_)))
  refine RR [0] (.d (.d (.d (.d (.d (.d .a)))))) (.i 13 (.string (mkS t)) (.i 12 (.slice a bs.length c) (.i 8 (.pointer (some ⟨g, 0, none⟩)) (.d (.d (.k (.k (.d (.k .a))))))))) .a ?_
  refine wpr_app (a := a) (n := bs.length) (cap := c) (x := (.string (mkS t))) (t := 39) (xt := 9) (dst := some 14) (by kernel_rfl) (e := 5) (sz := 1) (bytes := 1) (by kernel_rfl) 1 (xs := (u8s bs)) (by kernel_rfl) (m := (t.length)) (news := (u8s t)) (fun w h => src_str (mkS t)) (by unfold maxLen; omega) (by omega) ?_
  intro a2 c2 hn
  rw [u8s_cat, ← List.length_append]
  refine RR [0] .z (.d (.d (.d (.d (.k .a))))) (.u (.k (.i (.slice a2 (bs ++ t).length c2) (.d (.k .a)))) .a) ?_
  refine RZ (NT (SQ (RG ?_)))
  refine RR [] .z (.k (.i 4 (.int .i64 (↑t.length : Int)) .z)) .a ?_
  refine RZ (NT (RE ?_))
  refine NE [0, 0] .a .z [] (.tuple #[.int .i64 (↑t.length : Int), Value.nilIface]) ?_
  exact ⟨a2, c2, rfl, rfl⟩
theorem wr_put_spec (g : Nat) (ad : Option Addr) (had : ad = none ∨ ad = some ⟨g, 0, none⟩) (a : Option Addr) (c : Nat) (bs : List UInt8) (x : Value) (p : Option Addr) (pc : Nat) (ss : List (List UInt8)) (hb : bs.length ≤ 549755813888) (hs0 : ss ≠ []) (hsl : ss.length ≤ 1048576) (ht : ss.flatten.length ≤ 549755813000) : Does Tryz.prog 162 [.pointer (some ⟨g, 0, none⟩), .slice p ss.length pc] [.blk g 204 [.pointer ad, .slice a bs.length c, x], row 5 1 a bs.length c (u8s bs), ro p (ss.map strV)]
    (fun u hp' => ∃ a' c', u = .tuple #[] ∧ hp' = [.blk g 204 [.pointer (some ⟨g, 0, none⟩), .slice a' (bs ++ ss.flatten).length c', x], row 5 1 a' (bs ++ ss.flatten).length c' (u8s (bs ++ ss.flatten))]) := by
  refine fn_enter Tryz.func162 rfl 18 rfl fun w0 h0 => ?_
  refine SQ (RG ?_)
  refine RR [] .z (.i 8 (.int .i64 0) (.i 7 (.int .i64 (↑ss.length : Int)) (.i 6 (.slice p ss.length pc) (.k .z)))) .a ?_
  refine RZ (NT (BK ?_))
  refine wpc_loop (X := {y : Nat × Option Addr × Option Addr × Nat // y.1 ≤ ss.length ∧ (y.2.1 = none ∨ y.2.1 = some ⟨g, 0, none⟩) ∧ (0 < y.1 → y.2.1 = some ⟨g, 0, none⟩)}) (fun y => St.mk [(8, .int .i64 (y.1.1 : Int)), (7, .int .i64 ss.length), (6, .slice p ss.length pc), (0, .pointer (some ⟨g, 0, none⟩))]
    [.blk g 204 [.pointer y.1.2.1, .slice y.1.2.2.1 (bs ++ (ss.take y.1.1).flatten).length y.1.2.2.2, x], row 5 1 y.1.2.2.1 (bs ++ (ss.take y.1.1).flatten).length y.1.2.2.2 (u8s (bs ++ (ss.take y.1.1).flatten)), ro p (ss.map strV)]) (fun y => ss.length - y.1.1) ⟨(0, ad, a, c), Nat.zero_le _, had, fun h => absurd h (Nat.lt_irrefl _)⟩ ?_ ?_
  · show Ent _ _ (St.mk _ [.blk g 204 [.pointer ad, .slice a (bs ++ []).length c, x], row 5 1 a (bs ++ []).length c (u8s (bs ++ [])), ro p (ss.map strV)])
    rw [List.append_nil]
    exact ent_fr (by kernel_rfl)
  rintro ⟨⟨i, ad1, a1, c1⟩, hi, had1, hself⟩
  dsimp only at hi had1 hself ⊢
  have hle : (ss.take i).flatten.length ≤ ss.flatten.length := by
    conv => rhs; rw [← List.take_append_drop i ss]
    rw [List.flatten_append, List.length_append]; exact Nat.le_add_right _ _
  have hbl : (bs ++ (ss.take i).flatten).length = bs.length + (ss.take i).flatten.length := List.length_append
  by_cases hlt : i < ss.length
  · have hle2 : ss[i].length ≤ ss.flatten.length := by
      conv => rhs; rw [← List.take_append_drop i ss, ← List.getElem_cons_drop hlt]
      simp only [List.flatten_append, List.flatten_cons, List.length_append]; omega
    refine wpc_fact (fun w h => ro_addr h 2 rfl (by rw [List.length_map]; omega)) ?_
    rintro ⟨g0, o0, rfl⟩
    refine SQ (RG ?_)
    refine RR [] .z (.i 9 (.bool (decide ((↑i : Int) < (↑ss.length : Int)))) .a) .a ?_
    refine RZ (NT (SQ ?_))
    refine SC 9 (decide ((↑i : Int) < (↑ss.length : Int))) true (decide_eq_true (by omega)) ?_
    refine CT (SK (NT (SQ (BK (SQ (RG ?_))))))
    refine RV true [] (.d .a) (.i 10 (.pointer (some ⟨g0, o0 + i * 1, none⟩)) (.d (.d (.k .a)))) .a [(0 : Int) ≤ (↑i : Int) ∧ (↑i : Int) < (↑ss.length : Int)] ⟨by omega, trivial⟩ ?_
    refine wpr_eq (ld (t := 9) (a := ⟨g0, o0 + i * 1, none⟩) (dst := some 11) (by kernel_rfl) false 1 (by kernel_rfl) (by simp) [.string (mkS ss[i])] rfl (fun w h => ld_ro h 2 rfl (i * 1) (map_at strV hlt))) ?_
    refine RR [] .z (.i 5 (.string (mkS ss[i])) (.d (.d (.k .a)))) .a ?_
    refine RZ (NT (RG ?_))
    refine RR [] (.d (.d (.d (.d .a)))) (.i 15 (.string (mkS ss[i])) (.i 14 (.pointer (some ⟨g, 0, none⟩)) (.d (.k .a)))) .a ?_
    refine RC (dst := some 16) [0, 0] (.d (.d (.k .a))) (WriteString_spec g ad1 had1 a1 c1 (bs ++ (ss.take i).flatten) x ss[i] (by omega) (by omega)) ?_
    rintro v _ ⟨a2, c2, rfl, rfl⟩
    rw [show bs ++ (ss.take i).flatten ++ ss[i] = bs ++ (ss.take (i + 1)).flatten by rw [← List.take_append_getElem hlt, List.flatten_append]; simp]
    refine RZ (BN (NT (RG ?_)))
    refine RV true [] .z (.i 8 (.int .i64 ((↑i : Int) + 1)) (.d (.d (.d (.d (.k .a)))))) .a ([inI64 ((↑i : Int) + (1 : Int))]) ⟨by unfold inI64; omega, trivial⟩ ?_
    refine RZ ?_
    exact fun a' w' hS' => ⟨⟨(i + 1, some ⟨g, 0, none⟩, a2, c2), hlt, .inr rfl, fun _ => rfl⟩, by dsimp only; omega, ent_fr (by kernel_rfl) _ _ (ent_hp [0, 0, 0] rfl _ _ hS')⟩
  · obtain rfl : i = ss.length := by omega
    rw [List.take_length]
    obtain rfl := hself (List.length_pos_iff.2 hs0)
    refine SQ (RG ?_)
    refine RR [] .z (.i 9 (.bool (decide ((↑ss.length : Int) < (↑ss.length : Int)))) .a) .a ?_
    refine RZ (NT (SQ ?_))
    refine SC 9 (decide ((↑ss.length : Int) < (↑ss.length : Int))) false (by simp) ?_
    refine CF (EX (TE (TE (BH ?_))))
    refine NE [0, 0] (.k (.k .z)) (.d (.d (.k .a))) [] (.tuple #[]) ?_
    exact ⟨a1, c1, rfl, rfl⟩
end Go.Proofs.YtgcfomhlgipllaaGreatDoor
namespace Go.Proofs.YtgcfomhlgipllaaGreatDoor
open Go Go.Sx
def rightB (v : V) (m : Int) : Bool :=
  if v.k = 0 then decide (v.n = 0) && decide (v.s = [])
  else if v.k = 1 then decide (v.s = [])
  else if v.k = 2 then decide (v.s = []) && (decide (v.n = 0) || decide (v.n = 1))
  else if v.k = 3 then decide (v.n = 0) && plainB v.s
  else if v.k = 4 then decide (v.s = []) && decide (0 ≤ v.n) && decide (v.n < m)
  else false
theorem Check_spec (v : V) (m : Int) (hl : v.s.length ≤ 1048576) : Does Tryz.prog 36 [valV v, .int .i64 m] [] (fun u hp' => u = .int .i64 (if rightB v m then 0 else 2) ∧ hp' = []) := by
  obtain ⟨k, n, s⟩ := v
  unfold valV
  dsimp only at hl ⊢
  by_cases k0 : k = 0
  · subst k0
    by_cases hn : n = 0
    · subst hn
      cases s with
      | nil =>
        refine fn_enter Tryz.func36 rfl 74 rfl fun w0 h0 => ?_
        refine SQ (RG ?_)
        refine RP [] (.d .a) 2 (.d (.k .a)) .a 94 [.int .i64 0, .int .i64 0, .string (mkS [])] fun g1 => ?_
        refine RR [] .z (.i 4 (.int .i64 0) .a) .a ?_
        refine RZ (NT (SQ (RG ?_)))
        refine RR [] .z (.i 5 (.bool false) .a) .a ?_
        refine RZ (NT (SQ (SQ (RG ?_))))
        refine RR [0] .z (.i 9 (.int .i64 0) .a) .a ?_
        refine RZ (NT (BK (SQ (RG ?_))))
        refine RR [] .z (.i 10 (.bool true) .a) .a ?_
        refine RZ (NT (CT (RG ?_)))
        refine RR [0, 0] .z (.i 5 (.bool true) (.d (.d (.d (.k .z))))) .a ?_
        refine RZ (BN (NT (SQ (SQ (RG ?_)))))
        refine RR [] .z (.i 73 (.bool false) (.d (.k .a))) .a ?_
        refine RZ (NT (CF (SK (NT (SQ (RG ?_))))))
        refine RR [] .z (.d (.k .a)) .a ?_
        refine RZ (NT (RE ?_))
        refine NE [] .z .a [] (.int .i64 0) ?_
        exact ⟨by simp [rightB, *], rfl⟩
      | cons c r =>
        refine fn_enter Tryz.func36 rfl 74 rfl fun w0 h0 => ?_
        refine SQ (RG ?_)
        refine RP [] (.d .a) 2 (.d (.k .a)) .a 94 [.int .i64 0, .int .i64 0, .string (mkS (c :: r))] fun g1 => ?_
        refine RR [] .z (.i 4 (.int .i64 0) .a) .a ?_
        refine RZ (NT (SQ (RG ?_)))
        refine RR [] .z (.i 5 (.bool false) .a) .a ?_
        refine RZ (NT (SQ (SQ (RG ?_))))
        refine RR [0] .z (.i 9 (.int .i64 0) .a) .a ?_
        refine RZ (NT (BK (SQ (RG ?_))))
        refine RR [] .z (.i 10 (.bool true) .a) .a ?_
        refine RZ (NT (CT (RG ?_)))
        refine RR [0, 0] .z (.d (.d (.k (.k .z)))) .a ?_
        refine RZ (BN (NT (SQ (SQ (RG ?_)))))
        refine RR [] .z (.i 73 (.bool true) (.d (.k .a))) .a ?_
        refine RZ (NT (CT (SQ (RG ?_))))
        refine RR [] .z (.i 4 (.int .i64 2) .z) .a ?_
        refine RZ (NT (RE (TR ?_)))
        refine NE [] .z .a [] (.int .i64 2) ?_
        exact ⟨by simp [rightB, *], rfl⟩
    · refine fn_enter Tryz.func36 rfl 74 rfl fun w0 h0 => ?_
      refine SQ (RG ?_)
      refine RP [] (.d .a) 2 (.d (.k .a)) .a 94 [.int .i64 0, .int .i64 n, .string (mkS s)] fun g1 => ?_
      refine RR [] .z (.i 4 (.int .i64 0) .a) .a ?_
      refine RZ (NT (SQ (RG ?_)))
      refine RR [] .z (.i 5 (.bool false) .a) .a ?_
      refine RZ (NT (SQ (SQ (RG ?_))))
      refine RR [0] .z (.i 9 (.int .i64 0) .a) .a ?_
      refine RZ (NT (BK (SQ (RG ?_))))
      refine RR [] .z (.i 10 (.bool true) .a) .a ?_
      refine RZ (NT (CT (RG ?_)))
      refine RR [0] (.d (.d (.d (.d .a)))) (.i 15 (.bool (n == (0 : Int))) (.d (.d (.k (.k (.k .z)))))) .a ?_
      refine SR 15 (n == (0 : Int)) false (by simp only [bne_eq_false_iff_eq, beq_eq_false_iff_ne, ne_eq]; omega) ?_
      refine RR [] .z (.d (.d (.k (.k .z)))) .a ?_
      refine RZ (BN (NT (SQ (SQ (RG ?_)))))
      refine RR [] .z (.i 73 (.bool true) (.d (.k .a))) .a ?_
      refine RZ (NT (CT (SQ (RG ?_))))
      refine RR [] .z (.i 4 (.int .i64 2) .z) .a ?_
      refine RZ (NT (RE (TR ?_)))
      refine NE [] .z .a [] (.int .i64 2) ?_
      exact ⟨by simp [rightB, *], rfl⟩
  by_cases k1 : k = 1
  · subst k1
    cases s with
    | nil =>
      refine fn_enter Tryz.func36 rfl 74 rfl fun w0 h0 => ?_
      refine SQ (RG ?_)
      refine RP [] (.d .a) 2 (.d (.k .a)) .a 94 [.int .i64 1, .int .i64 n, .string (mkS [])] fun g1 => ?_
      refine RR [] .z (.i 4 (.int .i64 0) .a) .a ?_
      refine RZ (NT (SQ (RG ?_)))
      refine RR [] .z (.i 5 (.bool false) .a) .a ?_
      refine RZ (NT (SQ (SQ (RG ?_))))
      refine RR [0] .z (.i 9 (.int .i64 1) .a) .a ?_
      refine RZ (NT (BK (SQ (RG ?_))))
      refine RR [] .z (.i 10 (.bool false) .a) .a ?_
      refine RZ (NT (CF (SQ (RG ?_))))
      refine RR [] .z (.i 20 (.bool true) (.d (.k .a))) .a ?_
      refine RZ (NT (CT (RG ?_)))
      refine RR [0] .z (.i 5 (.bool true) (.d (.d (.d (.k .z))))) .a ?_
      refine RZ (BN (NT (SQ (SQ (RG ?_)))))
      refine RR [] .z (.i 73 (.bool false) (.d (.k .a))) .a ?_
      refine RZ (NT (CF (SK (NT (SQ (RG ?_))))))
      refine RR [] .z (.d (.k .a)) .a ?_
      refine RZ (NT (RE ?_))
      refine NE [] .z .a [] (.int .i64 0) ?_
      exact ⟨by simp [rightB, *], rfl⟩
    | cons c r =>
      refine fn_enter Tryz.func36 rfl 74 rfl fun w0 h0 => ?_
      refine SQ (RG ?_)
      refine RP [] (.d .a) 2 (.d (.k .a)) .a 94 [.int .i64 1, .int .i64 n, .string (mkS (c :: r))] fun g1 => ?_
      refine RR [] .z (.i 4 (.int .i64 0) .a) .a ?_
      refine RZ (NT (SQ (RG ?_)))
      refine RR [] .z (.i 5 (.bool false) .a) .a ?_
      refine RZ (NT (SQ (SQ (RG ?_))))
      refine RR [0] .z (.i 9 (.int .i64 1) .a) .a ?_
      refine RZ (NT (BK (SQ (RG ?_))))
      refine RR [] .z (.i 10 (.bool false) .a) .a ?_
      refine RZ (NT (CF (SQ (RG ?_))))
      refine RR [] .z (.i 20 (.bool true) (.d (.k .a))) .a ?_
      refine RZ (NT (CT (RG ?_)))
      refine RR [0] .z (.d (.d (.k (.k .z)))) .a ?_
      refine RZ (BN (NT (SQ (SQ (RG ?_)))))
      refine RR [] .z (.i 73 (.bool true) (.d (.k .a))) .a ?_
      refine RZ (NT (CT (SQ (RG ?_))))
      refine RR [] .z (.i 4 (.int .i64 2) .z) .a ?_
      refine RZ (NT (RE (TR ?_)))
      refine NE [] .z .a [] (.int .i64 2) ?_
      exact ⟨by simp [rightB, *], rfl⟩
  by_cases k2 : k = 2
  · subst k2
    cases s with
    | nil =>
      by_cases hn : n = 0
      · subst hn
        refine fn_enter Tryz.func36 rfl 74 rfl fun w0 h0 => ?_
        refine SQ (RG ?_)
        refine RP [] (.d .a) 2 (.d (.k .a)) .a 94 [.int .i64 2, .int .i64 0, .string (mkS [])] fun g1 => ?_
        refine RR [] .z (.i 4 (.int .i64 0) .a) .a ?_
        refine RZ (NT (SQ (RG ?_)))
        refine RR [] .z (.i 5 (.bool false) .a) .a ?_
        refine RZ (NT (SQ (SQ (RG ?_))))
        refine RR [0] .z (.i 9 (.int .i64 2) .a) .a ?_
        refine RZ (NT (BK (SQ (RG ?_))))
        refine RR [] .z (.i 10 (.bool false) .a) .a ?_
        refine RZ (NT (CF (SQ (RG ?_))))
        refine RR [] .z (.i 20 (.bool false) (.d (.k .a))) .a ?_
        refine RZ (NT (CF (SQ (RG ?_))))
        refine RR [] .z (.i 25 (.bool true) (.d (.k .a))) .a ?_
        refine RZ (NT (CT (RG ?_)))
        refine RR [0, 0] .z (.i 5 (.bool true) (.d (.d (.d (.k .z))))) .a ?_
        refine RZ (BN (NT (SQ (SQ (RG ?_)))))
        refine RR [] .z (.i 73 (.bool false) (.d (.k .a))) .a ?_
        refine RZ (NT (CF (SK (NT (SQ (RG ?_))))))
        refine RR [] .z (.d (.k .a)) .a ?_
        refine RZ (NT (RE ?_))
        refine NE [] .z .a [] (.int .i64 0) ?_
        exact ⟨by simp [rightB, *], rfl⟩
      · by_cases hn1 : n = 1
        · subst hn1
          refine fn_enter Tryz.func36 rfl 74 rfl fun w0 h0 => ?_
          refine SQ (RG ?_)
          refine RP [] (.d .a) 2 (.d (.k .a)) .a 94 [.int .i64 2, .int .i64 1, .string (mkS [])] fun g1 => ?_
          refine RR [] .z (.i 4 (.int .i64 0) .a) .a ?_
          refine RZ (NT (SQ (RG ?_)))
          refine RR [] .z (.i 5 (.bool false) .a) .a ?_
          refine RZ (NT (SQ (SQ (RG ?_))))
          refine RR [0] .z (.i 9 (.int .i64 2) .a) .a ?_
          refine RZ (NT (BK (SQ (RG ?_))))
          refine RR [] .z (.i 10 (.bool false) .a) .a ?_
          refine RZ (NT (CF (SQ (RG ?_))))
          refine RR [] .z (.i 20 (.bool false) (.d (.k .a))) .a ?_
          refine RZ (NT (CF (SQ (RG ?_))))
          refine RR [] .z (.i 25 (.bool true) (.d (.k .a))) .a ?_
          refine RZ (NT (CT (RG ?_)))
          refine RR [0, 0, 0] .z (.i 5 (.bool true) (.d (.d (.d (.k .z))))) .a ?_
          refine RZ (BN (NT (SQ (SQ (RG ?_)))))
          refine RR [] .z (.i 73 (.bool false) (.d (.k .a))) .a ?_
          refine RZ (NT (CF (SK (NT (SQ (RG ?_))))))
          refine RR [] .z (.d (.k .a)) .a ?_
          refine RZ (NT (RE ?_))
          refine NE [] .z .a [] (.int .i64 0) ?_
          exact ⟨by simp [rightB, *], rfl⟩
        · refine fn_enter Tryz.func36 rfl 74 rfl fun w0 h0 => ?_
          refine SQ (RG ?_)
          refine RP [] (.d .a) 2 (.d (.k .a)) .a 94 [.int .i64 2, .int .i64 n, .string (mkS [])] fun g1 => ?_
          refine RR [] .z (.i 4 (.int .i64 0) .a) .a ?_
          refine RZ (NT (SQ (RG ?_)))
          refine RR [] .z (.i 5 (.bool false) .a) .a ?_
          refine RZ (NT (SQ (SQ (RG ?_))))
          refine RR [0] .z (.i 9 (.int .i64 2) .a) .a ?_
          refine RZ (NT (BK (SQ (RG ?_))))
          refine RR [] .z (.i 10 (.bool false) .a) .a ?_
          refine RZ (NT (CF (SQ (RG ?_))))
          refine RR [] .z (.i 20 (.bool false) (.d (.k .a))) .a ?_
          refine RZ (NT (CF (SQ (RG ?_))))
          refine RR [] .z (.i 25 (.bool true) (.d (.k .a))) .a ?_
          refine RZ (NT (CT (RG ?_)))
          refine RR [0, 0] (.d (.d (.d (.d (.d (.d (.d (.d .a)))))))) (.i 34 (.bool (n == (0 : Int))) (.i 30 (.bool true) (.d (.d (.k (.k (.k .z))))))) .a ?_
          refine SR 34 (n == (0 : Int)) false (by simp only [bne_eq_false_iff_eq, beq_eq_false_iff_ne, ne_eq]; omega) ?_
          refine RR [0] .z (.i 5 (.bool (n == (1 : Int))) (.d (.d (.d (.d (.k .z)))))) .a ?_
          refine RZ (BN (NT (SQ (SQ (RG ?_)))))
          refine RR [] .z (.i 73 (.bool !n == (1 : Int)) (.d (.k .a))) .a ?_
          refine RZ (NT ?_)
          refine SC 73 (!n == (1 : Int)) true (by simp; omega) ?_
          refine CT (SQ (RG ?_))
          refine RR [] .z (.i 4 (.int .i64 2) .z) .a ?_
          refine RZ (NT (RE (TR ?_)))
          refine NE [] .z .a [] (.int .i64 2) ?_
          exact ⟨by simp [rightB, *], rfl⟩
    | cons c r =>
      refine fn_enter Tryz.func36 rfl 74 rfl fun w0 h0 => ?_
      refine SQ (RG ?_)
      refine RP [] (.d .a) 2 (.d (.k .a)) .a 94 [.int .i64 2, .int .i64 n, .string (mkS (c :: r))] fun g1 => ?_
      refine RR [] .z (.i 4 (.int .i64 0) .a) .a ?_
      refine RZ (NT (SQ (RG ?_)))
      refine RR [] .z (.i 5 (.bool false) .a) .a ?_
      refine RZ (NT (SQ (SQ (RG ?_))))
      refine RR [0] .z (.i 9 (.int .i64 2) .a) .a ?_
      refine RZ (NT (BK (SQ (RG ?_))))
      refine RR [] .z (.i 10 (.bool false) .a) .a ?_
      refine RZ (NT (CF (SQ (RG ?_))))
      refine RR [] .z (.i 20 (.bool false) (.d (.k .a))) .a ?_
      refine RZ (NT (CF (SQ (RG ?_))))
      refine RR [] .z (.i 25 (.bool true) (.d (.k .a))) .a ?_
      refine RZ (NT (CT (RG ?_)))
      refine RR [0] .z (.d (.d (.k (.k .z)))) .a ?_
      refine RZ (BN (NT (SQ (SQ (RG ?_)))))
      refine RR [] .z (.i 73 (.bool true) (.d (.k .a))) .a ?_
      refine RZ (NT (CT (SQ (RG ?_))))
      refine RR [] .z (.i 4 (.int .i64 2) .z) .a ?_
      refine RZ (NT (RE (TR ?_)))
      refine NE [] .z .a [] (.int .i64 2) ?_
      exact ⟨by simp [rightB, *], rfl⟩
  by_cases k3 : k = 3
  · subst k3
    by_cases hn : n = 0
    · subst hn
      cases hp : plainB s with
      | true =>
        refine fn_enter Tryz.func36 rfl 74 rfl fun w0 h0 => ?_
        refine SQ (RG ?_)
        refine RP [] (.d .a) 2 (.d (.k .a)) .a 94 [.int .i64 3, .int .i64 0, .string (mkS s)] fun g1 => ?_
        refine RR [] .z (.i 4 (.int .i64 0) .a) .a ?_
        refine RZ (NT (SQ (RG ?_)))
        refine RR [] .z (.i 5 (.bool false) .a) .a ?_
        refine RZ (NT (SQ (SQ (RG ?_))))
        refine RR [0] .z (.i 9 (.int .i64 3) .a) .a ?_
        refine RZ (NT (BK (SQ (RG ?_))))
        refine RR [] .z (.i 10 (.bool false) .a) .a ?_
        refine RZ (NT (CF (SQ (RG ?_))))
        refine RR [] .z (.i 20 (.bool false) (.d (.k .a))) .a ?_
        refine RZ (NT (CF (SQ (RG ?_))))
        refine RR [] .z (.i 25 (.bool false) (.d (.k .a))) .a ?_
        refine RZ (NT (CF (SQ (RG ?_))))
        refine RR [] .z (.i 40 (.bool true) (.d (.k .a))) .a ?_
        refine RZ (NT (CT (SQ (RG ?_))))
        refine RR [0] (.d (.d (.d .a))) (.i 45 (.agg #[.int .i64 3, .string (mkS s), .int .i64 0, .int .i64 0, .int .i64 0]) (.d (.d (.k (.k (.k .z)))))) .a ?_
        refine RC (dst := some 46) [] .a (TextStr_spec s hl) ?_
        rintro v _ ⟨rfl, rfl⟩
        rw [hp]
        refine RR [] .z (.i 7 (.int .i64 0) (.d (.d (.k .a)))) .a ?_
        refine RZ (NT (RG ?_))
        refine RR [0] .z (.i 5 (.bool true) (.d (.d (.k .z)))) .a ?_
        refine RZ (BN (NT (SQ (SQ (RG ?_)))))
        refine RR [] .z (.i 73 (.bool false) (.d (.k .a))) .a ?_
        refine RZ (NT (CF (SK (NT (SQ (RG ?_))))))
        refine RR [] .z (.d (.k .a)) .a ?_
        refine RZ (NT (RE ?_))
        refine NE [] .z .a [] (.int .i64 0) ?_
        exact ⟨by simp [rightB, *], rfl⟩
      | false =>
        refine fn_enter Tryz.func36 rfl 74 rfl fun w0 h0 => ?_
        refine SQ (RG ?_)
        refine RP [] (.d .a) 2 (.d (.k .a)) .a 94 [.int .i64 3, .int .i64 0, .string (mkS s)] fun g1 => ?_
        refine RR [] .z (.i 4 (.int .i64 0) .a) .a ?_
        refine RZ (NT (SQ (RG ?_)))
        refine RR [] .z (.i 5 (.bool false) .a) .a ?_
        refine RZ (NT (SQ (SQ (RG ?_))))
        refine RR [0] .z (.i 9 (.int .i64 3) .a) .a ?_
        refine RZ (NT (BK (SQ (RG ?_))))
        refine RR [] .z (.i 10 (.bool false) .a) .a ?_
        refine RZ (NT (CF (SQ (RG ?_))))
        refine RR [] .z (.i 20 (.bool false) (.d (.k .a))) .a ?_
        refine RZ (NT (CF (SQ (RG ?_))))
        refine RR [] .z (.i 25 (.bool false) (.d (.k .a))) .a ?_
        refine RZ (NT (CF (SQ (RG ?_))))
        refine RR [] .z (.i 40 (.bool true) (.d (.k .a))) .a ?_
        refine RZ (NT (CT (SQ (RG ?_))))
        refine RR [0] (.d (.d (.d .a))) (.i 45 (.agg #[.int .i64 3, .string (mkS s), .int .i64 0, .int .i64 0, .int .i64 0]) (.d (.d (.k (.k (.k .z)))))) .a ?_
        refine RC (dst := some 46) [] .a (TextStr_spec s hl) ?_
        rintro v _ ⟨rfl, rfl⟩
        rw [hp]
        refine RR [] .z (.i 7 (.int .i64 2) (.d (.d (.k .a)))) .a ?_
        refine RZ (NT (RG ?_))
        refine RR [0] .z (.d (.k (.k .z))) .a ?_
        refine RZ (BN (NT (SQ (SQ (RG ?_)))))
        refine RR [] .z (.i 73 (.bool true) (.d (.k .a))) .a ?_
        refine RZ (NT (CT (SQ (RG ?_))))
        refine RR [] .z (.i 4 (.int .i64 2) .z) .a ?_
        refine RZ (NT (RE (TR ?_)))
        refine NE [] .z .a [] (.int .i64 2) ?_
        exact ⟨by simp [rightB, *], rfl⟩
    · cases hp : plainB s with
      | true =>
        refine fn_enter Tryz.func36 rfl 74 rfl fun w0 h0 => ?_
        refine SQ (RG ?_)
        refine RP [] (.d .a) 2 (.d (.k .a)) .a 94 [.int .i64 3, .int .i64 n, .string (mkS s)] fun g1 => ?_
        refine RR [] .z (.i 4 (.int .i64 0) .a) .a ?_
        refine RZ (NT (SQ (RG ?_)))
        refine RR [] .z (.i 5 (.bool false) .a) .a ?_
        refine RZ (NT (SQ (SQ (RG ?_))))
        refine RR [0] .z (.i 9 (.int .i64 3) .a) .a ?_
        refine RZ (NT (BK (SQ (RG ?_))))
        refine RR [] .z (.i 10 (.bool false) .a) .a ?_
        refine RZ (NT (CF (SQ (RG ?_))))
        refine RR [] .z (.i 20 (.bool false) (.d (.k .a))) .a ?_
        refine RZ (NT (CF (SQ (RG ?_))))
        refine RR [] .z (.i 25 (.bool false) (.d (.k .a))) .a ?_
        refine RZ (NT (CF (SQ (RG ?_))))
        refine RR [] .z (.i 40 (.bool true) (.d (.k .a))) .a ?_
        refine RZ (NT (CT (SQ (RG ?_))))
        refine RR [0] (.d (.d (.d .a))) (.i 45 (.agg #[.int .i64 3, .string (mkS s), .int .i64 0, .int .i64 0, .int .i64 0]) (.d (.d (.k (.k (.k .z)))))) .a ?_
        refine RC (dst := some 46) [] .a (TextStr_spec s hl) ?_
        rintro v _ ⟨rfl, rfl⟩
        rw [hp]
        refine RR [] .z (.i 7 (.int .i64 0) (.d (.d (.k .a)))) .a ?_
        refine RZ (NT (RG ?_))
        refine RR [0] (.d (.d (.d (.d .a)))) (.i 52 (.bool (n == (0 : Int))) (.k (.k (.k .z)))) .a ?_
        refine SR 52 (n == (0 : Int)) false (by simp only [bne_eq_false_iff_eq, beq_eq_false_iff_ne, ne_eq]; omega) ?_
        refine RR [] .z (.d (.d (.d (.k .a)))) .a ?_
        refine RZ (BN (NT (SQ (SQ (RG ?_)))))
        refine RR [] .z (.i 73 (.bool true) (.d (.k .a))) .a ?_
        refine RZ (NT (CT (SQ (RG ?_))))
        refine RR [] .z (.i 4 (.int .i64 2) .z) .a ?_
        refine RZ (NT (RE (TR ?_)))
        refine NE [] .z .a [] (.int .i64 2) ?_
        exact ⟨by simp [rightB, *], rfl⟩
      | false =>
        refine fn_enter Tryz.func36 rfl 74 rfl fun w0 h0 => ?_
        refine SQ (RG ?_)
        refine RP [] (.d .a) 2 (.d (.k .a)) .a 94 [.int .i64 3, .int .i64 n, .string (mkS s)] fun g1 => ?_
        refine RR [] .z (.i 4 (.int .i64 0) .a) .a ?_
        refine RZ (NT (SQ (RG ?_)))
        refine RR [] .z (.i 5 (.bool false) .a) .a ?_
        refine RZ (NT (SQ (SQ (RG ?_))))
        refine RR [0] .z (.i 9 (.int .i64 3) .a) .a ?_
        refine RZ (NT (BK (SQ (RG ?_))))
        refine RR [] .z (.i 10 (.bool false) .a) .a ?_
        refine RZ (NT (CF (SQ (RG ?_))))
        refine RR [] .z (.i 20 (.bool false) (.d (.k .a))) .a ?_
        refine RZ (NT (CF (SQ (RG ?_))))
        refine RR [] .z (.i 25 (.bool false) (.d (.k .a))) .a ?_
        refine RZ (NT (CF (SQ (RG ?_))))
        refine RR [] .z (.i 40 (.bool true) (.d (.k .a))) .a ?_
        refine RZ (NT (CT (SQ (RG ?_))))
        refine RR [0] (.d (.d (.d .a))) (.i 45 (.agg #[.int .i64 3, .string (mkS s), .int .i64 0, .int .i64 0, .int .i64 0]) (.d (.d (.k (.k (.k .z)))))) .a ?_
        refine RC (dst := some 46) [] .a (TextStr_spec s hl) ?_
        rintro v _ ⟨rfl, rfl⟩
        rw [hp]
        refine RR [] .z (.i 7 (.int .i64 2) (.d (.d (.k .a)))) .a ?_
        refine RZ (NT (RG ?_))
        refine RR [0] (.d (.d (.d (.d .a)))) (.i 52 (.bool (n == (0 : Int))) (.k (.k (.k .z)))) .a ?_
        refine SR 52 (n == (0 : Int)) false (by simp only [bne_eq_false_iff_eq, beq_eq_false_iff_ne, ne_eq]; omega) ?_
        refine RR [] .z (.d (.d (.d (.k .a)))) .a ?_
        refine RZ (BN (NT (SQ (SQ (RG ?_)))))
        refine RR [] .z (.i 73 (.bool true) (.d (.k .a))) .a ?_
        refine RZ (NT (CT (SQ (RG ?_))))
        refine RR [] .z (.i 4 (.int .i64 2) .z) .a ?_
        refine RZ (NT (RE (TR ?_)))
        refine NE [] .z .a [] (.int .i64 2) ?_
        exact ⟨by simp [rightB, *], rfl⟩
  by_cases k4 : k = 4
  · subst k4
    cases s with
    | nil =>
      by_cases h0 : 0 ≤ n
      · by_cases hm : n < m
        · refine fn_enter Tryz.func36 rfl 74 rfl fun w0 h0 => ?_
          refine SQ (RG ?_)
          refine RP [] (.d .a) 2 (.d (.k .a)) .a 94 [.int .i64 4, .int .i64 n, .string (mkS [])] fun g1 => ?_
          refine RR [] .z (.i 4 (.int .i64 0) .a) .a ?_
          refine RZ (NT (SQ (RG ?_)))
          refine RR [] .z (.i 5 (.bool false) .a) .a ?_
          refine RZ (NT (SQ (SQ (RG ?_))))
          refine RR [0] .z (.i 9 (.int .i64 4) .a) .a ?_
          refine RZ (NT (BK (SQ (RG ?_))))
          refine RR [] .z (.i 10 (.bool false) .a) .a ?_
          refine RZ (NT (CF (SQ (RG ?_))))
          refine RR [] .z (.i 20 (.bool false) (.d (.k .a))) .a ?_
          refine RZ (NT (CF (SQ (RG ?_))))
          refine RR [] .z (.i 25 (.bool false) (.d (.k .a))) .a ?_
          refine RZ (NT (CF (SQ (RG ?_))))
          refine RR [] .z (.i 40 (.bool false) (.d (.k .a))) .a ?_
          refine RZ (NT (CF (SQ (RG ?_))))
          refine RR [] .z (.i 56 (.bool true) (.d (.d (.k .a)))) .a ?_
          refine RZ (NT (CT (RG ?_)))
          refine RR [0, 0] (.d (.d (.d (.d (.d (.d (.d (.d (.d .a))))))))) (.i 66 (.bool (decide (n ≥ (0 : Int)))) (.d (.k .a))) .a ?_
          refine SR 66 (decide (n ≥ (0 : Int))) true (decide_eq_true (by omega)) ?_
          refine RR [0] .z (.i 5 (.bool (decide (n < m))) (.d (.d (.d (.k .z))))) .a ?_
          refine RZ (BN (NT (SQ (SQ (RG ?_)))))
          refine RR [] .z (.i 73 (.bool !decide (n < m)) (.d (.k .a))) .a ?_
          refine RZ (NT ?_)
          refine SC 73 (!decide (n < m)) false (by simp; omega) ?_
          refine CF (SK (NT (SQ (RG ?_))))
          refine RR [] .z (.d (.d (.k .a))) .a ?_
          refine RZ (NT (RE ?_))
          refine NE [] .z .a [] (.int .i64 0) ?_
          exact ⟨by simp [rightB, *], rfl⟩
        · refine fn_enter Tryz.func36 rfl 74 rfl fun w0 h0 => ?_
          refine SQ (RG ?_)
          refine RP [] (.d .a) 2 (.d (.k .a)) .a 94 [.int .i64 4, .int .i64 n, .string (mkS [])] fun g1 => ?_
          refine RR [] .z (.i 4 (.int .i64 0) .a) .a ?_
          refine RZ (NT (SQ (RG ?_)))
          refine RR [] .z (.i 5 (.bool false) .a) .a ?_
          refine RZ (NT (SQ (SQ (RG ?_))))
          refine RR [0] .z (.i 9 (.int .i64 4) .a) .a ?_
          refine RZ (NT (BK (SQ (RG ?_))))
          refine RR [] .z (.i 10 (.bool false) .a) .a ?_
          refine RZ (NT (CF (SQ (RG ?_))))
          refine RR [] .z (.i 20 (.bool false) (.d (.k .a))) .a ?_
          refine RZ (NT (CF (SQ (RG ?_))))
          refine RR [] .z (.i 25 (.bool false) (.d (.k .a))) .a ?_
          refine RZ (NT (CF (SQ (RG ?_))))
          refine RR [] .z (.i 40 (.bool false) (.d (.k .a))) .a ?_
          refine RZ (NT (CF (SQ (RG ?_))))
          refine RR [] .z (.i 56 (.bool true) (.d (.d (.k .a)))) .a ?_
          refine RZ (NT (CT (RG ?_)))
          refine RR [0, 0] (.d (.d (.d (.d (.d (.d (.d (.d (.d .a))))))))) (.i 66 (.bool (decide (n ≥ (0 : Int)))) (.d (.k .a))) .a ?_
          refine SR 66 (decide (n ≥ (0 : Int))) true (decide_eq_true (by omega)) ?_
          refine RR [0] .z (.i 5 (.bool (decide (n < m))) (.d (.d (.d (.k .z))))) .a ?_
          refine RZ (BN (NT (SQ (SQ (RG ?_)))))
          refine RR [] .z (.i 73 (.bool !decide (n < m)) (.d (.k .a))) .a ?_
          refine RZ (NT ?_)
          refine SC 73 (!decide (n < m)) true (by simp; omega) ?_
          refine CT (SQ (RG ?_))
          refine RR [] .z (.i 4 (.int .i64 2) .z) .a ?_
          refine RZ (NT (RE (TR ?_)))
          refine NE [] .z .a [] (.int .i64 2) ?_
          exact ⟨by simp [rightB, *], rfl⟩
      · refine fn_enter Tryz.func36 rfl 74 rfl fun w0 h0 => ?_
        refine SQ (RG ?_)
        refine RP [] (.d .a) 2 (.d (.k .a)) .a 94 [.int .i64 4, .int .i64 n, .string (mkS [])] fun g1 => ?_
        refine RR [] .z (.i 4 (.int .i64 0) .a) .a ?_
        refine RZ (NT (SQ (RG ?_)))
        refine RR [] .z (.i 5 (.bool false) .a) .a ?_
        refine RZ (NT (SQ (SQ (RG ?_))))
        refine RR [0] .z (.i 9 (.int .i64 4) .a) .a ?_
        refine RZ (NT (BK (SQ (RG ?_))))
        refine RR [] .z (.i 10 (.bool false) .a) .a ?_
        refine RZ (NT (CF (SQ (RG ?_))))
        refine RR [] .z (.i 20 (.bool false) (.d (.k .a))) .a ?_
        refine RZ (NT (CF (SQ (RG ?_))))
        refine RR [] .z (.i 25 (.bool false) (.d (.k .a))) .a ?_
        refine RZ (NT (CF (SQ (RG ?_))))
        refine RR [] .z (.i 40 (.bool false) (.d (.k .a))) .a ?_
        refine RZ (NT (CF (SQ (RG ?_))))
        refine RR [] .z (.i 56 (.bool true) (.d (.d (.k .a)))) .a ?_
        refine RZ (NT (CT (RG ?_)))
        refine RR [0, 0] (.d (.d (.d (.d (.d (.d (.d (.d (.d .a))))))))) (.i 66 (.bool (decide (n ≥ (0 : Int)))) (.d (.k .a))) .a ?_
        refine SR 66 (decide (n ≥ (0 : Int))) false (decide_eq_false (by omega)) ?_
        refine RR [] .z (.d (.d (.k (.k .z)))) .a ?_
        refine RZ (BN (NT (SQ (SQ (RG ?_)))))
        refine RR [] .z (.i 73 (.bool true) (.d (.k .a))) .a ?_
        refine RZ (NT (CT (SQ (RG ?_))))
        refine RR [] .z (.i 4 (.int .i64 2) .z) .a ?_
        refine RZ (NT (RE (TR ?_)))
        refine NE [] .z .a [] (.int .i64 2) ?_
        exact ⟨by simp [rightB, *], rfl⟩
    | cons c r =>
      refine fn_enter Tryz.func36 rfl 74 rfl fun w0 h0 => ?_
      refine SQ (RG ?_)
      refine RP [] (.d .a) 2 (.d (.k .a)) .a 94 [.int .i64 4, .int .i64 n, .string (mkS (c :: r))] fun g1 => ?_
      refine RR [] .z (.i 4 (.int .i64 0) .a) .a ?_
      refine RZ (NT (SQ (RG ?_)))
      refine RR [] .z (.i 5 (.bool false) .a) .a ?_
      refine RZ (NT (SQ (SQ (RG ?_))))
      refine RR [0] .z (.i 9 (.int .i64 4) .a) .a ?_
      refine RZ (NT (BK (SQ (RG ?_))))
      refine RR [] .z (.i 10 (.bool false) .a) .a ?_
      refine RZ (NT (CF (SQ (RG ?_))))
      refine RR [] .z (.i 20 (.bool false) (.d (.k .a))) .a ?_
      refine RZ (NT (CF (SQ (RG ?_))))
      refine RR [] .z (.i 25 (.bool false) (.d (.k .a))) .a ?_
      refine RZ (NT (CF (SQ (RG ?_))))
      refine RR [] .z (.i 40 (.bool false) (.d (.k .a))) .a ?_
      refine RZ (NT (CF (SQ (RG ?_))))
      refine RR [] .z (.i 56 (.bool true) (.d (.d (.k .a)))) .a ?_
      refine RZ (NT (CT (RG ?_)))
      refine RR [0] .z (.d (.k (.k .z))) .a ?_
      refine RZ (BN (NT (SQ (SQ (RG ?_)))))
      refine RR [] .z (.i 73 (.bool true) (.d (.k .a))) .a ?_
      refine RZ (NT (CT (SQ (RG ?_))))
      refine RR [] .z (.i 4 (.int .i64 2) .z) .a ?_
      refine RZ (NT (RE (TR ?_)))
      refine NE [] .z .a [] (.int .i64 2) ?_
      exact ⟨by simp [rightB, *], rfl⟩
  refine fn_enter Tryz.func36 rfl 74 rfl fun w0 h0 => ?_
  refine SQ (RG ?_)
  refine RP [] (.d .a) 2 (.d (.k .a)) .a 94 [.int .i64 k, .int .i64 n, .string (mkS s)] fun g1 => ?_
  refine RR [] .z (.i 4 (.int .i64 0) .a) .a ?_
  refine RZ (NT (SQ (RG ?_)))
  refine RR [] .z (.i 5 (.bool false) .a) .a ?_
  refine RZ (NT (SQ (SQ (RG ?_))))
  refine RR [0] .z (.i 9 (.int .i64 k) .a) .a ?_
  refine RZ (NT (BK (SQ (RG ?_))))
  refine RR [] .z (.i 10 (.bool (k == (0 : Int))) .a) .a ?_
  refine RZ (NT ?_)
  refine SC 10 (k == (0 : Int)) false (by simp only [bne_eq_false_iff_eq, beq_eq_false_iff_ne, ne_eq]; omega) ?_
  refine CF (SQ (RG ?_))
  refine RR [] .z (.i 20 (.bool (k == (1 : Int))) (.d (.d (.k .a)))) .a ?_
  refine RZ (NT ?_)
  refine SC 20 (k == (1 : Int)) false (by simp only [bne_eq_false_iff_eq, beq_eq_false_iff_ne, ne_eq]; omega) ?_
  refine CF (SQ (RG ?_))
  refine RR [] .z (.i 25 (.bool (k == (2 : Int))) (.d (.d (.k .a)))) .a ?_
  refine RZ (NT ?_)
  refine SC 25 (k == (2 : Int)) false (by simp only [bne_eq_false_iff_eq, beq_eq_false_iff_ne, ne_eq]; omega) ?_
  refine CF (SQ (RG ?_))
  refine RR [] .z (.i 40 (.bool (k == (3 : Int))) (.d (.d (.k .a)))) .a ?_
  refine RZ (NT ?_)
  refine SC 40 (k == (3 : Int)) false (by simp only [bne_eq_false_iff_eq, beq_eq_false_iff_ne, ne_eq]; omega) ?_
  refine CF (SQ (RG ?_))
  refine RR [] .z (.i 56 (.bool (k == (4 : Int))) (.d (.d (.d (.k .a))))) .a ?_
  refine RZ (NT ?_)
  refine SC 56 (k == (4 : Int)) false (by simp only [bne_eq_false_iff_eq, beq_eq_false_iff_ne, ne_eq]; omega) ?_
  refine CF (SK (BN (NT (SQ (SQ (RG ?_))))))
  refine RR [] .z (.i 73 (.bool true) (.d (.d (.d (.k .z))))) .a ?_
  refine RZ (NT (CT (SQ (RG ?_))))
  refine RR [] .z (.i 4 (.int .i64 2) .z) .a ?_
  refine RZ (NT (RE (TR ?_)))
  refine NE [] .z .a [] (.int .i64 2) ?_
  exact ⟨by simp [rightB, *], rfl⟩
end Go.Proofs.YtgcfomhlgipllaaGreatDoor
namespace Go.Proofs.YtgcfomhlgipllaaGreatDoor
open Go Go.Sx
def V.sm (v : V) : Prop := v.s.length ≤ 1048576
def smL (l : List V) : Prop := ∀ v ∈ l, v.sm
end Go.Proofs.YtgcfomhlgipllaaGreatDoor
namespace Go.Proofs.YtgcfomhlgipllaaGreatDoor
open Go Go.Sx
def Ob.n (o : Ob) : Nat := o.cells.length
def mostI (m : Int) : Int := if (if 4096 < m then 4096 else m) > 0 then if 4096 < m then 4096 else m else 0
theorem New_spec (m : Int) : Does Tryz.prog 73 [.int .i64 m] [] (fun v hp' => ∃ g, v = .pointer (some ⟨g, 0, none⟩) ∧ hp' = [.blk g 198 [.bool true, .int .i64 (mostI m), .int .i64 0, .slice none 0 0]]) := by
  refine fn_enter Tryz.func73 rfl 8 rfl fun w0 h0 => ?_
  refine SQ (RG ?_)
  refine RR [] .z (.i 2 (.pointer none) .a) .a ?_
  refine RZ (NT (SQ (RG ?_)))
  refine RP [] (.d (.d (.d (.d (.d .a))))) 7 (.k .z) .a 198 [.bool true, .int .i64 (if (if 4096 < m then 4096 else m) > 0 then if 4096 < m then 4096 else m else 0), .int .i64 0, .slice none 0 0] fun g1 => ?_
  refine RR [] .z (.i 2 (.pointer (some ⟨g1, 0, none⟩)) .z) .a ?_
  refine RZ (NT (RE ?_))
  refine NE [0] .a .z [] (.pointer (some ⟨g1, 0, none⟩)) ?_
  exact ⟨g1, rfl, rfl⟩
theorem isRo_spec (g : Nat) (x y : Value) (s : Value) : Does Tryz.prog 123 [.pointer (some ⟨g, 0, none⟩)] [ro (some ⟨g, 0, none⟩) [.bool true, x, y, s]] (fun v hp' => v = .bool true ∧ hp' = []) := by
  refine fn_enter Tryz.func123 rfl 11 rfl fun w0 h0 => ?_
  refine SQ (RG ?_)
  refine RR [] .z (.i 2 (.bool false) .a) .a ?_
  refine RZ (NT (SQ (RG ?_)))
  refine RR [] (.d (.d (.d (.d (.d (.d .a)))))) (.i 8 (.pointer (some ⟨g, 0, none⟩)) (.i 5 (.bool true) (.k .z))) .a ?_
  refine wpr_eq (ld (t := 4) (a := ⟨g, 0, none⟩) (dst := some 9) (by kernel_rfl) false 1 (by kernel_rfl) (by simp) [.bool true] rfl (fun w h => ld_ro h 0 rfl 0 rfl)) ?_
  refine RR [] .z (.i 2 (.bool true) .z) .a ?_
  refine RZ (NT (RE ?_))
  refine NE [] .z .a [] (.bool true) ?_
  exact ⟨rfl, rfl⟩
theorem isNil_spec : Does Tryz.prog 123 [.pointer none] [] (fun v hp' => v = .bool false ∧ hp' = []) := by
  refine fn_enter Tryz.func123 rfl 11 rfl fun w0 h0 => ?_
  refine SQ (RG ?_)
  refine RR [] .z (.i 2 (.bool false) .a) .a ?_
  refine RZ (NT (SQ (RG ?_)))
  refine RR [] .z (.k .z) .a ?_
  refine RZ (NT (RE ?_))
  refine NE [] .a .a [] (.bool false) ?_
  exact ⟨rfl, rfl⟩
end Go.Proofs.YtgcfomhlgipllaaGreatDoor
namespace Go.Proofs.YtgcfomhlgipllaaGreatDoor
open Go Go.Sx
def noV : V := ⟨0, 0, []⟩
end Go.Proofs.YtgcfomhlgipllaaGreatDoor
namespace Go.Proofs.YtgcfomhlgipllaaGreatDoor
open Go Go.Sx
def refB (v : V) (m : Nat) : Bool := decide (v.k = 4) && rightB v m
theorem refB_lt {v : V} {m : Nat} (h : refB v m = true) : v.k = 4 ∧ v.s = [] ∧ 0 ≤ v.n ∧ v.n < m := by
  unfold refB rightB at h
  simp only [Bool.and_eq_true, decide_eq_true_eq] at h
  obtain ⟨h1, h2⟩ := h
  rw [if_neg (by omega), if_neg (by omega), if_neg (by omega), if_neg (by omega), if_pos h1] at h2
  simp only [Bool.and_eq_true, decide_eq_true_eq] at h2
  exact ⟨h1, h2.1.1, h2.1.2, h2.2⟩
theorem obj_cells {l : List Ob} {q : Nat} (hq : q < l.length) : ((l.flatMap objC).drop (q * 2 + 1)).take 1 = [.slice l[q].a l[q].cells.length l[q].c] := by
  have := congrArg (List.drop 1) (objs_at hq)
  rw [List.drop_take, List.drop_drop] at this
  exact this
def emptyO : O := ([], [])
def objAt (l : List O) (v : V) : O := l.getD v.n.toNat emptyO
theorem objAt_map {l : List Ob} {v : V} (h : v.n.toNat < l.length) : objAt (l.map Ob.o) v = l[v.n.toNat].o := by
  unfold objAt
  rw [List.getD_eq_getElem?_getD, List.getElem?_map, List.getElem?_eq_getElem h]; rfl
end Go.Proofs.YtgcfomhlgipllaaGreatDoor
namespace Go.Proofs.YtgcfomhlgipllaaGreatDoor
open Go Go.Sx
theorem val_at {l : List V} {q : Nat} (hq : q < l.length) : l.getD q noV = l[q] := by
  rw [List.getD_eq_getElem?_getD, List.getElem?_eq_getElem hq]; rfl
end Go.Proofs.YtgcfomhlgipllaaGreatDoor
namespace Go.Proofs.YtgcfomhlgipllaaGreatDoor
open Go Go.Sx
theorem obRo_in {l : List Ob} {q : Nat} (hq : q < l.length) : ro l[q].a (l[q].cells.flatMap valC) ∈ l.map obRo :=
  List.mem_map.2 ⟨l[q], List.getElem_mem hq, rfl⟩
end Go.Proofs.YtgcfomhlgipllaaGreatDoor
namespace Go.Proofs.YtgcfomhlgipllaaGreatDoor
open Go Go.Sx
def Ob.sm (o : Ob) : Prop := o.tag.length ≤ 1048576 ∧ o.cells.length ≤ o.c ∧ o.cells.length ≤ 1048576 ∧ smL o.cells
end Go.Proofs.YtgcfomhlgipllaaGreatDoor
namespace Go.Proofs.YtgcfomhlgipllaaGreatDoor
open Go Go.Sx
theorem BString_spec (g : Nat) (y : Value) (a : Option Addr) (c : Nat) (bs : List UInt8) (x : Value) (hb : bs ≠ []) : Does Tryz.prog 125 [.pointer (some ⟨g, 0, none⟩)] [.blk g 204 [y, .slice a bs.length c, x], row 5 1 a bs.length c (u8s bs)]
    (fun u hp' => u = .string (mkS bs) ∧ hp' = [.blk g 204 [y, .slice a bs.length c, x]]) := by
  have hpos : 0 < bs.length := List.length_pos_iff.2 hb
  refine fn_enter Tryz.func125 rfl 14 rfl fun w0 h0 => ?_
  refine SQ (RG ?_)
  refine RR [] .z (.i 2 (.string ⟨#[]⟩) .a) .a ?_
  refine RZ (NT (SQ ?_))
  refine wpc_fact (fun w h => row_addr h 1 rfl hpos) ?_
  rintro ⟨ga, oa, rfl⟩
  refine wpc_fact (fun w h => row_cap h 1 rfl) fun hcap => ?_
  have hc1 := hcap.1
  refine wpc_draw (by kernel_rfl) [.blk g 204 [y, .slice (some ⟨ga, oa, none⟩) bs.length c, x]] (sub_of [0] (by kernel_rfl)) 12 (by kernel_rfl) ?_
  refine TK 3 [(0, []), (1, []), (2, []), (3, [0]), (5, []), (6, []), (7, []), (8, [0]), (9, [])] (.i 12 (.int .i64 (↑bs.length : Int)) (.i 6 (.slice (some ⟨ga, oa, none⟩) bs.length c) (.k .z))) (#[true, true, true, true, false, true, true, true, true, true, false, false]) ?_
  refine wpa_eq (i := 4) (n := 2) (by kernel_rfl) (step_usd (ad := ⟨ga, oa, none⟩) (n := bs.length) (c := c) (dst := some 7) (by kernel_rfl) (by omega)) (sub_of [0] (by kernel_rfl)) ?_
  refine wpa_eq (i := 10) (n := 1) (by kernel_rfl) (step_ustr (g := ga) (off := oa) (t := 241) (bs := bs) (dst := some 13) (by kernel_rfl) 1 (T := 5) (cap := c) rfl (by kernel_rfl) hb) (sub_of [0] (by kernel_rfl)) ?_
  refine TK 0 [(11, [])] (.i 2 (.string (mkS bs)) .z) (#[true, true, true, true, true, true, true, true, true, true, true, true]) ?_
  refine wpa_done 0 (by kernel_rfl) ?_
  refine NT (RE ?_)
  refine NE [0] .a .z [] (.string (mkS bs)) ?_
  exact ⟨rfl, rfl⟩
/-! What a value is like, plain. -/
def sepP (f : V → List UInt8) (cs : List V) (i : Nat) : List UInt8 := ((List.range i).map fun j => (if j = 0 then [] else [44, 32]) ++ f (cs.getD j noV)).flatten
def cellsT (f : V → List UInt8) (cs : List V) : List UInt8 := if 8 < cs.length then sepP f cs 8 ++ [44, 32, 46, 46, 46] else sepP f cs cs.length
def objT (f : V → List UInt8) (o : O) : List UInt8 := if o.1 = [] then [91] ++ cellsT f o.2 ++ [93] else o.1 ++ [40] ++ cellsT f o.2 ++ [41]
def txt (l : List O) : Nat → V → List UInt8
  | d, v => if v.k = 0 then [110, 111, 110, 101] else if v.k = 1 then Lib.itoa v.n else if v.k = 2 then (if v.n = 1 then [116, 114, 117, 101] else [102, 97, 108, 115, 101]) else if v.k = 3 then quoL v.s else match d with
    | 0 => [46, 46, 46]
    | d + 1 => objT (txt l d) (objAt l v)
theorem sepP_succ (f : V → List UInt8) (cs : List V) (i : Nat) (hi : i < cs.length) : sepP f cs (i + 1) = sepP f cs i ++ (if i = 0 then [] else [44, 32]) ++ f cs[i] := by
  unfold sepP
  rw [List.range_succ, List.map_append, List.flatten_append, List.map_singleton, List.flatten_singleton, val_at hi, List.append_assoc]
def V.i64 (v : V) : Prop := -9223372036854775808 ≤ v.n ∧ v.n ≤ 9223372036854775807
def showV (m : Nat) (v : V) : Prop := v.sm ∧ v.i64 ∧ rightB v m = true
def okHeap (L : List O) : Prop := ∀ o ∈ L, o.1.length ≤ 1048576 ∧ o.2.length ≤ 1048576 ∧ ∀ v ∈ o.2, showV L.length v
def tB : Nat → Nat | 0 => 1100 | d + 1 => 1048600 + 9 * (tB d + 2)
theorem sepP_len {f : V → List UInt8} {cs : List V} {B : Nat} (hf : ∀ v ∈ cs, (f v).length ≤ B) : ∀ i, i ≤ cs.length → (sepP f cs i).length ≤ i * (B + 2)
  | 0, _ => Nat.zero_le _
  | i + 1, hi => by
    rw [sepP_succ f cs i hi, List.length_append, List.length_append]
    have h1 := sepP_len hf i (by omega)
    have h2 := hf cs[i] (List.getElem_mem hi)
    have h3 : (if i = 0 then ([] : List UInt8) else [44, 32]).length ≤ 2 := by split <;> simp
    rw [Nat.succ_mul]; omega
theorem cellsT_len {f : V → List UInt8} {cs : List V} {B : Nat} (hf : ∀ v ∈ cs, (f v).length ≤ B) : (cellsT f cs).length ≤ 8 * (B + 2) + 5 := by
  unfold cellsT
  split
  · rename_i h
    have := sepP_len hf 8 (by omega)
    rw [List.length_append]; simp only [List.length_cons, List.length_nil]; omega
  · have h1 := sepP_len hf cs.length (Nat.le_refl _)
    have h2 : cs.length * (B + 2) ≤ 8 * (B + 2) := Nat.mul_le_mul_right _ (by omega)
    omega
theorem itoa_len {n : Int} (h : -9223372036854775808 ≤ n ∧ n ≤ 9223372036854775807) : (Lib.itoa n).length ≤ 20 := by
  unfold Lib.itoa
  split
  · have := dec_len n.natAbs 19 (by omega)
    simp only [List.length_cons]; omega
  · have := dec_len n.toNat 19 (by omega)
    omega
theorem right_plain {v : V} {m : Nat} (h : rightB v m = true) (hk : v.k = 3) : plainB v.s = true := by
  unfold rightB at h
  rw [if_neg (by omega), if_neg (by omega), if_neg (by omega), if_pos hk] at h
  simp only [Bool.and_eq_true] at h
  exact h.2
theorem quo_len {s : List UInt8} (h : plainB s = true) : (quoL s).length ≤ 512 := by
  unfold plainB at h
  simp only [Bool.and_eq_true, decide_eq_true_eq] at h
  have h1 := escL_len s
  have h2 : spN s ≤ s.length := List.countP_le_length
  unfold quoL
  simp only [List.length_append, List.length_singleton]; omega
theorem right_kind {v : V} {m : Nat} (h : rightB v m = true) : v.k = 0 ∨ v.k = 1 ∨ v.k = 2 ∨ v.k = 3 ∨ v.k = 4 := by
  unfold rightB at h
  by_cases h0 : v.k = 0
  · exact .inl h0
  by_cases h1 : v.k = 1
  · exact .inr (.inl h1)
  by_cases h2 : v.k = 2
  · exact .inr (.inr (.inl h2))
  by_cases h3 : v.k = 3
  · exact .inr (.inr (.inr (.inl h3)))
  by_cases h4 : v.k = 4
  · exact .inr (.inr (.inr (.inr h4)))
  rw [if_neg h0, if_neg h1, if_neg h2, if_neg h3, if_neg h4] at h; cases h
theorem right_ref {v : V} {m : Nat} (h : rightB v m = true) (hk : v.k = 4) : 0 ≤ v.n ∧ v.n < m := by
  have : refB v m = true := by unfold refB; rw [h, decide_eq_true hk]; rfl
  exact (refB_lt this).2.2
theorem objAt_mem {L : List O} {v : V} (h : v.n.toNat < L.length) : objAt L v ∈ L := by
  unfold objAt
  rw [List.getD_eq_getElem?_getD, List.getElem?_eq_getElem h]
  exact List.getElem_mem h
theorem objT_len {L : List O} {f : V → List UInt8} {B : Nat} {o : O} (ho : o.1.length ≤ 1048576) (hf : ∀ v ∈ o.2, (f v).length ≤ B) : (objT f o).length ≤ 1048600 + 9 * (B + 2) := by
  have h1 := cellsT_len hf
  unfold objT
  split
  · simp only [List.length_append, List.length_singleton]; omega
  · simp only [List.length_append, List.length_singleton]; omega
theorem txt_len {L : List O} (hL : okHeap L) : ∀ (d : Nat) (v : V), showV L.length v → (txt L d v).length ≤ tB d := by
  intro d
  induction d with
  | zero =>
    rintro v ⟨h1, h2, h3⟩
    unfold txt
    split
    · simp [tB]
    split
    · have := itoa_len h2; simp only [tB]; omega
    split
    · split <;> simp [tB]
    split
    · rename_i hk
      have := quo_len (right_plain h3 hk); simp only [tB]; omega
    · simp [tB]
  | succ d ih =>
    rintro v ⟨h1, h2, h3⟩
    unfold txt
    split
    · simp only [tB, List.length_cons, List.length_nil]; omega
    split
    · have := itoa_len h2; simp only [tB]; omega
    split
    · split <;> (simp only [tB, List.length_cons, List.length_nil]; omega)
    split
    · rename_i hk
      have := quo_len (right_plain h3 hk); simp only [tB]; omega
    · rename_i k0 k1 k2 k3
      have hk : v.k = 4 := by rcases right_kind h3 with h | h | h | h | h <;> first | exact h | exact absurd h (by assumption)
      have hr := right_ref h3 hk
      have hm := objAt_mem (L := L) (v := v) (by omega)
      obtain ⟨g1, g2, g3⟩ := hL _ hm
      exact objT_len (L := L) g1 fun u hu => ih u (g3 u hu)
end Go.Proofs.YtgcfomhlgipllaaGreatDoor
namespace Go.Proofs.YtgcfomhlgipllaaGreatDoor
open Go Go.Sx
def wrH (gw : Nat) (ad aw : Option Addr) (cw : Nat) (bs : List UInt8) (g : Nat) : Hp := [.blk gw 204 [.pointer ad, .slice aw bs.length cw, .pointer (some ⟨g, 0, none⟩)], row 5 1 aw bs.length cw (u8s bs)]
def hctx (g : Nat) (most : Int) (used : Nat) (a : Option Addr) (c : Nat) (l : List Ob) : Hp := [ro (some ⟨g, 0, none⟩) [.bool true, .int .i64 most, .int .i64 used, .slice a l.length c], ro a (l.flatMap objC), gBag l, gPow]
def ValS (g : Nat) (most : Int) (used : Nat) (a : Option Addr) (c : Nat) (l : List Ob) (d : Nat) (v : V) : Prop := ∀ (gw : Nat) (ad aw : Option Addr) (cw : Nat) (bs : List UInt8), (ad = none ∨ ad = some ⟨gw, 0, none⟩) → bs.length + tB d ≤ 68719476736 →
  Does Tryz.prog 124 [.pointer (some ⟨gw, 0, none⟩), valV v, .int .i64 d] (wrH gw ad aw cw bs g ++ hctx g most used a c l)
    (fun u hp' => ∃ a' c', u = .tuple #[] ∧ hp' = wrH gw (some ⟨gw, 0, none⟩) a' c' (bs ++ txt (l.map Ob.o) d v) g)
theorem txt_k {L : List O} {d : Nat} {v : V} : txt L d v = if v.k = 0 then [110, 111, 110, 101] else if v.k = 1 then Lib.itoa v.n else if v.k = 2 then (if v.n = 1 then [116, 114, 117, 101] else [102, 97, 108, 115, 101]) else if v.k = 3 then quoL v.s else match d with
    | 0 => [46, 46, 46]
    | d + 1 => objT (txt L d) (objAt L v) := by
  cases d <;> (conv => lhs; unfold txt)
theorem one_str (t : List UInt8) : Sx.One [Value.string (mkS t)] := fun u hu => by cases List.mem_singleton.1 hu; rfl
theorem tB_ge (d : Nat) : 1100 ≤ tB d := by cases d <;> simp [tB] <;> omega
theorem value_low (g : Nat) (most : Int) (used : Nat) (a : Option Addr) (c : Nat) (l : List Ob) (d : Nat) (v : V) (hv : showV l.length v) (hk : v.k ≠ 4) : ValS g most used a c l d v := by
  intro gw ad aw cw bs had hb
  have hd := tB_ge d
  obtain ⟨hs, hi, hr⟩ := hv
  unfold wrH hctx
  by_cases h0 : v.k = 0
  · have htx : txt (l.map Ob.o) d v = [110, 111, 110, 101] := by rw [txt_k, if_pos h0]
    have hput := fun p => wr_put_spec gw ad had aw cw bs (.pointer (some ⟨g, 0, none⟩)) p 1 [[110, 111, 110, 101]] (by omega) (by simp) (by simp) (by simp)
    rw [htx]
    unfold valV
    rw [h0]
    refine fn_enter Tryz.func124 rfl 67 rfl fun w0 h0 => ?_
    refine SQ (RG ?_)
    refine RP [] .z 4 (.k (.d (.k .a))) .a 94 [.int .i64 0, .int .i64 v.n, .string (mkS v.s)] fun g1 => ?_
    refine RZ (NT (SQ (RG ?_)))
    refine RR [6] .z (.i 9 (.int .i64 0) .a) .a ?_
    refine RZ (NT (BK (SQ (RG ?_))))
    refine RR [] .z (.i 10 (.bool true) .a) .a ?_
    refine RZ (NT (CT (RG ?_)))
    refine RN [] (.d (.d .a)) 13 (fun g2 => (.slice (some ⟨g2, 0, none⟩) 1 1)) (.i 12 (.pointer (some ⟨gw, 0, none⟩)) .z) .a 9 [.string (ByteArray.mk #[110, 111, 110, 101])] fun g2 => ?_
    refine wpr_ent (ent_turn (c := .blk g2 9 [.string (mkS [110, 111, 110, 101])]) 7 (ro (some ⟨g2, 0, none⟩) ([[110, 111, 110, 101]].map strV)) rfl (turn_rblk (one_str _)) rfl) ?_
    refine RCG (dst := some 14) (.d (.d (.k .a))) (hput (some ⟨g2, 0, none⟩)) (GO (GV (GJ [0, 0]) 5 view_ro) [1, 1, 0]) ?_
    rintro u _ ⟨a2, c2, rfl, rfl⟩
    refine RZ (BN ?_)
    refine NE [0, 0] (.k (.k .z)) (.d (.d (.k .a))) [] (.tuple #[]) ?_
    exact ⟨a2, c2, rfl, rfl⟩
  by_cases h1 : v.k = 1
  · have htx : txt (l.map Ob.o) d v = Lib.itoa v.n := by rw [txt_k, if_neg h0, if_pos h1]
    have hil := itoa_len hi
    have hput := fun p => wr_put_spec gw ad had aw cw bs (.pointer (some ⟨g, 0, none⟩)) p 1 [Lib.itoa v.n] (by omega) (by simp) (by simp) (by simp; omega)
    have hfl : [Lib.itoa v.n].flatten = Lib.itoa v.n := by simp
    rw [hfl] at hput
    rw [htx]
    unfold valV
    rw [h1]
    refine fn_enter Tryz.func124 rfl 67 rfl fun w0 h0 => ?_
    refine SQ (RG ?_)
    refine RP [] .z 4 (.k (.d (.k .a))) .a 94 [.int .i64 1, .int .i64 v.n, .string (mkS v.s)] fun g1 => ?_
    refine RZ (NT (SQ (RG ?_)))
    refine RR [6] .z (.i 9 (.int .i64 1) .a) .a ?_
    refine RZ (NT (BK (SQ (RG ?_))))
    refine RR [] .z (.i 10 (.bool false) .a) .a ?_
    refine RZ (NT (CF (SQ (RG ?_))))
    refine RR [] .z (.i 15 (.bool true) (.d (.k .a))) .a ?_
    refine RZ (NT (CT (RG ?_)))
    refine RR [6] (.d (.d (.d .a))) (.i 19 (.int .i64 v.n) (.i 17 (.pointer (some ⟨gw, 0, none⟩)) .z)) .a ?_
    refine RCG (dst := some 20) .a (Itoa_spec v.n hi.1 hi.2) (GV (GI []) 5 view_gPow) ?_
    rintro u _ ⟨rfl, rfl⟩
    refine RN [] (.d .a) 21 (fun g2 => (.slice (some ⟨g2, 0, none⟩) 1 1)) (.d (.d (.k .a))) .a 9 [.string (mkS (Lib.itoa v.n))] fun g2 => ?_
    refine wpr_ent (ent_turn (c := .blk g2 9 [.string (mkS (Lib.itoa v.n))]) 7 (ro (some ⟨g2, 0, none⟩) ([Lib.itoa v.n].map strV)) rfl (turn_rblk (one_str _)) rfl) ?_
    refine RCG (dst := some 22) (.d (.d (.k .a))) (hput (some ⟨g2, 0, none⟩)) (GO (GV (GJ [0, 0]) 5 view_ro) [1, 1, 0]) ?_
    rintro u _ ⟨a2, c2, rfl, rfl⟩
    refine RZ (BN ?_)
    refine NE [0, 0] (.k (.k .z)) (.d (.d (.k .a))) [] (.tuple #[]) ?_
    exact ⟨a2, c2, rfl, rfl⟩
  by_cases h2 : v.k = 2
  · obtain ⟨T, hT⟩ : ∃ T, T = (if (v.n == 1) = true then [116, 114, 117, 101] else [102, 97, 108, 115, 101] : List UInt8) := ⟨_, rfl⟩
    have hTl : T.length ≤ 5 := by rw [hT]; split <;> simp
    have htx : txt (l.map Ob.o) d v = T := by rw [txt_k, if_neg h0, if_neg h1, if_pos h2, hT]; simp
    have hput := fun p => wr_put_spec gw ad had aw cw bs (.pointer (some ⟨g, 0, none⟩)) p 1 [T] (by omega) (by simp) (by simp) (by simp; omega)
    have hfl : [T].flatten = T := by simp
    rw [hfl] at hput
    rw [htx]
    have hfb := FormatBool_spec (v.n == 1)
    rw [← hT] at hfb
    unfold valV
    rw [h2]
    refine fn_enter Tryz.func124 rfl 67 rfl fun w0 h0 => ?_
    refine SQ (RG ?_)
    refine RP [] .z 4 (.k (.d (.k .a))) .a 94 [.int .i64 2, .int .i64 v.n, .string (mkS v.s)] fun g1 => ?_
    refine RZ (NT (SQ (RG ?_)))
    refine RR [6] .z (.i 9 (.int .i64 2) .a) .a ?_
    refine RZ (NT (BK (SQ (RG ?_))))
    refine RR [] .z (.i 10 (.bool false) .a) .a ?_
    refine RZ (NT (CF (SQ (RG ?_))))
    refine RR [] .z (.i 15 (.bool false) (.d (.k .a))) .a ?_
    refine RZ (NT (CF (SQ (RG ?_))))
    refine RR [] .z (.i 23 (.bool true) (.d (.k .a))) .a ?_
    refine RZ (NT (CT (RG ?_)))
    refine RR [6] (.d (.d (.d (.d .a)))) (.i 28 (.bool (v.n == (1 : Int))) (.i 25 (.pointer (some ⟨gw, 0, none⟩)) .z)) .a ?_
    refine RC (dst := some 29) [] .a (hfb) ?_
    rintro u _ ⟨rfl, rfl⟩
    refine RN [] (.d .a) 30 (fun g2 => (.slice (some ⟨g2, 0, none⟩) 1 1)) (.d (.d (.k .a))) .a 9 [.string (mkS T)] fun g2 => ?_
    refine wpr_ent (ent_turn (c := .blk g2 9 [.string (mkS T)]) 7 (ro (some ⟨g2, 0, none⟩) ([T].map strV)) rfl (turn_rblk (one_str _)) rfl) ?_
    refine RCG (dst := some 31) (.d (.d (.k .a))) (hput (some ⟨g2, 0, none⟩)) (GO (GV (GJ [0, 0]) 5 view_ro) [1, 1, 0]) ?_
    rintro u _ ⟨a2, c2, rfl, rfl⟩
    refine RZ (BN ?_)
    refine NE [0, 0] (.k (.k .z)) (.d (.d (.k .a))) [] (.tuple #[]) ?_
    exact ⟨a2, c2, rfl, rfl⟩
  by_cases h3 : v.k = 3
  · have hpl := right_plain hr h3
    have hql := quo_len hpl
    have htx : txt (l.map Ob.o) d v = quoL v.s := by rw [txt_k, if_neg h0, if_neg h1, if_neg h2, if_pos h3]
    have hput := fun p => wr_put_spec gw ad had aw cw bs (.pointer (some ⟨g, 0, none⟩)) p 1 [quoL v.s] (by omega) (by simp) (by simp) (by simp; omega)
    have hfl : [quoL v.s].flatten = quoL v.s := by simp
    rw [hfl] at hput
    rw [htx]
    have htt := TextStr_spec v.s hs
    rw [hpl, if_pos rfl, if_pos rfl] at htt
    unfold tokV at htt
    unfold valV
    rw [h3]
    refine fn_enter Tryz.func124 rfl 67 rfl fun w0 h0 => ?_
    refine SQ (RG ?_)
    refine RP [] .z 4 (.k (.d (.k .a))) .a 94 [.int .i64 3, .int .i64 v.n, .string (mkS v.s)] fun g1 => ?_
    refine RZ (NT (SQ (RG ?_)))
    refine RR [6] .z (.i 9 (.int .i64 3) .a) .a ?_
    refine RZ (NT (BK (SQ (RG ?_))))
    refine RR [] .z (.i 10 (.bool false) .a) .a ?_
    refine RZ (NT (CF (SQ (RG ?_))))
    refine RR [] .z (.i 15 (.bool false) (.d (.k .a))) .a ?_
    refine RZ (NT (CF (SQ (RG ?_))))
    refine RR [] .z (.i 23 (.bool false) (.d (.k .a))) .a ?_
    refine RZ (NT (CF (SQ (RG ?_))))
    refine RR [] .z (.i 32 (.bool true) (.d (.k .a))) .a ?_
    refine RZ (NT (CT (SQ (RG ?_))))
    refine RR [6] (.d (.d (.d .a))) (.i 37 (.agg #[.int .i64 3, .string (mkS v.s), .int .i64 0, .int .i64 0, .int .i64 0]) (.d (.d (.d (.k .z))))) .a ?_
    refine RC (dst := some 38) [] .a (htt) ?_
    rintro u _ ⟨rfl, rfl⟩
    refine RR [] .z (.i 6 (.string (mkS (quoL v.s))) (.d (.d (.k .a)))) .a ?_
    refine RZ (NT (RG ?_))
    refine RN [] (.d (.d (.d .a))) 43 (fun g2 => (.slice (some ⟨g2, 0, none⟩) 1 1)) (.i 41 (.pointer (some ⟨gw, 0, none⟩)) .z) .a 9 [.string (mkS (quoL v.s))] fun g2 => ?_
    refine wpr_ent (ent_turn (c := .blk g2 9 [.string (mkS (quoL v.s))]) 7 (ro (some ⟨g2, 0, none⟩) ([quoL v.s].map strV)) rfl (turn_rblk (one_str _)) rfl) ?_
    refine RCG (dst := some 44) (.d (.d (.k .a))) (hput (some ⟨g2, 0, none⟩)) (GO (GV (GJ [0, 0]) 5 view_ro) [1, 1, 0]) ?_
    rintro u _ ⟨a2, c2, rfl, rfl⟩
    refine RZ (BN ?_)
    refine NE [0, 0] (.k (.k .z)) (.d (.d (.k .a))) [] (.tuple #[]) ?_
    exact ⟨a2, c2, rfl, rfl⟩
  exact absurd hk (by rcases right_kind hr with h | h | h | h | h <;> first | exact fun hk => hk h | exact absurd h (by assumption))
theorem value_zero (g : Nat) (most : Int) (used : Nat) (a : Option Addr) (c : Nat) (l : List Ob) (v : V) (hk : v.k = 4) : ValS g most used a c l 0 v := by
  intro gw ad aw cw bs had hb
  have hd := tB_ge 0
  unfold wrH hctx
  have htx : txt (l.map Ob.o) 0 v = [46, 46, 46] := by rw [txt_k, if_neg (by omega), if_neg (by omega), if_neg (by omega), if_neg (by omega)]
  have hput := fun p => wr_put_spec gw ad had aw cw bs (.pointer (some ⟨g, 0, none⟩)) p 1 [[46, 46, 46]] (by omega) (by simp) (by simp) (by simp)
  rw [htx]
  unfold valV
  rw [hk]
  refine fn_enter Tryz.func124 rfl 67 rfl fun w0 h0 => ?_
  refine SQ (RG ?_)
  refine RP [] .z 4 (.k (.i 2 (.int .i64 0) .z)) .a 94 [.int .i64 4, .int .i64 v.n, .string (mkS v.s)] fun g1 => ?_
  refine RZ (NT (SQ (RG ?_)))
  refine RR [6] .z (.i 9 (.int .i64 4) .a) .a ?_
  refine RZ (NT (BK (SQ (RG ?_))))
  refine RR [] .z (.i 10 (.bool false) .a) .a ?_
  refine RZ (NT (CF (SQ (RG ?_))))
  refine RR [] .z (.i 15 (.bool false) (.d (.k .a))) .a ?_
  refine RZ (NT (CF (SQ (RG ?_))))
  refine RR [] .z (.i 23 (.bool false) (.d (.k .a))) .a ?_
  refine RZ (NT (CF (SQ (RG ?_))))
  refine RR [] .z (.i 32 (.bool false) (.d (.k .a))) .a ?_
  refine RZ (NT (CF (SQ (RG ?_))))
  refine RR [] .z (.i 45 (.bool true) (.d (.d (.k .a)))) .a ?_
  refine RZ (NT (CT (SQ (SQ (RG ?_)))))
  refine RR [] .z (.i 48 (.bool true) (.d (.k .a))) .a ?_
  refine RZ (NT (CT (SQ (RG ?_))))
  refine RN [] (.d (.d .a)) 50 (fun g2 => (.slice (some ⟨g2, 0, none⟩) 1 1)) (.i 49 (.pointer (some ⟨gw, 0, none⟩)) (.d (.k .a))) .a 9 [.string (ByteArray.mk #[46, 46, 46])] fun g2 => ?_
  refine wpr_ent (ent_turn (c := .blk g2 9 [.string (mkS [46, 46, 46])]) 7 (ro (some ⟨g2, 0, none⟩) ([[46, 46, 46]].map strV)) rfl (turn_rblk (one_str _)) rfl) ?_
  refine RCG (dst := some 51) (.d (.d (.k .a))) (hput (some ⟨g2, 0, none⟩)) (GO (GV (GJ [0, 0]) 5 view_ro) [1, 1, 0]) ?_
  rintro u _ ⟨a2, c2, rfl, rfl⟩
  refine RZ (NT (RE (TR (BR ?_))))
  refine NE [0, 0] (.k (.k .z)) (.d (.d (.k .a))) [] (.tuple #[]) ?_
  exact ⟨a2, c2, rfl, rfl⟩
end Go.Proofs.YtgcfomhlgipllaaGreatDoor
