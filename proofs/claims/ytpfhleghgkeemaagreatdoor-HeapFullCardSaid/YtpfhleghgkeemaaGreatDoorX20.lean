import Derived.Test.YtpfhleghgkeemaaGreatDoorX19
import Derived.Defers
/-
  A call whose function is found by evaluation (a method of an interface's value); calls that are deferred.
-/
namespace Go.Sx
open Go
set_option linter.unusedVariables false
variable {Γ : Cx} {s : St} {Q : Exit → Act → World → Prop}

/-- What a call comes to: the function, what it is handed, the slot. -/
def callxOf (P : Program) (ops : Array Oper) (nt : Nat) (i : Nat) (fr : Fr) : Option (FuncId × List Value × Option Nat) :=
  match opAt ops nt i fr with
  | some o => match sread P (execOp (ev fr) o) [] [] with
    | some (.enter f args, [], [], []) => some (f, args.toList, o.dst)
    | _ => none
  | none => none
theorem callx_sound {ops : Array Oper} {i : Nat} {f : FuncId} {args : List Value} {dst : Option Nat} (hc : callxOf Γ.P ops Γ.nt i s.fr = some (f, args, dst))
    {pre rest : Hp} {R : Value → Hp → Prop} (hf : Does Γ.P f args pre R) (g : Give s.hp pre rest) {a : Act} {w : World} (hS : Sat Γ s a w) {K : Act → World → Prop}
    (hK : ∀ v hp', R v hp' → ∀ a' w', Sat Γ ⟨putFr s.fr dst v, hp' ++ rest⟩ a' w' → K a' w') : wpOp Γ.P ops Q i K a w := by
  unfold callxOf opAt at hc
  unfold wpOp
  cases hoi : ops[i]? with
  | none => rw [hoi] at hc; cases hc
  | some o =>
    rw [hoi] at hc
    simp only at hc ⊢
    split at hc
    case h_2 => cases hc
    case h_1 o' ho' =>
      split at ho'
      case h_2 => cases ho'
      case h_1 hd hw hk =>
        simp only [Option.some.injEq] at ho'
        subst ho'
        split at hc
        case h_2 => cases hc
        case h_1 f' args' hr =>
          simp only [Option.some.injEq, Prod.mk.injEq] at hc
          obtain ⟨rfl, rfl, rfl⟩ := hc
          rw [wants_ok hS.fr hw]
          simp only [if_true]
          refine .inl ?_
          unfold Oper.wp
          have hrun : (execOp (ev s.fr) o).run Γ.P w = .ok (.enter f' args') w := sread_sound _ _ _ _ _ _ _ hr rfl w (fun c hc => by cases hc)
          rw [ev_eq hS.fr hk, hrun]
          obtain ⟨hs1, hs2, hs3⟩ := g.sat w hS.hs
          have hf' := hf w hs1
          simp only [Array.toArray_toList] at hf'
          refine hf'.mono ?_
          rintro e w' ⟨v, hp', hR, rfl, hhs, he, hb, hr'⟩
          obtain ⟨b1, b2, b3⟩ := hS.behind g hhs he hb hr'
          exact hK v hp' hR _ _ ⟨(size_put _ _).trans hS.size, (defers_put _ _).trans hS.defers, FrOk.putFr hS.fr hS.size hd v, b1, b2, b3⟩
theorem wpr_callx {ops : Array Oper} {i : Nat} {l₂ : List Nat} {f : FuncId} {args : List Value} {dst : Option Nat} (hc : callxOf Γ.P ops Γ.nt i s.fr = some (f, args, dst))
    {pre rest : Hp} {R : Value → Hp → Prop} (hf : Does Γ.P f args pre R) (g : Give s.hp pre rest)
    (h : ∀ v hp', R v hp' → WpR Γ ops l₂ ⟨putFr s.fr dst v, hp' ++ rest⟩ Q) : WpR Γ ops (i :: l₂) s Q := fun a w hS =>
  callx_sound hc hf g hS fun v hp' hR a' w' hS' => h v hp' hR a' w' hS'

/-! ### deferred calls -/
def DoesD (P : Program) (f : FuncId) (args : List Value) (pre : Hp) (R : Value → Hp → Prop) : Prop :=
  ∀ (u : FrameMode) (w : World), HS pre w → CallsD P f args.toArray u w fun e u' w' => u' = u ∧ Post w pre R e w'
theorem enter_sat {P : Program} {fn : Func} {args : List Value} {pre : Hp} (nt : Nat) (hnt : args.length + (fn.ntmps - args.length) = nt) {w : World} (hw : HS pre w) :
    Sat ⟨P, w, foot pre, nt, []⟩ ⟨enum 0 args, pre⟩ { tmps := args.toArray ++ Array.replicate (fn.ntmps - args.toArray.size) undef, defers := [] } w := by
  refine ⟨by simp [hnt], rfl, fun i v hi => ?_, hw, Ext.refl _ _, Bd.self _ _⟩
  obtain ⟨_, h1⟩ := look_enum _ _ _ _ hi
  simp only [Nat.sub_zero] at h1
  obtain ⟨hlt, h2⟩ := List.getElem?_eq_some_iff.1 h1
  simp [Array.getD_eq_getD_getElem?, Array.getElem?_append, hlt, h2]
theorem fn_enter_d {P : Program} {f : FuncId} {fn : Func} {c : Code} {args : List Value} {pre : Hp} {R : Value → Hp → Prop} (hf : P.funcs[f]? = some fn) (hb : fn.body = some c)
    (nt : Nat) (hnt : args.length + (fn.ntmps - args.length) = nt) (h : ∀ w0, HS pre w0 → WpC ⟨P, w0, foot pre, nt, []⟩ c ⟨enum 0 args, pre⟩ (bodyPost P fn (Post w0 pre R))) : DoesD P f args pre R := fun u w hw =>
  callsD_of_wp hf hb (h w hw _ w (enter_sat nt hnt hw))
/-- A function that defers calls. -/
theorem fn_enter_def {P : Program} {f : FuncId} {fn : Func} {c : Code} {args : List Value} {pre : Hp} {R : Value → Hp → Prop} (hf : P.funcs[f]? = some fn) (hb : fn.body = some c)
    (nt : Nat) (hnt : args.length + (fn.ntmps - args.length) = nt) (h : ∀ w0, HS pre w0 → WpC ⟨P, w0, foot pre, nt, []⟩ c ⟨enum 0 args, pre⟩ (bodyPostD P fn (Post w0 pre R))) : Does P f args pre R := fun w hw =>
  calls_of_wp_defers hf hb (h w hw _ w (enter_sat nt hnt hw))
/-- Which call is deferred. -/
def deferOf (P : Program) (ops : Array Oper) (nt : Nat) (i : Nat) (fr : Fr) : Option (FuncId × Array Value × Array Value) :=
  match opAt ops nt i fr with
  | some o => match o.dst, sread P (execOp (ev fr) o) [] [] with
    | none, some (.defer ⟨.fn (.func f) caps, args⟩, [], [], []) => some (f, caps, args)
    | _, _ => none
  | none => none
theorem wpr_defer {ops : Array Oper} {i : Nat} {l₂ : List Nat} {f : FuncId} {caps args : Array Value} (hc : deferOf Γ.P ops Γ.nt i s.fr = some (f, caps, args))
    (h : WpR { Γ with ds := { target := .fn (.func f) caps, args := args } :: Γ.ds } ops l₂ s Q) : WpR Γ ops (i :: l₂) s Q := fun a w hS => by
  show wpOp Γ.P ops Q i (fun a w => wpOps Γ.P ops Q l₂ a w) a w
  unfold deferOf opAt at hc
  unfold wpOp
  cases hoi : ops[i]? with
  | none => rw [hoi] at hc; cases hc
  | some o =>
    rw [hoi] at hc
    simp only at hc ⊢
    split at hc
    case h_2 => cases hc
    case h_1 o' ho' =>
      split at ho'
      case h_2 => cases ho'
      case h_1 hd hw hk =>
        simp only [Option.some.injEq] at ho'
        subst ho'
        split at hc
        case h_2 => cases hc
        case h_1 f' caps' args' hdst hr =>
          simp only [Option.some.injEq, Prod.mk.injEq] at hc
          obtain ⟨rfl, rfl, rfl⟩ := hc
          rw [wants_ok hS.fr hw]
          simp only [if_true]
          refine .inl ?_
          unfold Oper.wp
          have hrun : (execOp (ev s.fr) o).run Γ.P w = .ok (.defer ⟨.fn (.func f') caps', args'⟩) w := sread_sound _ _ _ _ _ _ _ hr rfl w (fun c hc => by cases hc)
          rw [ev_eq hS.fr hk, hrun]
          rw [Oper.upon_defer, hdst]
          refine h _ w ⟨hS.size, ?_, hS.fr, hS.hs, hS.ext, hS.bd⟩
          show _ :: a.defers = _
          rw [hS.defers]
/-- What is left of a function: its deferred calls, the last laid first. -/
def Lv (P : Program) (w0 : World) (pre : Hp) (nt : Nat) (fn : Func) (R : Value → Hp → Prop) (ds : List Deferred) (s : St) : Prop :=
  ∀ (all : List Deferred) (a : Act) (w : World), Sat ⟨P, w0, foot pre, nt, all⟩ s a w → Leaves P fn a.tmps (Post w0 pre R) ds .returning w
theorem nx_lv {P : Program} {w0 : World} {pre : Hp} {nt : Nat} {fn : Func} {R : Value → Hp → Prop} {ds : List Deferred} {e : Exit} (he : e = .normal ∨ e = .ret) (h : Lv P w0 pre nt fn R ds s) : Nx ⟨P, w0, foot pre, nt, ds⟩ s (bodyPostD P fn (Post w0 pre R)) e := fun a w hS => by
  have h1 := h _ a w hS
  have hd : a.defers = ds := hS.defers
  rcases he with rfl | rfl
  · show Leaves P fn a.tmps _ a.defers _ w
    rw [hd]; exact h1
  · show Leaves P fn a.tmps _ a.defers _ w
    rw [hd]; exact h1
theorem lv_cons {P : Program} {w0 : World} {pre : Hp} {nt : Nat} {fn : Func} {R : Value → Hp → Prop} {ds : List Deferred} {f : FuncId} {caps args : Array Value} (he : enters P f = true)
    {pre' rest : Hp} {R' : Value → Hp → Prop} (hf : DoesD P f (args.toList ++ caps.toList) pre' R') (g : Give s.hp pre' rest) (h : ∀ v hp', R' v hp' → Lv P w0 pre nt fn R ds ⟨s.fr, hp' ++ rest⟩) :
    Lv P w0 pre nt fn R ({ target := .fn (.func f) caps, args := args } :: ds) s := fun all a w hS => by
  obtain ⟨hs1, hs2, hs3⟩ := g.sat w hS.hs
  refine leaves_cons (f := f) (args := args ++ caps) (by simp) (by simp [invoke, run_enters he]) ?_
  have el : (args.toList ++ caps.toList).toArray = args ++ caps := by apply Array.ext'; simp
  rw [← el]
  refine (hf .returning w hs1).mono ?_
  rintro e u' w' ⟨rfl, v, hp', hR, rfl, hhs, hx, hb, hr'⟩
  obtain ⟨b1, b2, b3⟩ := hS.behind g hhs hx hb hr'
  exact h v hp' hR all a w' ⟨hS.size, hS.defers, hS.fr, b1, b2, b3⟩
theorem lv_nil {P : Program} {w0 : World} {pre : Hp} {nt : Nat} {fn : Func} {R : Value → Hp → Prop} (v : Value) (hv : resOf P fn s.fr [] [] = some (v, [], [], [])) {hp' rest : Hp} (g : Give s.hp hp' rest) (hrw : AllRw hp') (hR : R v hp') :
    Lv P w0 pre nt fn R [] s := fun all a w hS => by
  have hS0 : Sat ⟨P, w0, foot pre, nt, all⟩ ⟨s.fr, []⟩ a w := ⟨hS.size, hS.defers, hS.fr, ⟨fun c hc => (by cases hc), List.Pairwise.nil⟩, hS.ext, fun c hc => by cases hc⟩
  have hres := resOf_sound (Γ := ⟨P, w0, foot pre, nt, all⟩) (s := ⟨s.fr, []⟩) hv rfl hS0
  refine ⟨v, hres, v, hp', hR, rfl, (g.sat w hS.hs).1, hS.ext, fun c hc hcr k hk => ?_, allRw_mem hrw⟩
  obtain ⟨d, hd, hdr, hdk⟩ := g.foot k ⟨c, hc, hcr, hk⟩
  exact hS.bd d hd hdr k hdk
end Go.Sx
