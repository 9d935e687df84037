import Derived.Lib.LaidTab
import Derived.Stop.LaidErr
import Derived.Test.YtgcfomhlgipllaaGreatDoorCf3
set_option linter.unusedVariables false
set_option linter.unusedSimpArgs false
namespace Go.Sx
open Go
variable {P : Program} {Γ : Cx} {Q : Exit → Act → World → Prop} {s : St}
def recL (fn : FuncId) (tmps : Array Value) (ps : Array Tmp) (assign body : Code) (D : Nat) : Loop := { rec0 .done fn tmps ps assign body D with pending := some .ret }
theorem wpc_range2 {g : Operand} {ps : Array Tmp} {assign body : Code} {f : Nat} {lb : Array Value} (t : Nat) (hgt : g = .tmp t) (hg : look s.fr t = some (.func (.func f) #[] lb)) (he : enters Γ.P f = true) (hds : Γ.ds = [])
    (hf : ∀ a : Act, a.tmps.size = Γ.nt → (∀ i v, look s.fr i = some v → a.tmps.getD i undef = v) → ∀ fn l D, ∃ R pre rest, Does Γ.P f (.func (.yield l) #[] #[] :: lb.toList) pre R ∧ Give (ob l (.loop (rec0 .ready fn a.tmps ps assign body D)) :: ob D (.deferred (some [])) :: s.hp) pre rest ∧
      ∀ v hp', R v hp' → (∃ hp'', hp' = ob l (.loop (rec0 .ready fn a.tmps ps assign body D)) :: ob D (.deferred (some [])) :: hp'' ∧
        Nx { Γ with ds := [{ target := .collected D, args := #[] }] } ⟨s.fr, ob D (.deferred (some [])) :: (hp'' ++ rest)⟩ Q .normal) ∨
        (∃ hp'', hp' = ob l (.loop (recL fn a.tmps ps assign body D)) :: ob D (.deferred (some [])) :: hp'' ∧
        Nx { Γ with ds := [{ target := .collected D, args := #[] }] } ⟨s.fr, ob D (.deferred (some [])) :: (hp'' ++ rest)⟩ Q .ret)) :
    WpC Γ (.rangeFunc g ps assign body) s Q := fun a w hS => by
  subst hgt
  have hev : a.eval (.tmp t) = .func (.func f) #[] lb := hS.fr t _ hg
  refine (wpIn_wide (n := 0)).1 (wpIn_rangeFunc fun fn _ => ?_)
  have hS1 := (hS.newOb (.deferred (some []))).newOb (.loop (rec0 .ready fn a.tmps ps assign body w.heap.size))
  have hsz : (w.alloc (.deferred (some []))).heap.size = w.heap.size + 1 := World.size_alloc ..
  rw [hsz] at hS1
  obtain ⟨R, pre, rest, hD, hG, hRR⟩ := hf a hS.size hS.fr fn (w.heap.size + 1) w.heap.size
  refine ⟨w.heap.size + 1, [{ target := .collected w.heap.size, args := #[] }], (w.alloc (.deferred (some []))).alloc (.loop (rec0 .ready fn a.tmps ps assign body w.heap.size)), { target := .fn (.func f) lb, args := #[.func (.yield (w.heap.size + 1)) #[] #[]] }, (w.alloc (.deferred (some []))).alloc (.loop (rec0 .ready fn a.tmps ps assign body w.heap.size)), f,
    #[.func (.yield (w.heap.size + 1)) #[] #[]] ++ lb, (w.alloc (.deferred (some []))).alloc (.loop (rec0 .ready fn a.tmps ps assign body w.heap.size)), run_enterLoop_outer _ _ _ _ _, ?_, fun _ _ => trivial, ?_, fun h => (by cases h), ?_⟩
  · simp only [resolve, hev]
    simp [go_sem]
  · simp [invoke, run_enters he]
  · have hargs : #[.func (.yield (w.heap.size + 1)) #[] #[]] ++ lb = (Value.func (.yield (w.heap.size + 1)) #[] #[] :: lb.toList).toArray := by apply Array.ext'; simp
    rw [hargs]
    refine callsIn_wide.2 ((hD _ (hG.sat _ hS1.hs).1).mono ?_)
    rintro e w3 ⟨v, hp', hR, rfl, h1, h2, h3, h4⟩
    rcases hRR v hp' hR with ⟨hp'', rfl, hN⟩ | ⟨hp'', rfl, hN⟩
    · obtain ⟨k1, k2, k3⟩ := hS1.behind hG h1 h2 h3 h4
      have hS3 : Sat Γ ⟨s.fr, ob (w.heap.size + 1) (.loop (rec0 .ready fn a.tmps ps assign body w.heap.size)) :: ob w.heap.size (.deferred (some [])) :: (hp'' ++ rest)⟩ a w3 := ⟨hS.size, hS.defers, hS.fr, k1, k2, k3⟩
      have hS4 := (hS3.setOb (.loop { rec0 .ready fn a.tmps ps assign body w.heap.size with state := .exhausted })).drop1
      exact ⟨none, _, run_endLoop (ob_holds k1 (List.mem_cons_self ..)) (by simp [rec0]), hN _ _ ⟨hS4.size, by show _ ++ a.defers = _; rw [hS.defers, hds]; rfl, hS4.fr, hS4.hs, hS4.ext, hS4.bd⟩⟩
    · obtain ⟨k1, k2, k3⟩ := hS1.behind hG h1 h2 h3 h4
      have hS3 : Sat Γ ⟨s.fr, ob (w.heap.size + 1) (.loop (recL fn a.tmps ps assign body w.heap.size)) :: ob w.heap.size (.deferred (some [])) :: (hp'' ++ rest)⟩ a w3 := ⟨hS.size, hS.defers, hS.fr, k1, k2, k3⟩
      have hS4 := (hS3.setOb (.loop { recL fn a.tmps ps assign body w.heap.size with state := .exhausted })).drop1
      exact ⟨some .ret, _, run_endLoop (ob_holds k1 (List.mem_cons_self ..)) (by simp [recL, rec0]), wpIn_ret (hN _ _ ⟨hS4.size, by show _ ++ a.defers = _; rw [hS.defers, hds]; rfl, hS4.fr, hS4.hs, hS4.ext, hS4.bd⟩)⟩
/-! ### a function that holds one, and may end ahead of it -/
def QM2 (P : Program) (fn : Func) (w0 : World) (pre : Hp) (R : Value → Hp → Prop) : Exit → Act → World → Prop := fun e a w => (e = .normal ∨ e = .ret) ∧
  ((a.defers = [] ∧ ∃ v, (results fn a.tmps).run P w = .ok v w ∧ Post w0 pre R (.returned v) w) ∨
   ∃ D w', a.defers = [{ target := .collected D, args := #[] }] ∧ (Instr.takeDeferred D).run P w = .ok [] w' ∧ ∃ v, (results fn a.tmps).run P w' = .ok v w' ∧ Post w0 pre R (.returned v) w')
instance {fn : Func} {w0 : World} {pre : Hp} {R : Value → Hp → Prop} : PanicOk (QM2 P fn w0 pre R) := ⟨fun c a a' w _ h => by obtain ⟨h, _⟩ := h; rcases h with h | h <;> cases h⟩
theorem fn_enter_m2 {f : FuncId} {fn : Func} {c : Code} {args : List Value} {pre : Hp} {R : Value → Hp → Prop} (hf : P.funcs[f]? = some fn) (hb : fn.body = some c)
    (nt : Nat) (hnt : args.length + (fn.ntmps - args.length) = nt) (h : ∀ w0, HS pre w0 → WpC ⟨P, w0, foot pre, nt, []⟩ c ⟨enum 0 args, pre⟩ (QM2 P fn w0 pre R)) : Does P f args pre R := fun w hw => by
  refine (callsIn_wide (n := 0)).1 (callsIn_of_wp_marks (F := Fence.wide) hf hb trivial (wpIn_wide.2 (wp_mono (h w hw _ w ⟨by simp [hnt], rfl, fun i v hi => ?_, hw, Ext.refl _ _, Bd.self _ _⟩) ?_)))
  · obtain ⟨_, h1⟩ := look_enum _ _ _ _ hi
    simp only [Nat.sub_zero] at h1
    obtain ⟨hlt, h2⟩ := List.getElem?_eq_some_iff.1 h1
    simp [Array.getD_eq_getD_getElem?, Array.getElem?_append, hlt, h2]
  · rintro e a w' ⟨he, ⟨hd, v, hr, hp⟩ | ⟨D, w2, hd, ht, v, hr, hp⟩⟩
    · rcases he with rfl | rfl
      · show LeavesInM _ _ _ _ _ _ a.defers _ _
        rw [hd]; exact ⟨v, hr, hp⟩
      · show LeavesInM _ _ _ _ _ _ a.defers _ _
        rw [hd]; exact ⟨v, hr, hp⟩
    · rcases he with rfl | rfl
      · show LeavesInM _ _ _ _ _ _ a.defers _ _
        rw [hd]; exact ⟨by simp, .inl ⟨D, w2, rfl, ht, v, hr, hp⟩⟩
      · show LeavesInM _ _ _ _ _ _ a.defers _ _
        rw [hd]; exact ⟨by simp, .inl ⟨D, w2, rfl, ht, v, hr, hp⟩⟩
theorem end_post {w0 : World} {pre : Hp} {nt : Nat} {ds : List Deferred} {fn : Func} {R : Value → Hp → Prop} (sc : List Nat) (v : Value)
    (h1 : (resOf P fn s.fr s.hp sc).isSome = true) (h2 : (resOf P fn s.fr s.hp sc).map (fun r => (r.1, r.2.1)) = (resOf P fn s.fr s.hp sc).map (fun r => (v, r.2.2.1)))
    {hp' rest : Hp} (g : Give s.hp hp' rest) (hrw : AllRw hp') (hR : R v hp') {a : Act} {w : World} (hS : Sat ⟨P, w0, foot pre, nt, ds⟩ s a w) : (results fn a.tmps).run P w = .ok v w ∧ Post w0 pre R (.returned v) w := by
  obtain ⟨r, hr⟩ := Option.isSome_iff_exists.1 h1
  rw [hr] at h2
  simp only [Option.map_some, Option.some.injEq, Prod.mk.injEq] at h2
  obtain ⟨h3, h4⟩ := h2
  have hres := resOf_sound (Γ := ⟨P, w0, foot pre, nt, ds⟩) (s := s) (v := r.1) (gs := r.2.1) (ws := r.2.2.1) (sc' := r.2.2.2) hr h4 hS
  rw [h3] at hres
  exact ⟨hres, v, hp', hR, rfl, (g.sat w hS.hs).1, hS.ext, fun c hc hcr k hk => by
    obtain ⟨d, hd, hdr, hdk⟩ := g.foot k ⟨c, hc, hcr, hk⟩
    exact hS.bd d hd hdr k hdk, allRw_mem hrw⟩
theorem nx_end0 {w0 : World} {pre : Hp} {nt : Nat} {fn : Func} {R : Value → Hp → Prop} (is : List Nat) (sc : List Nat) (v : Value) {hp' rest : Hp} {e : Exit} (hR : R v hp')
    (h1 : (resOf P fn s.fr s.hp sc).isSome = true := by kernel_rfl) (h2 : (resOf P fn s.fr s.hp sc).map (fun r => (r.1, r.2.1)) = (resOf P fn s.fr s.hp sc).map (fun r => (v, r.2.2.1)) := by kernel_rfl)
    (g : picks is s.hp = some (hp', rest) := by exact rfl) (hrw : AllRw hp' := by repeat (first | exact trivial | refine ⟨trivial, ?_⟩))
    (he : e = .normal ∨ e = .ret := by first | exact .inl rfl | exact .inr rfl) : Nx ⟨P, w0, foot pre, nt, []⟩ s (QM2 P fn w0 pre R) e := fun a w hS =>
  ⟨he, .inl ⟨hS.defers, v, (end_post sc v h1 h2 (give is g) hrw hR hS).1, (end_post sc v h1 h2 (give is g) hrw hR hS).2⟩⟩
theorem nx_end2 {w0 : World} {pre : Hp} {nt D : Nat} {fn : Func} {fr : Fr} {hp : Hp} {R : Value → Hp → Prop} (is : List Nat) (sc : List Nat) (v : Value) {hp' rest : Hp} {e : Exit} (hR : R v hp')
    (h1 : (resOf P fn fr hp sc).isSome = true := by kernel_rfl) (h2 : (resOf P fn fr hp sc).map (fun r => (r.1, r.2.1)) = (resOf P fn fr hp sc).map (fun r => (v, r.2.2.1)) := by kernel_rfl)
    (g : picks is hp = some (hp', rest) := by exact rfl) (hrw : AllRw hp' := by repeat (first | exact trivial | refine ⟨trivial, ?_⟩))
    (he : e = .normal ∨ e = .ret := by first | exact .inl rfl | exact .inr rfl) :
    Nx ⟨P, w0, foot pre, nt, [{ target := .collected D, args := #[] }]⟩ ⟨fr, ob D (.deferred (some [])) :: hp⟩ (QM2 P fn w0 pre R) e := fun a w hS => by
  have hD := ob_holds hS.hs (List.mem_cons_self ..)
  have hS2 := (hS.setOb (.deferred none)).drop1
  obtain ⟨q1, q2⟩ := end_post (s := ⟨fr, hp⟩) sc v h1 h2 (give is g) hrw hR hS2
  exact ⟨he, .inr ⟨D, _, hS.defers, run_takeDeferred hD, v, q1, q2⟩⟩
theorem Does.ent2 {P : Program} {f : FuncId} {args : List Value} {pre pre' : Hp} {R R2 : Value → Hp → Prop} (h : Does P f args pre R) (e : ∀ Γ : Cx, Ent Γ ⟨[], pre'⟩ ⟨[], pre⟩)
    (k : ∀ v hp', R v hp' → ∃ hp2, R2 v hp2 ∧ (∀ Γ : Cx, Ent Γ ⟨[], hp'⟩ ⟨[], hp2⟩) ∧ ∀ c ∈ hp2, c.rw) : Does P f args pre' R2 := fun w hw => by
  have hS : Sat ⟨P, w, foot pre', 0, []⟩ ⟨[], pre'⟩ ⟨#[], []⟩ w := ⟨rfl, rfl, fun i v hi => (by cases hi), hw, Ext.refl _ _, Bd.self _ _⟩
  have h2 := e _ _ _ hS
  refine (h w h2.hs).mono ?_
  rintro e' w' ⟨v, hp', hR, rfl, h3, h4, h5, h6⟩
  obtain ⟨hp2, hR2, he2, hrw⟩ := k v hp' hR
  have hS' : Sat ⟨P, w, foot pre, 0, []⟩ ⟨[], hp'⟩ ⟨#[], []⟩ w' := ⟨rfl, rfl, fun i v hi => (by cases hi), h3, h4, h5⟩
  have h7 := he2 _ _ _ hS'
  have hsub : ∀ k, foot pre k → foot pre' k ∨ w.heap.size ≤ k := fun k ⟨c, hc, hcr, hk⟩ => h2.bd c hc hcr k hk
  refine ⟨v, hp2, hR2, rfl, h7.hs, ⟨h7.ext.os, h7.ext.tape, h7.ext.output, h7.ext.size, fun k hk hF => h7.ext.block k hk fun hF' => ?_⟩, fun c hc hcr k hk => ?_, hrw⟩
  · rcases hsub k hF' with h8 | h8
    · exact hF h8
    · omega
  · rcases h7.bd c hc hcr k hk with h8 | h8
    · exact hsub k h8
    · exact .inr h8
/-! ### within a round -/
theorem rnd_cond {l t : Nat} {b : Bool} {x y : Code} (hl : look s.fr t = some (.bool b)) {a : Act} {w : World} (hS : Sat Γ s a w) (h : (if b then x else y).wpIn (Fence.wide.inRound l) 0 Γ.P Q a w) :
    (Code.cond (.tmp t) x y).wpIn (Fence.wide.inRound l) 0 Γ.P Q a w := wpIn_cond (hS.fr t _ hl) h
end Go.Sx
namespace Go.Proofs.YtgcfomhlgipllaaGreatDoor
open Go Go.Sx
theorem inward_spec (a : Option Addr) (n c : Nat) : Does Tryz.prog 77 [.slice a n c] [] (fun r hp' => ∃ g, r = .func (.func 126) #[] #[.pointer (some ⟨g, 0, none⟩)] ∧ hp' = [.blk g 69 [.slice a n c]]) := by
  refine fn_enter Tryz.func77 rfl 4 rfl fun w0 h0 => ?_
  refine SQ (RG ?_)
  refine RP [] (.d .a) 1 .z .a 69 [.slice a n c] fun g1 => ?_
  refine RR [] .z (.i 2 Value.nilFunc .a) .a ?_
  refine RZ (NT (SQ (RG ?_)))
  refine RR [] .z (.i 2 (Value.func (Fn.func 126) #[] #[.pointer (some ⟨g1, 0, none⟩)]) .z) .a ?_
  refine RZ (NT (RE ?_))
  refine NE [0] .a .z [] (Value.func (Fn.func 126) #[] #[.pointer (some ⟨g1, 0, none⟩)]) ?_
  exact ⟨g1, rfl, rfl⟩
theorem nx_cut {Γ : Cx} {s : St} {Q : Exit → Act → World → Prop} {K : Act → World → Prop} (h : ∀ a w, Sat Γ s a w → K a w) : Nx Γ s (Exit.then K Q) .normal := fun a w hS => h a w hS
def rdH (g : Nat) (most : Int) (used : Nat) (a : Option Addr) (c : Nat) (l : List Ob) (f : FrV) (C : Ch) : Hp :=
  [ro (some ⟨g, 0, none⟩) [.bool true, .int .i64 most, .int .i64 used, .slice a l.length c], ro a (l.flatMap objC), gBag l, gPow, ro f.a (f.vars.flatMap biC), C]
def inFr (l : List FrV) (i : Nat) : FrV := l.getD (l.length - 1 - i) ⟨[], 0, none, 0, []⟩
theorem inFr_at {l : List FrV} {i : Nat} (h : i < l.length) : inFr l i = l[l.length - 1 - i]'(by omega) := by
  unfold inFr
  rw [List.getD_eq_getElem?_getD, List.getElem?_eq_getElem (by omega)]; rfl
theorem inFr_mem {l : List FrV} {i : Nat} (h : i < l.length) : inFr l i ∈ l := by rw [inFr_at h]; exact List.getElem_mem _
theorem inFr_all {l : List FrV} {p : FrV → Bool} (h : ∀ i, i < l.length → p (inFr l i) = true) : l.all p = true := by
  rw [List.all_eq_true]
  intro x hx
  obtain ⟨q, hq, rfl⟩ := List.getElem_of_mem hx
  have h1 := h (l.length - 1 - q) (by omega)
  rw [inFr_at (by omega)] at h1
  rwa [show l[l.length - 1 - (l.length - 1 - q)]'(by omega) = l[q] from by congr 1; omega] at h1
theorem inFr_not {l : List FrV} {p : FrV → Bool} {i : Nat} (hi : i < l.length) (h : p (inFr l i) = false) : l.all p = false := by
  rw [List.all_eq_false]
  exact ⟨_, inFr_mem hi, by rw [h]; decide⟩
theorem inward1_spec (y bx : Nat) (g : Nat) (most : Int) (used : Nat) (ao : Option Addr) (c : Nat) (l : List Ob) (fa : Option Addr) (fc : Nat) (fs : List FrV) (hfs : fs.length ≤ 1048576)
    (C : Option Addr × Nat → Nat → Ch) (E : Option Addr × Nat → Ch) (hC : ∀ s i, (C s i).rw) (hE : ∀ s, (E s).rw) (s0 : Option Addr × Nat)
    (hY : ∀ s i, i < fs.length → frameB l.length (inFr fs i) = true → YDoes Tryz.prog y [.int .i64 (i : Int), .agg #[.string (mkS (inFr fs i).fn), .int .i64 (inFr fs i).line, .slice (inFr fs i).a (inFr fs i).vars.length (inFr fs i).c]] (rdH g most used ao c l (inFr fs i) (C s i)) (fun v hp' => v = .bool true ∧ ∃ s', hp' = [C s' (i + 1)]))
    (hN : ∀ s i, i < fs.length → frameB l.length (inFr fs i) = false → YDoes Tryz.prog y [.int .i64 (i : Int), .agg #[.string (mkS (inFr fs i).fn), .int .i64 (inFr fs i).line, .slice (inFr fs i).a (inFr fs i).vars.length (inFr fs i).c]] (rdH g most used ao c l (inFr fs i) (C s i)) (fun v hp' => v = .bool false ∧ ∃ s', hp' = [E s'])) :
    Does Tryz.prog 126 [.func (.yield y) #[] #[], .pointer (some ⟨bx, 0, none⟩)] [C s0 0, .blk bx 69 [.slice fa fs.length fc], ro (some ⟨g, 0, none⟩) [.bool true, .int .i64 most, .int .i64 used, .slice ao l.length c], ro ao (l.flatMap objC), gBag l, gPow, ro fa (fs.flatMap frC), gFr fs]
      (fun v hp' => ∃ s, if fs.all (frameB l.length) then hp' = [C s fs.length, .blk bx 69 [.slice fa fs.length fc]] else hp' = [E s, .blk bx 69 [.slice fa fs.length fc]]) := by
  refine fn_enter Tryz.func126 rfl 22 rfl fun w0 h0 => ?_
  refine SQ (RG ?_)
  refine RR [1] .z (.i 6 (.int .i64 0) (.i 5 (.int .i64 (↑fs.length : Int)) .a)) .a ?_
  refine RZ (NT (BK ?_))
  refine wpc_loop (X := {x : (Option Addr × Nat) × Nat // x.2 ≤ fs.length ∧ ∀ k, k < x.2 → frameB l.length (inFr fs k) = true}) (fun x => St.mk [(6, .int .i64 (x.1.2 : Int)), (5, .int .i64 fs.length), (0, .func (.yield y) #[] #[]), (1, .pointer (some ⟨bx, 0, none⟩))]
    [C x.1.1 x.1.2, .blk bx 69 [.slice fa fs.length fc], ro (some ⟨g, 0, none⟩) [.bool true, .int .i64 most, .int .i64 used, .slice ao l.length c], ro ao (l.flatMap objC), gBag l, gPow, ro fa (fs.flatMap frC), gFr fs]) (fun x => fs.length - x.1.2) ⟨(s0, 0), Nat.zero_le _, fun k hk => absurd hk (Nat.not_lt_zero k)⟩ (ent_fr (by kernel_rfl)) ?_
  rintro ⟨⟨s, i⟩, hi, hal⟩
  dsimp only at hi hal ⊢
  by_cases hlt : i < fs.length
  · refine wpc_fact (fun w h => ro_addr h 6 rfl (by rw [frs_len]; omega)) ?_
    rintro ⟨g0, o0, rfl⟩
    have hfl := inFr_at hlt
    have hat : ((fs.flatMap frC).drop (((fs.length : Int) - 1 - (i : Int)).toNat * 3)).take 3 = [.string (mkS (inFr fs i).fn), .int .i64 (inFr fs i).line, .slice (inFr fs i).a (inFr fs i).vars.length (inFr fs i).c] := by
      rw [hfl, show ((fs.length : Int) - 1 - (i : Int)).toNat = fs.length - 1 - i by omega]
      exact frs_at (by omega)
    have hin : ro (inFr fs i).a ((inFr fs i).vars.flatMap biC) ∈ fs.map frRo := by rw [hfl]; exact frRo_in (by omega)
    have hYi := hY s i hlt
    have hNi := hN s i hlt
    have hG : Give [C s i, .blk bx 69 [.slice (some ⟨g0, o0, none⟩) fs.length fc], ro (some ⟨g, 0, none⟩) [.bool true, .int .i64 most, .int .i64 used, .slice ao l.length c], ro ao (l.flatMap objC), gBag l, gPow, ro (some ⟨g0, o0, none⟩) (fs.flatMap frC), gFr fs]
        (rdH g most used ao c l (inFr fs i) (C s i)) [.blk bx 69 [.slice (some ⟨g0, o0, none⟩) fs.length fc], ro (some ⟨g, 0, none⟩) [.bool true, .int .i64 most, .int .i64 used, .slice ao l.length c], ro ao (l.flatMap objC), gBag l, gPow, ro (some ⟨g0, o0, none⟩) (fs.flatMap frC), gFr fs] :=
      GV (GV (GV (GV (GV (GI [0] rfl) 6 (view_in hin view_ro)) 4 view_gPow) 3 view_self) 2 view_ro) 1 view_ro
    obtain ⟨F, hF⟩ : ∃ F, F = inFr fs i := ⟨_, rfl⟩
    rw [← hF] at hat hYi hNi hG
    cases hb : frameB l.length (inFr fs i) with
    | true =>
      rw [← hF] at hb
      refine SQ (RG ?_)
      refine RR [] .z (.i 7 (.bool (decide ((↑i : Int) < (↑fs.length : Int)))) .a) .a ?_
      refine RZ (NT (SQ ?_))
      refine SC 7 (decide ((↑i : Int) < (↑fs.length : Int))) true (decide_eq_true (by omega)) ?_
      refine CT (SK (NT (SQ (BK (SQ (RG ?_))))))
      refine RR [] .z (.i 3 (.int .i64 (↑i : Int)) (.d (.d (.k .a)))) .a ?_
      refine RZ (NT (SQ ?_))
      refine wpc_region_cut [0, 1, 2, 3, 4, 5, 6, 7, 8, 9] [10, 11] (by kernel_rfl) (by kernel_rfl) ?_ ?_
      · rintro ⟨a', w', v, hp', _, h, _⟩; cases h
      refine RV true [1, 1] (.d (.d (.d (.d (.d (.d (.d (.d (.d .a))))))))) (.i 17 (.pointer (some (Addr.mk g0 (o0 + Int.toNat ((↑(List.length fs) : Int) - 1 - (↑i : Int)) * 3) none))) (.i 16 (.int .i64 ((↑fs.length : Int) - 1 - (↑i : Int))) (.i 15 (.int .i64 (↑i : Int)) (.i 14 (.int .i64 ((↑fs.length : Int) - 1)) (.i 13 (.int .i64 (↑fs.length : Int)) (.i 12 (.slice (some ⟨g0, o0, none⟩) fs.length fc) (.i 11 (.slice (some ⟨g0, o0, none⟩) fs.length fc) (.i 10 (.int .i64 (↑i : Int)) (.i 9 (Value.func (Fn.yield y) #[] #[]) .a))))))))) .a [inI64 ((↑fs.length : Int) - (1 : Int)), inI64 ((↑fs.length : Int) - (1 : Int) - (↑i : Int)), (0 : Int) ≤ (↑fs.length : Int) - (1 : Int) - (↑i : Int) ∧ (↑fs.length : Int) - (1 : Int) - (↑i : Int) < (↑fs.length : Int)] ⟨by unfold inI64; omega, by unfold inI64; omega, by omega, trivial⟩ ?_
      refine wpr_eq (ld (t := 90) (a := (Addr.mk g0 (o0 + Int.toNat ((↑(List.length fs) : Int) - 1 - (↑i : Int)) * 3) none)) (dst := some 18) (by kernel_rfl) true 3 (by kernel_rfl) (by simp) [.string (mkS F.fn), .int .i64 F.line, .slice F.a F.vars.length F.c] rfl (fun w h => ld_ro h 6 rfl _ hat)) ?_
      refine RZ ?_
      refine nx_cut fun a1 w1' hS1 => yield_sound (Γ := ⟨Tryz.prog, w0, _, 22, []⟩) (l := y) (args := [.int .i64 (i : Int), .agg #[.string (mkS F.fn), .int .i64 F.line, .slice F.a F.vars.length F.c]]) (dst := some 19) (by kernel_rfl) (by kernel_rfl) (by rintro ⟨a', w', v, hp', _, h, _⟩; cases h) (hYi hb) hG ?_ hS1
      rintro v _ ⟨rfl, s', rfl⟩
      refine RR [] .z (.i 20 (.bool false) (.d (.d (.d (.d (.d (.d (.d (.d (.d (.d (.d (.d (.k .a)))))))))))))) .a ?_
      refine RZ (NT (CF (SK (BN (NT (RG ?_))))))
      refine RV true [] .z (.i 6 (.int .i64 ((↑i : Int) + 1)) (.d (.d (.k .a)))) .a ([inI64 ((↑i : Int) + (1 : Int))]) ⟨by unfold inI64; omega, trivial⟩ ?_
      refine RZ ?_
      exact fun a' w hS => ⟨⟨(s', i + 1), hlt, fun k hk => by
        by_cases hki : k < i
        · exact hal k hki
        · obtain rfl : k = i := by dsimp only at hk; omega
          rw [← hF]; exact hb⟩, by dsimp only; omega, ent_fr (by kernel_rfl) _ _ (ent_hp [0, 0, 0, 0, 0, 0, 0, 0] rfl _ _ hS)⟩
    | false =>
      have hA := inFr_not hlt hb
      rw [← hF] at hb
      refine SQ (RG ?_)
      refine RR [] .z (.i 7 (.bool (decide ((↑i : Int) < (↑fs.length : Int)))) .a) .a ?_
      refine RZ (NT (SQ ?_))
      refine SC 7 (decide ((↑i : Int) < (↑fs.length : Int))) true (decide_eq_true (by omega)) ?_
      refine CT (SK (NT (SQ (BK (SQ (RG ?_))))))
      refine RR [] .z (.i 3 (.int .i64 (↑i : Int)) (.d (.d (.k .a)))) .a ?_
      refine RZ (NT (SQ ?_))
      refine wpc_region_cut [0, 1, 2, 3, 4, 5, 6, 7, 8, 9] [10, 11] (by kernel_rfl) (by kernel_rfl) ?_ ?_
      · rintro ⟨a', w', v, hp', _, h, _⟩; cases h
      refine RV true [1, 1] (.d (.d (.d (.d (.d (.d (.d (.d (.d .a))))))))) (.i 17 (.pointer (some (Addr.mk g0 (o0 + Int.toNat ((↑(List.length fs) : Int) - 1 - (↑i : Int)) * 3) none))) (.i 16 (.int .i64 ((↑fs.length : Int) - 1 - (↑i : Int))) (.i 15 (.int .i64 (↑i : Int)) (.i 14 (.int .i64 ((↑fs.length : Int) - 1)) (.i 13 (.int .i64 (↑fs.length : Int)) (.i 12 (.slice (some ⟨g0, o0, none⟩) fs.length fc) (.i 11 (.slice (some ⟨g0, o0, none⟩) fs.length fc) (.i 10 (.int .i64 (↑i : Int)) (.i 9 (Value.func (Fn.yield y) #[] #[]) .a))))))))) .a [inI64 ((↑fs.length : Int) - (1 : Int)), inI64 ((↑fs.length : Int) - (1 : Int) - (↑i : Int)), (0 : Int) ≤ (↑fs.length : Int) - (1 : Int) - (↑i : Int) ∧ (↑fs.length : Int) - (1 : Int) - (↑i : Int) < (↑fs.length : Int)] ⟨by unfold inI64; omega, by unfold inI64; omega, by omega, trivial⟩ ?_
      refine wpr_eq (ld (t := 90) (a := (Addr.mk g0 (o0 + Int.toNat ((↑(List.length fs) : Int) - 1 - (↑i : Int)) * 3) none)) (dst := some 18) (by kernel_rfl) true 3 (by kernel_rfl) (by simp) [.string (mkS F.fn), .int .i64 F.line, .slice F.a F.vars.length F.c] rfl (fun w h => ld_ro h 6 rfl _ hat)) ?_
      refine RZ ?_
      refine nx_cut fun a1 w1' hS1 => yield_sound (Γ := ⟨Tryz.prog, w0, _, 22, []⟩) (l := y) (args := [.int .i64 (i : Int), .agg #[.string (mkS F.fn), .int .i64 F.line, .slice F.a F.vars.length F.c]]) (dst := some 19) (by kernel_rfl) (by kernel_rfl) (by rintro ⟨a', w', v, hp', _, h, _⟩; cases h) (hNi hb) hG ?_ hS1
      rintro v _ ⟨rfl, s', rfl⟩
      refine RR [] .z (.i 20 (.bool true) (.d (.d (.d (.d (.d (.d (.d (.d (.d (.d (.d (.d (.k .a)))))))))))))) .a ?_
      refine RZ (NT (CT (RE (BR (TR (TR (BR ?_)))))))
      have hr : AllRw [E s', .blk bx 69 [.slice (some ⟨g0, o0, none⟩) fs.length fc]] := ⟨hE s', trivial, trivial⟩
      refine NE [0, 0] (.k (.k .z)) (.d (.d (.k .a))) [] (.tuple #[]) ?_
      exact ⟨s', by rw [hA]; rfl⟩
  · obtain rfl : i = fs.length := by omega
    have hA := inFr_all hal
    refine SQ (RG ?_)
    refine RR [] .z (.i 7 (.bool (decide ((↑fs.length : Int) < (↑fs.length : Int)))) .a) .a ?_
    refine RZ (NT (SQ ?_))
    refine SC 7 (decide ((↑fs.length : Int) < (↑fs.length : Int))) false (by simp) ?_
    refine CF (EX (TE (TE (BH ?_))))
    have hr : AllRw [C s fs.length, .blk bx 69 [.slice fa fs.length fc]] := ⟨hC s _, trivial, trivial⟩
    refine NE [0, 0] (.k (.k .z)) (.d (.d (.k .a))) [] (.tuple #[]) ?_
    exact ⟨s, by rw [hA]; rfl⟩
end Go.Proofs.YtgcfomhlgipllaaGreatDoor
namespace Go.Proofs.YtgcfomhlgipllaaGreatDoor
open Go Go.Sx
def asg2 : Code := ((Code.region 8 #[{ dst := some 9, op := Op.assign (Operand.tmp 42), type := 3, pos := "show.go:129", after := #[], guard := none }] false).seq (Code.region 9 #[{ dst := some 10, op := Op.alloc 90, type := 0, pos := "show.go:129", after := #[], guard := none }, { dst := none, op := Op.store 90 (Operand.tmp 10) (Operand.tmp 43), type := 0, pos := "show.go:129", after := #[{ on := 0, ground := Ground.data }, { on := 0, ground := Ground.phase }], guard := none }] false))
def rst2 : Code := ((Code.region 13 #[{ dst := some 49, op := Op.load 90 (Operand.tmp 10), type := 90, pos := "show.go:134", after := #[], guard := none }, { dst := some 50, op := Op.move (Operand.tmp 11), type := 9, pos := "show.go:134", after := #[], guard := none }, { dst := some 51, op := Op.load 84 (Operand.tmp 3), type := 84, pos := "show.go:134", after := #[], guard := none }, { dst := some 52, op := Op.call { callee := Callee.value (Operand.func 78), args := #[Operand.tmp 49, Operand.tmp 50, Operand.tmp 51], argTypes := #[90, 9, 84] }, type := 143, pos := "show.go:134", after := #[{ on := 0, ground := Ground.data }, { on := 1, ground := Ground.data }, { on := 2, ground := Ground.data }], guard := none }, { dst := some 48, op := Op.move (Operand.tmp 52), type := 143, pos := "show.go:134", after := #[{ on := 3, ground := Ground.data }], guard := none }, { dst := some 53, op := Op.extract (Operand.tmp 48) 0, type := 9, pos := "show.go:134", after := #[{ on := 4, ground := Ground.data }], guard := none }, { dst := some 54, op := Op.extract (Operand.tmp 48) 1, type := 4, pos := "show.go:134", after := #[{ on := 4, ground := Ground.data }, { on := 7, ground := Ground.gcOnly Departure.lateStores }], guard := none }, { dst := some 12, op := Op.assign (Operand.tmp 53), type := 9, pos := "show.go:134", after := #[{ on := 5, ground := Ground.data }, { on := 3, ground := Ground.chain }, { on := 0, ground := Ground.phase }, { on := 1, ground := Ground.phase }, { on := 2, ground := Ground.phase }, { on := 3, ground := Ground.phase }, { on := 4, ground := Ground.phase }, { on := 5, ground := Ground.phase }, { on := 6, ground := Ground.textOnly Departure.lateStores }], guard := none }, { dst := some 13, op := Op.assign (Operand.tmp 54), type := 4, pos := "show.go:134", after := #[{ on := 6, ground := Ground.data }, { on := 7, ground := Ground.chain }, { on := 0, ground := Ground.phase }, { on := 1, ground := Ground.phase }, { on := 2, ground := Ground.phase }, { on := 3, ground := Ground.phase }, { on := 4, ground := Ground.phase }, { on := 5, ground := Ground.phase }, { on := 6, ground := Ground.phase }, { on := 7, ground := Ground.phase }], guard := none }] false).seq (((Code.region 14 #[{ dst := some 55, op := Op.move (Operand.tmp 13), type := 4, pos := "show.go:135", after := #[], guard := none }, { dst := some 56, op := Op.unOp UnOp.not 4 (Operand.tmp 55), type := 4, pos := "show.go:135", after := #[{ on := 0, ground := Ground.data }], guard := none }] false).seq (Code.cond (Operand.tmp 56) ((Code.region 15 #[{ dst := none, op := Op.store 22 (Operand.tmp 4) (Operand.const (Value.slice none 0 0)), type := 0, pos := "show.go:136", after := #[], guard := none }, { dst := none, op := Op.store 30 (Operand.tmp 5) (Operand.const (Value.int IntKind.i64 2)), type := 0, pos := "show.go:136", after := #[{ on := 0, ground := Ground.chain }, { on := 0, ground := Ground.phase }], guard := none }] false).seq Code.ret) Code.skip)).seq (Code.region 16 #[{ dst := some 57, op := Op.load 22 (Operand.tmp 8), type := 22, pos := "show.go:138", after := #[], guard := none }, { dst := some 58, op := Op.move (Operand.tmp 12), type := 9, pos := "show.go:138", after := #[], guard := none }, { dst := some 59, op := Op.buildSlice 22 1 #[(0, Operand.tmp 58)], type := 22, pos := "show.go:138", after := #[{ on := 1, ground := Ground.data }], guard := none }, { dst := some 60, op := Op.call { callee := Callee.builtin Builtin.append, args := #[Operand.tmp 57, Operand.tmp 59], argTypes := #[22, 22] }, type := 22, pos := "show.go:138", after := #[{ on := 0, ground := Ground.data }, { on := 2, ground := Ground.data }], guard := none }, { dst := none, op := Op.store 22 (Operand.tmp 8) (Operand.tmp 60), type := 0, pos := "show.go:138", after := #[{ on := 3, ground := Ground.data }, { on := 3, ground := Ground.chain }, { on := 0, ground := Ground.phase }, { on := 1, ground := Ground.phase }, { on := 2, ground := Ground.phase }, { on := 3, ground := Ground.phase }], guard := none }] false)))
def bdy2 : Code := (Code.block 1 ((Code.region 10 #[{ dst := some 11, op := Op.assign (Operand.const (Value.string { data := #[32, 32] })), type := 9, pos := "show.go:130", after := #[], guard := none }] false).seq (((Code.region 11 #[{ dst := some 44, op := Op.move (Operand.tmp 9), type := 3, pos := "show.go:131", after := #[], guard := none }, { dst := some 45, op := Op.fieldAddr 76 (Operand.tmp 2) 1, type := 0, pos := "show.go:131", after := #[], guard := none }, { dst := some 46, op := Op.load 3 (Operand.tmp 45), type := 3, pos := "show.go:131", after := #[{ on := 1, ground := Ground.data }], guard := none }, { dst := some 47, op := Op.binOp BinOp.eql 3 (Operand.tmp 44) (Operand.tmp 46) 3, type := 4, pos := "show.go:131", after := #[{ on := 0, ground := Ground.data }, { on := 2, ground := Ground.data }], guard := none }] false).seq (Code.cond (Operand.tmp 47) (Code.region 12 #[{ dst := some 11, op := Op.assign (Operand.const (Value.string { data := #[62, 32] })), type := 9, pos := "show.go:132", after := #[], guard := none }] false) Code.skip)).seq rst2)))
def frT (L : List O) (sel : Int) (fs : List FrV) (P0 : Tx) (i : Nat) : List Tx := P0 :: (List.range i).map fun k => frameT L (markT k sel) (inFr fs k)
theorem frT_len (L : List O) (sel : Int) (fs : List FrV) (P0 : Tx) (i : Nat) : (frT L sel fs P0 i).length = i + 1 := by unfold frT; rw [List.length_cons, List.length_map, List.length_range]
theorem frT_succ (L : List O) (sel : Int) (fs : List FrV) (P0 : Tx) (i : Nat) : frT L sel fs P0 i ++ [frameT L (markT i sel) (inFr fs i)] = frT L sel fs P0 (i + 1) := by unfold frT; rw [List.range_succ, List.map_append, List.cons_append]; rfl
theorem markT_len (i : Nat) (sel : Int) : (markT i sel).length ≤ 2 := by unfold markT; split <;> decide
def CC2 (y D fn : Nat) (tm : Array Value) (g8 g4 g5 g2 g3 g : Nat) (v : List Value) (T : List Tx) (s : Option Addr × Nat) : Ch :=
  star [ob y (.loop (rec0 .ready fn tm #[42, 43] asg2 bdy2 D)), ob D (.deferred (some [])), .blk g8 22 [.slice s.1 T.length s.2], row 9 1 s.1 T.length s.2 (strsC T), .blk g4 22 [.slice none 0 0], .blk g5 30 [.int .i64 0], .blk g2 76 v, .blk g3 84 [.pointer (some ⟨g, 0, none⟩)]]
def EE2 (y D fn : Nat) (tm : Array Value) (g4 g5 : Nat) : Ch :=
  star [ob y (.loop (recL fn tm #[42, 43] asg2 bdy2 D)), ob D (.deferred (some [])), .blk g4 22 [.slice none 0 0], .blk g5 30 [.int .i64 2]]
set_option maxHeartbeats 4000000 in
theorem round2_spec (y D fn : Nat) (tm : Array Value) (hsz : tm.size = 96) (g8 g4 g5 g2 g3 g : Nat) (h8 : tm.getD 8 undef = .pointer (some ⟨g8, 0, none⟩)) (h4 : tm.getD 4 undef = .pointer (some ⟨g4, 0, none⟩)) (h5 : tm.getD 5 undef = .pointer (some ⟨g5, 0, none⟩)) (h2 : tm.getD 2 undef = .pointer (some ⟨g2, 0, none⟩)) (h3 : tm.getD 3 undef = .pointer (some ⟨g3, 0, none⟩))
    (most : Int) (used : Nat) (ao : Option Addr) (c : Nat) (l : List Ob) (hl4 : l.length ≤ 4096) (hL : okHeap (l.map Ob.o)) (v : ViV) (hv : v.ok) (P0 : Tx) (i : Nat) (hi : i < v.frames.length) (s : Option Addr × Nat) (R : Bool) (hR : frameB l.length (inFr v.frames i) = R) :
    YDoes Tryz.prog y [.int .i64 (i : Int), .agg #[.string (mkS (inFr v.frames i).fn), .int .i64 (inFr v.frames i).line, .slice (inFr v.frames i).a (inFr v.frames i).vars.length (inFr v.frames i).c]] (rdH g most used ao c l (inFr v.frames i) (CC2 y D fn tm g8 g4 g5 g2 g3 g (viC v) (frT (l.map Ob.o) v.sel v.frames P0 i) s))
      (fun r hp' => if R then r = .bool true ∧ ∃ s', hp' = [CC2 y D fn tm g8 g4 g5 g2 g3 g (viC v) (frT (l.map Ob.o) v.sel v.frames P0 (i + 1)) s'] else r = .bool false ∧ hp' = [EE2 y D fn tm g4 g5]) := by
  have hF : (inFr v.frames i).ok := hv.2.2.2.2.1 _ (inFr_mem hi)
  have hlen := frT_len (l.map Ob.o) v.sel v.frames P0 i
  have hsucc := frT_succ (l.map Ob.o) v.sel v.frames P0 i
  have hlen2 := frT_len (l.map Ob.o) v.sel v.frames P0 (i + 1)
  have hiv : i < 1048576 := Nat.lt_of_lt_of_le hi hv.2.2.2.1
  have hcall := frame_spec g most used ao c l hl4 hL (inFr v.frames i) hF (markT i v.sel) (markT_len i v.sel)
  obtain ⟨F, hFe⟩ : ∃ F, F = inFr v.frames i := ⟨_, rfl⟩
  rw [← hFe] at hR hsucc hcall ⊢
  rw [hR, show frC F = [.string (mkS F.fn), .int .i64 F.line, .slice F.a F.vars.length F.c] from rfl] at hcall
  obtain ⟨LN, hLN⟩ : ∃ N, N = frameT (l.map Ob.o) (markT i v.sel) F := ⟨_, rfl⟩
  rw [← hLN] at hcall hsucc
  obtain ⟨T, hT⟩ : ∃ T, T = frT (l.map Ob.o) v.sel v.frames P0 i := ⟨_, rfl⟩
  rw [← hT] at hlen hsucc ⊢
  obtain ⟨T2, hT2⟩ : ∃ T, T = frT (l.map Ob.o) v.sel v.frames P0 (i + 1) := ⟨_, rfl⟩
  rw [← hT2] at hlen2 hsucc ⊢
  intro w hw
  obtain ⟨PRE, hPRE⟩ : ∃ P, P = rdH g most used ao c l F (CC2 y D fn tm g8 g4 g5 g2 g3 g (viC v) T s) := ⟨_, rfl⟩
  obtain ⟨RQ, hRQ⟩ : ∃ RQ : Value → Hp → Prop, RQ = (fun r hp' => if R then r = .bool true ∧ ∃ s', hp' = [CC2 y D fn tm g8 g4 g5 g2 g3 g (viC v) T2 s'] else r = .bool false ∧ hp' = [EE2 y D fn tm g4 g5]) := ⟨_, rfl⟩
  rw [← hRQ]
  rw [← hPRE] at hw ⊢
  have hS0 : Sat ⟨Tryz.prog, w, foot PRE, 96, []⟩ ⟨[(42, .int .i64 (i : Int)), (43, .agg #[.string (mkS F.fn), .int .i64 F.line, .slice F.a F.vars.length F.c]), (2, .pointer (some ⟨g2, 0, none⟩)), (3, .pointer (some ⟨g3, 0, none⟩)), (4, .pointer (some ⟨g4, 0, none⟩)), (5, .pointer (some ⟨g5, 0, none⟩)), (8, .pointer (some ⟨g8, 0, none⟩))], rdH g most used ao c l F (CC2 y D fn tm g8 g4 g5 g2 g3 g (viC v) T s)⟩
      ⟨(tm.setIfInBounds 42 (.int .i64 (i : Int))).setIfInBounds 43 (.agg #[.string (mkS F.fn), .int .i64 F.line, .slice F.a F.vars.length F.c]), []⟩ w := by
    refine ⟨by simp [hsz], rfl, fun i v hi => ?_, hPRE ▸ hw, Ext.refl _ _, hPRE ▸ Bd.self _ _⟩
    simp only [Sx.look] at hi
    split at hi
    · rename_i e; subst e; cases hi; simp [Array.getD_eq_getD_getElem?, Array.getElem?_setIfInBounds, hsz]
    split at hi
    · rename_i e; subst e; cases hi; simp [Array.getD_eq_getD_getElem?, Array.getElem?_setIfInBounds, hsz]
    split at hi
    · rename_i e; subst e; cases hi; rw [← h2]; simp [Array.getD_eq_getD_getElem?, Array.getElem?_setIfInBounds]
    split at hi
    · rename_i e; subst e; cases hi; rw [← h3]; simp [Array.getD_eq_getD_getElem?, Array.getElem?_setIfInBounds]
    split at hi
    · rename_i e; subst e; cases hi; rw [← h4]; simp [Array.getD_eq_getD_getElem?, Array.getElem?_setIfInBounds]
    split at hi
    · rename_i e; subst e; cases hi; rw [← h5]; simp [Array.getD_eq_getD_getElem?, Array.getElem?_setIfInBounds]
    split at hi
    · rename_i e; subst e; cases hi; rw [← h8]; simp [Array.getD_eq_getD_getElem?, Array.getElem?_setIfInBounds]
    · cases hi
  have hS1 := ent_unstar _ _ (ent_hp [5, 0, 0, 0, 0, 0] rfl _ _ hS0)
  have hl : w.heap[y]? = some (.loop (rec0 .ready fn tm #[42, 43] asg2 bdy2 D)) := ob_holds hS1.hs (by simp)
  have hy := run_yield (P := Tryz.prog) (args := #[.int .i64 (i : Int), .agg #[.string (mkS F.fn), .int .i64 F.line, .slice F.a F.vars.length F.c]]) hl rfl
  rw [show (((rec0 .ready fn tm #[42, 43] asg2 bdy2 D).params.zip #[.int .i64 (i : Int), .agg #[.string (mkS F.fn), .int .i64 F.line, .slice F.a F.vars.length F.c]]).foldl (fun tmps (t, a) => tmps.setIfInBounds t a) (rec0 .ready fn tm #[42, 43] asg2 bdy2 D).tmps) = (tm.setIfInBounds 42 (.int .i64 (i : Int))).setIfInBounds 43 (.agg #[.string (mkS F.fn), .int .i64 F.line, .slice F.a F.vars.length F.c]) from by kernel_rfl] at hy
  refine ⟨fn, _, asg2, bdy2, hy, ?_⟩
  refine roundIn_of_wpIn trivial ?_
  unfold asg2 bdy2 rst2
  refine wpIn_seq (rnd_region (Γ := ⟨Tryz.prog, w, foot PRE, 96, []⟩) [0] (by kernel_rfl) (by kernel_rfl) ?_ ?_ hS1)
  · rintro ⟨a', w', h⟩; exact h
  refine RR [] .z (.i 9 (.int .i64 (↑i : Int)) (.d (.k .a))) (.k (.k (.k (.k (.k (.k (.u .a .a))))))) ?_
  refine RZ ?_
  refine nx_cut fun a2 w2 hS2 => rnd_region [0, 1] (by kernel_rfl) (by kernel_rfl) ?_ ?_ hS2
  · rintro ⟨a', w', h⟩; exact h
  refine RP [] (.d .a) 10 .a (.k (.k (.k (.k (.k (.k (.u .a .a))))))) 90 [.string ⟨#[]⟩, .int .i64 0, .slice none 0 0] fun g1 => ?_
  refine RR [13, 13, 13] .z (.k (.k (.d (.k .a)))) (.k (.k (.k (.k (.k (.k (.u .a (.k (.k (.k (.k (.k (.k (.u (.i (.string (mkS F.fn)) (.i (.int .i64 F.line) (.i (.slice F.a F.vars.length F.c) .z))) .a)))))))))))))) ?_
  refine RZ ?_
  refine nx_cut fun a3 w3 hS3 => ?_
  have hS4 := hS3.setOb (.loop { rec0 .ready fn tm #[42, 43] asg2 bdy2 D with state := .busy })
  refine ⟨_, run_beginRound (ob_holds hS3.hs (List.mem_cons_self ..)) rfl, ?_⟩
  refine wpIn_block (wpIn_seq (rnd_region [0] (by kernel_rfl) (by kernel_rfl) ?_ ?_ hS4))
  · rintro ⟨a', w', h⟩; exact h
  refine RR [] .z (.i 11 (.string (ByteArray.mk #[32, 32])) .a) (.k (.k (.k (.k (.k (.k (.u .a .a))))))) ?_
  refine RZ ?_
  refine nx_cut fun a5 w5 hS5 => wpIn_seq (wpIn_seq (rnd_region [0, 1, 2, 3] (by kernel_rfl) (by kernel_rfl) ?_ ?_ hS5))
  · rintro ⟨a', w', h⟩; exact h
  refine RR [6] .z (.i 47 (.bool ((↑i : Int) == v.sel)) (.k (.k (.d (.d (.k .a)))))) (.k (.k (.k (.k (.k (.k (.u .a .a))))))) ?_
  refine RZ ?_
  obtain ⟨gN, hgN⟩ : ∃ n, n = g1 := ⟨_, rfl⟩
  have rest : ∀ a7 w7, Sat ⟨Tryz.prog, w, foot PRE, 96, []⟩ ⟨[(11, .string (mkS (markT i v.sel))), (10, .pointer (some ⟨gN, 0, none⟩)), (3, .pointer (some ⟨g3, 0, none⟩)), (4, .pointer (some ⟨g4, 0, none⟩)), (5, .pointer (some ⟨g5, 0, none⟩)), (8, .pointer (some ⟨g8, 0, none⟩))],
      [ob y (.loop { rec0 .ready fn tm #[42, 43] asg2 bdy2 D with state := .busy }), ob D (.deferred (some [])), .blk g8 22 [.slice s.1 T.length s.2], row 9 1 s.1 T.length s.2 (strsC T), .blk g4 22 [.slice none 0 0], .blk g5 30 [.int .i64 0], .blk g2 76 (viC v), .blk g3 84 [.pointer (some ⟨g, 0, none⟩)],
       ro (some ⟨g, 0, none⟩) [.bool true, .int .i64 most, .int .i64 used, .slice ao l.length c], ro ao (l.flatMap objC), gBag l, gPow, ro F.a (F.vars.flatMap biC), .blk gN 90 [.string (mkS F.fn), .int .i64 F.line, .slice F.a F.vars.length F.c]]⟩ a7 w7 →
      rst2.wpIn (Fence.wide.inRound y) 0 Tryz.prog (Exit.inBlock 1 (roundPost Tryz.prog y (Post w PRE RQ))) a7 w7 := by
    intro a7 w7 hS7
    unfold rst2
    refine wpIn_seq (rnd_region (Γ := ⟨Tryz.prog, w, foot PRE, 96, []⟩) [0, 1, 2, 3, 4, 5, 6, 7, 8] (by kernel_rfl) (by kernel_rfl) ?_ ?_ hS7)
    · rintro ⟨a', w', h⟩; exact h
    refine RR [13, 13, 13, 7] (.d (.d (.d .a))) (.i 51 (.pointer (some ⟨g, 0, none⟩)) (.i 50 (.string (mkS (markT i v.sel))) (.i 49 (.agg #[.string (mkS F.fn), .int .i64 F.line, .slice F.a F.vars.length F.c]) (.d (.d (.d (.k .a))))))) (.k (.k (.k (.k (.k (.k (.u .a .a))))))) ?_
    refine RCG (dst := some 52) (.k (.k (.k (.k (.k (.k (.u .a .a))))))) (hcall) (GV (GV (GV (GV (GV (GI []) 12 view_ro) 11 view_gPow) 10 view_self) 9 view_ro) 8 view_ro) ?_
    rintro r _ ⟨hr, rfl⟩
    cases R with
    | true =>
      rw [if_pos rfl] at hr
      obtain rfl := hr
      refine RR [] .z (.i 13 (.bool true) (.i 12 (.string (mkS LN)) (.d (.d (.d (.d (.k .a))))))) (.k (.k (.k (.k (.k (.k (.u .a .a))))))) ?_
      refine RZ ?_
      refine nx_cut fun a8 w8 hS8 => wpIn_seq (wpIn_seq (rnd_region [0, 1] (by kernel_rfl) (by kernel_rfl) ?_ ?_ hS8))
      · rintro ⟨a', w', h⟩; exact h
      refine RR [] .z (.i 56 (.bool false) (.d (.k .a))) (.k (.k (.k (.k (.k (.k (.u .a .a))))))) ?_
      refine RZ ?_
      refine nx_cut fun a9 w9 hS9 => rnd_cond (l := y) (b := false) rfl hS9 (wpIn_skip ?_)
      refine rnd_region (Γ := ⟨Tryz.prog, w, foot PRE, 96, []⟩) [0, 1, 2, 3, 4] (by kernel_rfl) (by kernel_rfl) ?_ ?_ hS9
      · rintro ⟨a', w', h⟩; exact h
      refine RN [2] (.d (.d (.d .a))) 59 (fun g6 => (.slice (some ⟨g6, 0, none⟩) 1 1)) (.i 57 (.slice s.fst T.length s.snd) (.d (.d (.d (.d (.k .a)))))) (.k (.k (.k (.k (.k (.k (.u .a .a))))))) 9 [.string (mkS LN)] fun g6 => ?_
      refine wpr_ent (ent_turn 14 (ro (some ⟨g6, 0, none⟩) (strsC [LN])) rfl (turn_rblk (strs_one [LN])) rfl) ?_
      refine wpr_app (a := s.fst) (n := T.length) (cap := s.snd) (x := (.slice (some ⟨g6, 0, none⟩) 1 1)) (t := 22) (xt := 22) (dst := some 60) (by kernel_rfl) (e := 9) (sz := 1) (bytes := 16) (by kernel_rfl) 3 (xs := (strsC T)) (by kernel_rfl) (m := 1) (news := (strsC [LN])) (fun w h => src_ro h 14 rfl rfl (fun e => by cases e)) (by unfold maxLen; omega) (by omega) ?_
      intro a2 c2 hn2
      rw [strs_apps, hsucc, show T.length + 1 = T2.length by omega]
      refine RR [2] .z .z (.k (.k (.u (.i (.slice a2 T2.length c2) .z) (.k (.k (.k (.u .a .a))))))) ?_
      refine RZ (BN ?_)
      intro ab wb hSb
      have hlb := ob_holds hSb.hs (List.mem_cons_self ..)
      have hSc := ent_hp [0, 0, 0, 0, 0, 0, 0, 0] rfl _ _ (hSb.setOb (.loop (rec0 .ready fn tm #[42, 43] asg2 bdy2 D)))
      have hr : AllRw [ob y (.loop (rec0 .ready fn tm #[42, 43] asg2 bdy2 D)), ob D (.deferred (some [])), .blk g8 22 [.slice a2 T2.length c2], row 9 1 a2 T2.length c2 (strsC T2), .blk g4 22 [.slice none 0 0], .blk g5 30 [.int .i64 0], .blk g2 76 (viC v), .blk g3 84 [.pointer (some ⟨g, 0, none⟩)]] := ⟨trivial, trivial, trivial, trivial, trivial, trivial, trivial, trivial, trivial⟩
      have hSd := ent_star (rest := []) (allRw_mem hr) _ _ hSc
      exact ⟨_, _, run_endRound none hlb, .bool true, [CC2 y D fn tm g8 g4 g5 g2 g3 g (viC v) T2 (a2, c2)], by rw [hRQ]; exact ⟨rfl, (a2, c2), rfl⟩, rfl, hSd.hs, hSd.ext, hSd.bd, fun ch hch => by rw [List.mem_singleton.1 hch]; trivial⟩
    | false =>
      rw [if_neg (by decide)] at hr
      obtain rfl := hr
      refine RR [] .z (.i 13 (.bool false) (.i 12 (.string (mkS [])) (.d (.d (.d (.d (.k .a))))))) (.k (.k (.k (.k (.k (.k (.u .a .a))))))) ?_
      refine RZ ?_
      refine nx_cut fun a8 w8 hS8 => wpIn_seq (wpIn_seq (rnd_region [0, 1] (by kernel_rfl) (by kernel_rfl) ?_ ?_ hS8))
      · rintro ⟨a', w', h⟩; exact h
      refine RR [] .z (.i 56 (.bool true) (.d (.k .a))) (.k (.k (.k (.k (.k (.k (.u .a .a))))))) ?_
      refine RZ ?_
      refine nx_cut fun a9 w9 hS9 => rnd_cond (l := y) (b := true) rfl hS9 (wpIn_seq (rnd_region [0, 1] (by kernel_rfl) (by kernel_rfl) ?_ ?_ hS9))
      · rintro ⟨a', w', h⟩; exact h
      refine RR [4, 5] .z (.d (.k (.d (.d (.k .a))))) (.k (.k (.k (.k (.k (.u (.i (.int .i64 2) .z) (.u .a .a))))))) ?_
      refine RZ ?_
      refine nx_cut fun aa wb hSb => wpIn_ret ?_
      have hlb := ob_holds hSb.hs (List.mem_cons_self ..)
      have hSc := ent_hp [0, 0, 2, 2] rfl _ _ (hSb.setOb (.loop (recL fn tm #[42, 43] asg2 bdy2 D)))
      have hr : AllRw [ob y (.loop (recL fn tm #[42, 43] asg2 bdy2 D)), ob D (.deferred (some [])), .blk g4 22 [.slice none 0 0], .blk g5 30 [.int .i64 2]] := ⟨trivial, trivial, trivial, trivial, trivial⟩
      have hSd := ent_star (rest := []) (allRw_mem hr) _ _ hSc
      exact ⟨_, _, run_endRound (some .ret) hlb, .bool false, [EE2 y D fn tm g4 g5], by rw [hRQ]; exact ⟨rfl, rfl⟩, rfl, hSd.hs, hSd.ext, hSd.bd, fun ch hch => by rw [List.mem_singleton.1 hch]; trivial⟩
  subst hgN
  by_cases hsel : (i : Int) = v.sel
  · have hM : markT i v.sel = [62, 32] := by unfold markT; rw [if_pos hsel]
    refine nx_cut fun a6 w6 hS6 => rnd_cond (l := y) (b := ((i : Int) == v.sel)) rfl hS6 ?_
    rw [if_pos (by simpa using hsel)]
    refine rnd_region (Γ := ⟨Tryz.prog, w, foot PRE, 96, []⟩) [0] (by kernel_rfl) (by kernel_rfl) ?_ ?_ hS6
    · rintro ⟨a', w', h⟩; exact h
    refine RR [] .z (.i 11 (.string (ByteArray.mk #[62, 32])) (.d (.d (.k .a)))) (.k (.k (.k (.k (.k (.k (.u .a .a))))))) ?_
    refine RZ ?_
    rw [hM] at rest
    exact fun a7 w7 hS7 => rest a7 w7 (ent_fr (by kernel_rfl) _ _ hS7)
  · have hM : markT i v.sel = [32, 32] := by unfold markT; rw [if_neg hsel]
    refine nx_cut fun a6 w6 hS6 => rnd_cond (l := y) (b := ((i : Int) == v.sel)) rfl hS6 ?_
    rw [if_neg (by simpa using hsel)]
    rw [hM] at rest
    exact wpIn_skip (rest a6 w6 (ent_fr (by kernel_rfl) _ _ hS6))
end Go.Proofs.YtgcfomhlgipllaaGreatDoor
namespace Go.Proofs.YtgcfomhlgipllaaGreatDoor
open Go Go.Sx
theorem show0 (L : List O) : showT L ⟨0, 0, []⟩ ≠ [] := by
  have h := txt_pos (L := L) (d := 2) (v := ⟨0, 0, []⟩)
  have hr : rightB ⟨0, 0, []⟩ L.length = true := rfl
  unfold showT cutT
  rw [if_pos hr]
  split
  · intro e
    have := congrArg List.length e
    rw [List.length_append] at this
    simp at this
  · exact txt_ne' h
theorem split_le : ∀ (t x : Tx), x ∈ splitT t → x.length ≤ t.length
  | [], x, h => by
    simp [splitT] at h; rw [h]; exact Nat.le_refl _
  | b :: t, x, h => by
    unfold splitT at h
    by_cases hb : b = 10
    · rw [if_pos hb] at h
      rcases List.mem_cons.1 h with rfl | h
      · exact Nat.zero_le _
      · have := split_le t x h
        rw [List.length_cons]; omega
    · rw [if_neg hb] at h
      split at h
      · rename_i e; exact absurd e (split_ne t)
      · rename_i y r e
        rcases List.mem_cons.1 h with rfl | h
        · have := split_le t y (by rw [e]; exact List.mem_cons_self ..)
          rw [List.length_cons, List.length_cons]; omega
        · have := split_le t x (by rw [e]; exact List.mem_cons_of_mem _ h)
          rw [List.length_cons]; omega
theorem tail_le {t x : Tx} (h : x ∈ tailT t) : x.length ≤ t.length := split_le t x (List.dropLast_subset _ (List.mem_of_mem_drop h))
theorem tail_four (t : Tx) : (tailT t).length ≤ 4 := by unfold tailT; dsimp only; rw [List.length_drop]; omega
def lfT (s : Tx) : Tx := lineT [[124, 32], s]
theorem viewB_fst {m : Nat} {v : ViV} (h : statusB v.status v.fault = false) : viewB m v = false := by unfold viewB; rw [h]; rfl
set_option maxHeartbeats 8000000 in
theorem Lines_spec (g : Nat) (most : Int) (used : Nat) (ao : Option Addr) (c : Nat) (l : List Ob) (hl4 : l.length ≤ 4096) (hL : okHeap (l.map Ob.o)) (v : ViV) (hv : v.ok) :
    Does Tryz.prog 32 [.agg (viC v).toArray, .pointer (some ⟨g, 0, none⟩)] [ro (some ⟨g, 0, none⟩) [.bool true, .int .i64 most, .int .i64 used, .slice ao l.length c], ro ao (l.flatMap objC), gBag l, gPow, ro v.fa (v.frames.flatMap frC), gFr v.frames, ro v.sa (v.stops.flatMap spC)]
      (fun r hp' => if viewB l.length v = true then ∃ a' c', r = .tuple #[.slice a' (linesT (l.map Ob.o) v).length c', .int .i64 0] ∧ hp' = [row 9 1 a' (linesT (l.map Ob.o) v).length c' (strsC (linesT (l.map Ob.o) v))] else r = .tuple #[.slice none 0 0, .int .i64 2] ∧ hp' = []) := by
  obtain ⟨v1, v2, v3, v4, v5, v6, v7, v8, v9, v10, v11, v12⟩ := id hv
  unfold okText at v6 v12
  have hS0 := Show_spec g most used ao c l hl4 hL ⟨0, 0, []⟩ (Nat.zero_le _) ⟨by decide, by decide⟩
  have hS1 := show0 (l.map Ob.o)
  unfold valV at hS0
  dsimp only at hS0
  obtain ⟨S, hS⟩ : ∃ S, S = showT (l.map Ob.o) ⟨0, 0, []⟩ := ⟨_, rfl⟩
  rw [← hS] at hS0 hS1
  have hSt := status_spec v
  rw [show lkC v = [.int .i64 v.pos, .int .i64 v.status, .int .i64 v.fault, .slice v.fa v.frames.length v.fc, .string (mkS v.out)] from rfl] at hSt
  have hI := Itoa_spec v.pos v1.1 v1.2
  have hIl := itoa_len20 v1
  obtain ⟨I, hIe⟩ : ∃ I, I = Lib.itoa v.pos := ⟨_, rfl⟩
  rw [← hIe] at hI hIl
  have hst := statusT_len v.status v.fault
  obtain ⟨ST, hSTe⟩ : ∃ I, I = statusT v.status v.fault := ⟨_, rfl⟩
  rw [← hSTe] at hSt hst
  refine fn_enter_m2 (fn := Tryz.f32) (by kernel_rfl) rfl 96 (by kernel_rfl) fun w0 h0 => ?_
  rw [show viC v = [.int .i64 v.pos, .int .i64 v.status, .int .i64 v.fault, .slice v.fa v.frames.length v.fc, .string (mkS v.out), .int .i64 v.sel, .slice v.sa v.stops.length v.sc, .int .i64 v.err, .int .i64 v.n, .string (mkS v.says)] from rfl]
  refine SQ (RG ?_)
  refine RP [] (.d .a) 2 (.d (.k .a)) .a 76 [.int .i64 v.pos, .int .i64 v.status, .int .i64 v.fault, .slice v.fa v.frames.length v.fc, .string (mkS v.out), .int .i64 v.sel, .slice v.sa v.stops.length v.sc, .int .i64 v.err, .int .i64 v.n, .string (mkS v.says)] fun g1 => ?_
  refine RP [] (.d .a) 3 (.k .z) .a 84 [.pointer (some ⟨g, 0, none⟩)] fun g2 => ?_
  refine RP [] (.d .a) 4 .a .a 22 [.slice none 0 0] fun g3 => ?_
  refine RP [] .z 5 .a .a 30 [.int .i64 0] fun g4 => ?_
  refine RZ (NT (SQ (SQ (RG ?_))))
  refine RR [8] (.d (.d .a)) (.i 19 (.agg #[.int .i64 0, .int .i64 0, .string ⟨#[]⟩]) (.i 18 (.pointer (some ⟨g, 0, none⟩)) .a)) .a ?_
  refine RCG (dst := some 20) .a (hS0) (GV (GV (GV (GV (GI []) 3 view_gPow) 2 view_self) 1 view_ro) 0 view_ro) ?_
  rintro r _ ⟨rfl, rfl⟩
  refine RR [] .z (.i 21 (.bool (decide (S = []))) (.d (.d (.d (.k .a))))) .a ?_
  refine RZ (NT ?_)
  refine SC 21 (decide (S = [])) false (decide_eq_false (by omega)) ?_
  refine CF (SK (NT (SQ (RG ?_))))
  refine RR [7, 7, 7, 7, 7] (.d (.d .a)) (.i 24 (.agg #[.int .i64 v.pos, .int .i64 v.status, .int .i64 v.fault, .slice v.fa v.frames.length v.fc, .string (mkS v.out)]) (.d (.d (.k .a)))) .a ?_
  refine RC (dst := some 25) [] .a (hSt) ?_
  rintro r _ ⟨rfl, rfl⟩
  cases hb : statusB v.status v.fault with
  | false =>
    refine RR [] .z (.i 7 (.bool false) (.i 6 (.string (mkS ST)) (.d (.d (.k .a))))) .a ?_
    refine RZ (NT (SQ (SQ (RG ?_))))
    refine RR [] .z (.i 29 (.bool true) (.d (.k .a))) .a ?_
    refine RZ (NT (CT (SQ (RG ?_))))
    refine RR [9, 10] .z (.d (.k .a)) (.k (.k (.k (.k (.k (.k (.k (.k (.k (.k (.u (.i (.int .i64 2) .z) .a))))))))))) ?_
    refine RZ (NT (RE (TR ?_)))
    refine nx_end0 (hp' := []) [] [9, 10] (.tuple #[.slice none 0 0, .int .i64 2]) ?_
    rw [viewB_fst hb, if_neg (by decide)]
    exact ⟨rfl, rfl⟩
  | true =>
    refine RR [] .z (.i 7 (.bool true) (.i 6 (.string (mkS ST)) (.d (.d (.k .a))))) .a ?_
    refine RZ (NT (SQ (SQ (RG ?_))))
    refine RR [] .z (.i 29 (.bool false) (.d (.k .a))) .a ?_
    refine RZ (NT (CF (SK (NT (SQ (RG ?_))))))
    refine RR [7] (.d (.d (.d .a))) (.i 32 (.int .i64 v.pos) (.d (.k .a))) .a ?_
    refine RCG (dst := some 33) .a (hI) (GV (GI []) 3 view_gPow) ?_
    rintro r _ ⟨rfl, rfl⟩
    refine RN [] (.d (.d .a)) 35 (fun g5 => (.slice (some ⟨g5, 0, none⟩) 3 3)) (.d (.d (.d (.k .a)))) .a 9 [.string (ByteArray.mk #[97, 116, 32]), .string (mkS I), .string (mkS ST)] fun g5 => ?_
    refine wpr_ent (ent_turn 11 (ro (some ⟨g5, 0, none⟩) (strsC [[97, 116, 32], I, ST])) rfl (turn_rblk (strs_one [[97, 116, 32], I, ST])) rfl) ?_
    refine RCG (dst := some 36) .a (line_spec (some ⟨g5, 0, none⟩) 3 [[97, 116, 32], I, ST] (by simp) (by simp) (by simp; omega)) (GV (GI []) 11 view_ro) ?_
    rintro r _ ⟨rfl, rfl⟩
    obtain ⟨P0, hP0⟩ : ∃ P, P = lineT [[97, 116, 32], I, ST] := ⟨_, rfl⟩
    rw [← hP0]
    refine RN [] (.d .a) 37 (fun g6 => (.slice (some ⟨g6, 0, none⟩) 1 1)) (.d (.d (.k .a))) .a 9 [.string (mkS P0)] fun g6 => ?_
    refine RP [] (.d .a) 8 .a .a 22 [.slice none 0 0] fun g7 => ?_
    refine RR [13] .z (.k (.d (.k .a))) (.k (.k (.k (.k (.k (.k (.k (.k (.k (.k (.k (.k (.k (.u (.i (.slice (some ⟨g6, 0, none⟩) 1 1) .z) .a)))))))))))))) ?_
    refine RZ (NT (SQ (SQ (RG ?_))))
    refine RR [7] (.d (.d (.d .a))) (.i 40 (.slice v.fa v.frames.length v.fc) .a) .a ?_
    refine RC (dst := some 41) [] .a (inward_spec v.fa v.frames.length v.fc) ?_
    rintro r _ ⟨gb, rfl, rfl⟩
    refine RZ (NT (BK ?_))
    refine wpc_ent (ent_turn 13 (row 9 1 (some ⟨g6, 0, none⟩) 1 1 (strsC [P0])) rfl (turn_blk rfl (strs_one [P0]) (by decide)) rfl) ?_
    have hVB : viewB l.length v = v.frames.all (frameB l.length) := by unfold viewB; rw [hb, Bool.true_and]
    rw [hVB]
    obtain ⟨N, hN⟩ : ∃ N, N = v.frames.length := ⟨_, rfl⟩
    refine wpc_range2 41 rfl rfl (by kernel_rfl) rfl fun act hsz hfr fn y D => ?_
    have hD := inward1_spec y gb g most used ao c l v.fa v.fc v.frames v4 (fun s i => CC2 y D fn act.tmps g7 g3 g4 g1 g2 g (viC v) (frT (l.map Ob.o) v.sel v.frames P0 i) s) (fun _ => EE2 y D fn act.tmps g3 g4) (fun _ _ => trivial) (fun _ => trivial) (some ⟨g6, 0, none⟩, 1)
      (fun s i hi hf => by
        have h := round2_spec y D fn act.tmps hsz g7 g3 g4 g1 g2 g (hfr 8 _ rfl) (hfr 4 _ rfl) (hfr 5 _ rfl) (hfr 2 _ rfl) (hfr 3 _ rfl) most used ao c l hl4 hL v hv P0 i hi s true hf
        simpa only [if_true] using h)
      (fun s i hi hf => by
        have h := round2_spec y D fn act.tmps hsz g7 g3 g4 g1 g2 g (hfr 8 _ rfl) (hfr 4 _ rfl) (hfr 5 _ rfl) (hfr 2 _ rfl) (hfr 3 _ rfl) most used ao c l hl4 hL v hv P0 i hi s false hf
        exact fun w hw => by
          obtain ⟨f1, f2, f3, f4, f5, f6⟩ := h w hw
          refine ⟨f1, f2, f3, f4, f5, f6.mono ?_⟩
          rintro e w' ⟨r, hp', hq, hr⟩
          rw [if_neg (by decide)] at hq
          exact ⟨r, hp', ⟨hq.1, (none, 0), hq.2⟩, hr⟩)
    obtain ⟨T, hT⟩ : ∃ T : Nat → List Tx, T = frT (l.map Ob.o) v.sel v.frames P0 := ⟨_, rfl⟩
    have hT0 : T 0 = [P0] := by rw [hT]; rfl
    have hTl : ∀ i, (T i).length = i + 1 := fun i => by rw [hT]; exact frT_len _ _ _ _ _
    refine ⟨fun r hp' => ∃ s : Option Addr × Nat, if v.frames.all (frameB l.length) then hp' = [ob y (.loop (rec0 .ready fn act.tmps #[42, 43] asg2 bdy2 D)), ob D (.deferred (some [])), .blk g7 22 [.slice s.1 (T v.frames.length).length s.2], row 9 1 s.1 (T v.frames.length).length s.2 (strsC (T v.frames.length)), .blk g3 22 [.slice none 0 0], .blk g4 30 [.int .i64 0], .blk g1 76 (viC v), .blk g2 84 [.pointer (some ⟨g, 0, none⟩)], .blk gb 69 [.slice v.fa v.frames.length v.fc]] else hp' = [ob y (.loop (recL fn act.tmps #[42, 43] asg2 bdy2 D)), ob D (.deferred (some [])), .blk g3 22 [.slice none 0 0], .blk g4 30 [.int .i64 2], .blk gb 69 [.slice v.fa v.frames.length v.fc]],
      [ro (some ⟨g, 0, none⟩) [.bool true, .int .i64 most, .int .i64 used, .slice ao l.length c], ro ao (l.flatMap objC), gBag l, gPow, ro v.fa (v.frames.flatMap frC), gFr v.frames, ob y (.loop (rec0 .ready fn act.tmps #[42, 43] asg2 bdy2 D)), ob D (.deferred (some [])), .blk g7 22 [.slice (some ⟨g6, 0, none⟩) 1 1], row 9 1 (some ⟨g6, 0, none⟩) 1 1 (strsC [P0]), .blk g3 22 [.slice none 0 0], .blk g4 30 [.int .i64 0], .blk g1 76 (viC v), .blk g2 84 [.pointer (some ⟨g, 0, none⟩)], .blk gb 69 [.slice v.fa v.frames.length v.fc]], [ro (some ⟨g, 0, none⟩) [.bool true, .int .i64 most, .int .i64 used, .slice ao l.length c], ro ao (l.flatMap objC), gBag l, gPow, ro v.fa (v.frames.flatMap frC), gFr v.frames, ro v.sa (v.stops.flatMap spC), ro (some ⟨g5, 0, none⟩) (strsC [[97, 116, 32], I, ST])], Does.ent2 hD (fun Γ => ?_) ?_, ?_, ?_⟩
    · intro a' w' hS'
      have hr : AllRw [ob y (.loop (rec0 .ready fn act.tmps #[42, 43] asg2 bdy2 D)), ob D (.deferred (some [])), .blk g7 22 [.slice (some ⟨g6, 0, none⟩) 1 1], row 9 1 (some ⟨g6, 0, none⟩) 1 1 (strsC [P0]), .blk g3 22 [.slice none 0 0], .blk g4 30 [.int .i64 0], .blk g1 76 (viC v), .blk g2 84 [.pointer (some ⟨g, 0, none⟩)]] := ⟨trivial, trivial, trivial, trivial, trivial, trivial, trivial, trivial, trivial⟩
      have h1 := ent_hp [6, 6, 6, 6, 6, 6, 6, 6, 6, 0, 0, 0, 0, 0, 0] rfl _ _ hS'
      exact ent_star (hp := [ob y (.loop (rec0 .ready fn act.tmps #[42, 43] asg2 bdy2 D)), ob D (.deferred (some [])), .blk g7 22 [.slice (some ⟨g6, 0, none⟩) 1 1], row 9 1 (some ⟨g6, 0, none⟩) 1 1 (strsC [P0]), .blk g3 22 [.slice none 0 0], .blk g4 30 [.int .i64 0], .blk g1 76 (viC v), .blk g2 84 [.pointer (some ⟨g, 0, none⟩)]]) (rest := [.blk gb 69 [.slice v.fa v.frames.length v.fc], ro (some ⟨g, 0, none⟩) [.bool true, .int .i64 most, .int .i64 used, .slice ao l.length c], ro ao (l.flatMap objC), gBag l, gPow, ro v.fa (v.frames.flatMap frC), gFr v.frames]) (allRw_mem hr) _ _ h1
    · rintro r hp' ⟨s, hs⟩
      cases hall : v.frames.all (frameB l.length) with
      | true =>
        rw [hall, if_pos rfl] at hs
        subst hs
        refine ⟨_, ⟨s, rfl⟩, fun Γ => ?_, ?_⟩
        · rw [hT]; exact ent_unstar
        · exact allRw_mem ⟨trivial, trivial, trivial, trivial, trivial, trivial, trivial, trivial, trivial, trivial⟩
      | false =>
        rw [hall, if_neg (by decide)] at hs
        subst hs
        refine ⟨_, ⟨s, rfl⟩, fun Γ => ?_, ?_⟩
        · exact ent_unstar
        · exact allRw_mem ⟨trivial, trivial, trivial, trivial, trivial, trivial⟩
    · exact GV (GV (GV (GV (GV (GV (GI [0, 0, 14, 13, 10, 10, 8, 8, 0] rfl) 5 view_self) 4 view_ro) 3 view_gPow) 2 view_self) 1 view_ro) 0 view_ro
    · rintro r hp' ⟨s, hs⟩
      cases hall : v.frames.all (frameB l.length) with
      | true =>
        rw [hall, if_pos rfl] at hs
        subst hs
        refine .inl ⟨_, rfl, ?_⟩
        have hTail := tail_spec v.out v6
        obtain ⟨TL, hTL⟩ : ∃ TL, TL = tailT v.out := ⟨_, rfl⟩
        rw [← hTL] at hTail
        obtain ⟨sa1, sc1⟩ := s
        dsimp only [List.cons_append, List.nil_append]
        obtain ⟨T0, hT00⟩ : ∃ T0, T0 = T v.frames.length := ⟨_, rfl⟩
        have hT0l : T0.length = v.frames.length + 1 := by rw [hT00]; exact hTl _
        rw [← hT00]
        refine BN (NT (SQ (SQ (RG ?_))))
        refine RR [5] (.d (.d (.d .a))) (.i 63 (.string (mkS v.out)) (.d (.d (.k (.k (.k (.d (.k .a)))))))) (.k (.k (.k (.k (.k (.u .a .a)))))) ?_
        refine RC (dst := some 64) [] (.k (.k (.k (.k (.k (.u .a .a)))))) (hTail) ?_
        rintro r _ ⟨gt, off, ct, nt, xs, rfl, rfl, hview⟩
        refine RR [] .z (.i 66 (.int .i64 0) (.i 65 (.int .i64 (↑TL.length : Int)) (.k (.d (.k .a))))) (.k (.k (.k (.k (.k (.k (.u .a .a))))))) ?_
        refine RZ (NT (BK ?_))
        refine wpc_ent (ent_turn 0 (ro (some ⟨gt, off, none⟩) (strsC TL)) rfl (turn_view (view_row.trans hview)) rfl) ?_
        refine wpc_ent (ent_hp [1, 1, 1, 1, 1, 1, 6, 8, 0] rfl) ?_
        obtain ⟨T1, hT1⟩ : ∃ T1 : Nat → List Tx, T1 = fun i => T0 ++ (TL.take i).map lfT := ⟨_, rfl⟩
        have hT1l : ∀ i, i ≤ TL.length → (T1 i).length = v.frames.length + 1 + i := fun i hi => by rw [hT1]; dsimp only; rw [List.length_append, List.length_map, List.length_take, hT0l]; omega
        have hT1s : ∀ i (h : i < TL.length), T1 i ++ [lfT TL[i]] = T1 (i + 1) := fun i h => by rw [hT1]; dsimp only; rw [← List.take_append_getElem h, List.map_append, List.append_assoc]; rfl
        have hT10 : T0 = T1 0 := by rw [hT1]; simp
        have hTL4 : TL.length ≤ 4 := by rw [hTL]; exact tail_four _
        rw [hT10]
        refine wpc_loop (X := {x : Nat × Option Addr × Nat // x.1 ≤ TL.length}) (fun x => St.mk [(66, .int .i64 (x.1.1 : Int)), (65, .int .i64 TL.length), (64, .slice (some ⟨gt, off, none⟩) TL.length ct), (8, .pointer (some ⟨g7, 0, none⟩)), (5, .pointer (some ⟨g4, 0, none⟩)), (4, .pointer (some ⟨g3, 0, none⟩)), (2, .pointer (some ⟨g1, 0, none⟩))]
          [ob D (.deferred (some [])), .blk g7 22 [.slice x.1.2.1 (T1 x.1.1).length x.1.2.2], row 9 1 x.1.2.1 (T1 x.1.1).length x.1.2.2 (strsC (T1 x.1.1)), .blk g3 22 [.slice none 0 0], .blk g4 30 [.int .i64 0], .blk g1 76 [.int .i64 v.pos, .int .i64 v.status, .int .i64 v.fault, .slice v.fa v.frames.length v.fc, .string (mkS v.out), .int .i64 v.sel, .slice v.sa v.stops.length v.sc, .int .i64 v.err, .int .i64 v.n, .string (mkS v.says)], gPow, ro v.sa (v.stops.flatMap spC), ro (some ⟨gt, off, none⟩) (strsC TL)]) (fun x => TL.length - x.1.1) ⟨(0, sa1, sc1), Nat.zero_le _⟩ (ent_fr (by kernel_rfl)) ?_
        rintro ⟨⟨i, a1, c1⟩, hi⟩
        dsimp only at hi ⊢
        by_cases hlt : i < TL.length
        · have hle : (TL[i]).length ≤ 1048576 := Nat.le_trans (tail_le (hTL ▸ List.getElem_mem hlt)) v6
          have hsucc := hT1s i hlt
          have hl1 := hT1l i hi
          have hl2 := hT1l (i + 1) hlt
          unfold lfT at hsucc
          refine SQ (RG ?_)
          refine RR [] .z (.i 67 (.bool (decide ((↑i : Int) < (↑TL.length : Int)))) .a) .a ?_
          refine RZ (NT (SQ ?_))
          refine SC 67 (decide ((↑i : Int) < (↑TL.length : Int))) true (decide_eq_true (by omega)) ?_
          refine CT (SK (NT (SQ (BK (SQ (RG ?_))))))
          refine RV true [] (.d .a) (.i 68 (.pointer (some ⟨gt, off + i * 1, none⟩)) (.d (.d (.k .a)))) .a [(0 : Int) ≤ (↑i : Int) ∧ (↑i : Int) < (↑TL.length : Int)] ⟨by omega, trivial⟩ ?_
          refine wpr_eq (ld (t := 9) (a := ⟨gt, off + i * 1, none⟩) (dst := some 69) (by kernel_rfl) false 1 (by kernel_rfl) (by simp) [.string (mkS TL[i])] rfl (fun w h => ld_ro h 8 rfl (i * 1) (strs_at hlt))) ?_
          refine RR [] .z (.i 15 (.string (mkS TL[i])) (.d (.d (.k .a)))) .a ?_
          refine RZ (NT ?_)
          obtain ⟨LN, hLN⟩ : ∃ N, N = lineT [[124, 32], TL[i]] := ⟨_, rfl⟩
          rw [← hLN] at hsucc
          refine wpc_draw (by kernel_rfl) [] (sub_of [] (by kernel_rfl)) 7 (by kernel_rfl) ?_
          refine TK 6 [(1, [])] (.i 71 (.string (mkS TL[i])) (.d (.k .a))) (#[false, true, false, false, false, false, false]) ?_
          refine wpa_two (i := 0) (j := 2) (n := 5) (by kernel_rfl) ?_ ?_
          · refine wpi_one (n := 5) true 0 [1] [(70, .slice a1 (T1 i).length c1), (71, .string (mkS TL[i])), (66, .int .i64 (↑i : Int)), (65, .int .i64 (↑TL.length : Int)), (64, .slice (some ⟨gt, off, none⟩) TL.length ct), (8, .pointer (some ⟨g7, 0, none⟩)), (5, .pointer (some ⟨g4, 0, none⟩)), (4, .pointer (some ⟨g3, 0, none⟩)), (2, .pointer (some ⟨g1, 0, none⟩))] [ob D (Obj.deferred (some [])), .blk g7 22 [.slice a1 (T1 i).length c1], row 9 1 a1 (T1 i).length c1 (strsC (T1 i)), .blk g3 22 [.slice none 0 0], .blk g4 30 [.int .i64 0], .blk g1 76 [.int .i64 v.pos, .int .i64 v.status, .int .i64 v.fault, .slice v.fa v.frames.length v.fc, .string (mkS v.out), .int .i64 v.sel, .slice v.sa v.stops.length v.sc, .int .i64 v.err, .int .i64 v.n, .string (mkS v.says)], gPow, ro v.sa (List.flatMap spC v.stops), ro (some ⟨gt, off, none⟩) (strsC TL)] [] (by kernel_rfl) (by kernel_rfl) trivial (sub_of [] (by kernel_rfl)) ?_
            refine wpa_new (n := 4) true 2 [] (fun g8 => [(72, .slice (some ⟨g8, 0, none⟩) 2 2), (70, .slice a1 (T1 i).length c1), (66, .int .i64 (↑i : Int)), (65, .int .i64 (↑TL.length : Int)), (64, .slice (some ⟨gt, off, none⟩) TL.length ct), (8, .pointer (some ⟨g7, 0, none⟩)), (5, .pointer (some ⟨g4, 0, none⟩)), (4, .pointer (some ⟨g3, 0, none⟩)), (2, .pointer (some ⟨g1, 0, none⟩))]) (fun g8 => [ob D (Obj.deferred (some [])), .blk g7 22 [.slice a1 (T1 i).length c1], row 9 1 a1 (T1 i).length c1 (strsC (T1 i)), .blk g3 22 [.slice none 0 0], .blk g4 30 [.int .i64 0], .blk g1 76 [.int .i64 v.pos, .int .i64 v.status, .int .i64 v.fault, .slice v.fa v.frames.length v.fc, .string (mkS v.out), .int .i64 v.sel, .slice v.sa v.stops.length v.sc, .int .i64 v.err, .int .i64 v.n, .string (mkS v.says)], gPow, ro v.sa (List.flatMap spC v.stops), ro (some ⟨gt, off, none⟩) (strsC TL), .blk g8 9 [.string (ByteArray.mk #[124, 32]), .string (mkS TL[i])]]) (fun g8 => []) (by kernel_rfl) (fun g8 => by kernel_rfl) (fun g8 => by kernel_rfl) (fun g8 => trivial) (fun g8 => sub_of [] (by kernel_rfl)) fun g8 => ?_
            refine wpa_ent (ent_turn 9 (ro (some ⟨g8, 0, none⟩) (strsC [[124, 32], TL[i]])) rfl (turn_rblk (strs_one [[124, 32], TL[i]])) rfl) ?_
            have hLine := line_spec (some ⟨g8, 0, none⟩) 2 [[124, 32], TL[i]] (by simp) (by simp) (by simp; omega)
            rw [← hLN] at hLine
            refine AC (dst := some 73) 3 3 .a (hLine) (GV (GI []) 9 view_ro) [] ?_
            rintro r _ ⟨rfl, rfl⟩
            refine wpa_new (n := 2) true 4 [] (fun g9 => [(74, .slice (some ⟨g9, 0, none⟩) 1 1), (70, .slice a1 (T1 i).length c1), (66, .int .i64 (↑i : Int)), (65, .int .i64 (↑TL.length : Int)), (64, .slice (some ⟨gt, off, none⟩) TL.length ct), (8, .pointer (some ⟨g7, 0, none⟩)), (5, .pointer (some ⟨g4, 0, none⟩)), (4, .pointer (some ⟨g3, 0, none⟩)), (2, .pointer (some ⟨g1, 0, none⟩))]) (fun g9 => [ob D (Obj.deferred (some [])), .blk g7 22 [.slice a1 (T1 i).length c1], row 9 1 a1 (T1 i).length c1 (strsC (T1 i)), .blk g3 22 [.slice none 0 0], .blk g4 30 [.int .i64 0], .blk g1 76 [.int .i64 v.pos, .int .i64 v.status, .int .i64 v.fault, .slice v.fa v.frames.length v.fc, .string (mkS v.out), .int .i64 v.sel, .slice v.sa v.stops.length v.sc, .int .i64 v.err, .int .i64 v.n, .string (mkS v.says)], gPow, ro v.sa (List.flatMap spC v.stops), ro (some ⟨gt, off, none⟩) (strsC TL), ro (some ⟨g8, 0, none⟩) (strsC [[124, 32], TL[i]]), .blk g9 9 [.string (mkS LN)]]) (fun g9 => []) (by kernel_rfl) (fun g9 => by kernel_rfl) (fun g9 => by kernel_rfl) (fun g9 => trivial) (fun g9 => sub_of [] (by kernel_rfl)) fun g9 => ?_
            refine wpa_ent (ent_turn 10 (ro (some ⟨g9, 0, none⟩) (strsC [LN])) rfl (turn_rblk (strs_one [LN])) rfl) ?_
            refine wpa_app (i := 5) (nf := 1) (by kernel_rfl) (a := a1) (n := ((T1 i).length)) (cap := c1) (x := (.slice (some ⟨g9, 0, none⟩) 1 1)) (t := 22) (xt := 22) (dst := some 75) (by kernel_rfl) (e := 9) (sz := 1) (bytes := 16) (by kernel_rfl) 2 (xs := (strsC (T1 i))) (by kernel_rfl) (m := 1) (news := (strsC [LN])) (fun w h => src_ro h 10 rfl rfl (fun e => by cases e)) (by unfold maxLen; omega) (by omega) [] (by kernel_rfl) ?_
            intro a2 c2 hn2
            rw [strs_apps, hsucc, show (T1 i).length + 1 = (T1 (i + 1)).length by omega]
            refine AO 0 6 [1] (.d (.d (.d (.k .a)))) (.k (.u (.i (.slice a2 (T1 (i + 1)).length c2) .z) .a)) [] ?_
            refine wpa_done 0 (by kernel_rfl) ?_
            refine BN (NT (RG ?_))
            refine RV true [] .z (.i 66 (.int .i64 ((↑i : Int) + 1)) (.d (.k .a))) .a ([inI64 ((↑i : Int) + (1 : Int))]) ⟨by unfold inI64; omega, trivial⟩ ?_
            refine RZ ?_
            exact fun a' w' hS' => ⟨⟨(i + 1, a2, c2), hlt⟩, by dsimp only; omega, ent_fr (by kernel_rfl) _ _ (ent_hp [0, 0, 0, 0, 0, 0, 0, 0, 0] rfl _ _ hS')⟩
          · refine wpi_new (n := 5) true 2 [] (fun g8 => [(72, .slice (some ⟨g8, 0, none⟩) 2 2), (66, .int .i64 (↑i : Int)), (65, .int .i64 (↑TL.length : Int)), (64, .slice (some ⟨gt, off, none⟩) TL.length ct), (8, .pointer (some ⟨g7, 0, none⟩)), (5, .pointer (some ⟨g4, 0, none⟩)), (4, .pointer (some ⟨g3, 0, none⟩)), (2, .pointer (some ⟨g1, 0, none⟩))]) (fun g8 => [ob D (Obj.deferred (some [])), .blk g7 22 [.slice a1 (T1 i).length c1], row 9 1 a1 (T1 i).length c1 (strsC (T1 i)), .blk g3 22 [.slice none 0 0], .blk g4 30 [.int .i64 0], .blk g1 76 [.int .i64 v.pos, .int .i64 v.status, .int .i64 v.fault, .slice v.fa v.frames.length v.fc, .string (mkS v.out), .int .i64 v.sel, .slice v.sa v.stops.length v.sc, .int .i64 v.err, .int .i64 v.n, .string (mkS v.says)], gPow, ro v.sa (List.flatMap spC v.stops), ro (some ⟨gt, off, none⟩) (strsC TL), .blk g8 9 [.string (ByteArray.mk #[124, 32]), .string (mkS TL[i])]]) (fun g8 => []) (fun g8 => by kernel_rfl) (fun g8 => by kernel_rfl) (fun g8 => trivial) (fun g8 => sub_of [] (by kernel_rfl)) fun g8 => ?_
            refine wpa_ent (ent_turn 9 (ro (some ⟨g8, 0, none⟩) (strsC [[124, 32], TL[i]])) rfl (turn_rblk (strs_one [[124, 32], TL[i]])) rfl) ?_
            have hLine := line_spec (some ⟨g8, 0, none⟩) 2 [[124, 32], TL[i]] (by simp) (by simp) (by simp; omega)
            rw [← hLN] at hLine
            refine wpa_two (i := 0) (j := 3) (n := 4) (by kernel_rfl) ?_ ?_
            · refine wpi_one (n := 4) true 0 [1] [(70, .slice a1 (T1 i).length c1), (72, .slice (some ⟨g8, 0, none⟩) 2 2), (66, .int .i64 (↑i : Int)), (65, .int .i64 (↑TL.length : Int)), (64, .slice (some ⟨gt, off, none⟩) TL.length ct), (8, .pointer (some ⟨g7, 0, none⟩)), (5, .pointer (some ⟨g4, 0, none⟩)), (4, .pointer (some ⟨g3, 0, none⟩)), (2, .pointer (some ⟨g1, 0, none⟩))] [ob D (Obj.deferred (some [])), .blk g7 22 [.slice a1 (T1 i).length c1], row 9 1 a1 (T1 i).length c1 (strsC (T1 i)), .blk g3 22 [.slice none 0 0], .blk g4 30 [.int .i64 0], .blk g1 76 [.int .i64 v.pos, .int .i64 v.status, .int .i64 v.fault, .slice v.fa v.frames.length v.fc, .string (mkS v.out), .int .i64 v.sel, .slice v.sa v.stops.length v.sc, .int .i64 v.err, .int .i64 v.n, .string (mkS v.says)], gPow, ro v.sa (List.flatMap spC v.stops), ro (some ⟨gt, off, none⟩) (strsC TL), ro (some ⟨g8, 0, none⟩) (strsC [[124, 32], TL[i]])] [] (by kernel_rfl) (by kernel_rfl) trivial (sub_of [] (by kernel_rfl)) ?_
              refine AC (dst := some 73) 3 3 .a (hLine) (GV (GI []) 9 view_ro) [] ?_
              rintro r _ ⟨rfl, rfl⟩
              refine wpa_new (n := 2) true 4 [] (fun g9 => [(74, .slice (some ⟨g9, 0, none⟩) 1 1), (70, .slice a1 (T1 i).length c1), (66, .int .i64 (↑i : Int)), (65, .int .i64 (↑TL.length : Int)), (64, .slice (some ⟨gt, off, none⟩) TL.length ct), (8, .pointer (some ⟨g7, 0, none⟩)), (5, .pointer (some ⟨g4, 0, none⟩)), (4, .pointer (some ⟨g3, 0, none⟩)), (2, .pointer (some ⟨g1, 0, none⟩))]) (fun g9 => [ob D (Obj.deferred (some [])), .blk g7 22 [.slice a1 (T1 i).length c1], row 9 1 a1 (T1 i).length c1 (strsC (T1 i)), .blk g3 22 [.slice none 0 0], .blk g4 30 [.int .i64 0], .blk g1 76 [.int .i64 v.pos, .int .i64 v.status, .int .i64 v.fault, .slice v.fa v.frames.length v.fc, .string (mkS v.out), .int .i64 v.sel, .slice v.sa v.stops.length v.sc, .int .i64 v.err, .int .i64 v.n, .string (mkS v.says)], gPow, ro v.sa (List.flatMap spC v.stops), ro (some ⟨gt, off, none⟩) (strsC TL), ro (some ⟨g8, 0, none⟩) (strsC [[124, 32], TL[i]]), .blk g9 9 [.string (mkS LN)]]) (fun g9 => []) (by kernel_rfl) (fun g9 => by kernel_rfl) (fun g9 => by kernel_rfl) (fun g9 => trivial) (fun g9 => sub_of [] (by kernel_rfl)) fun g9 => ?_
              refine wpa_ent (ent_turn 10 (ro (some ⟨g9, 0, none⟩) (strsC [LN])) rfl (turn_rblk (strs_one [LN])) rfl) ?_
              refine wpa_app (i := 5) (nf := 1) (by kernel_rfl) (a := a1) (n := ((T1 i).length)) (cap := c1) (x := (.slice (some ⟨g9, 0, none⟩) 1 1)) (t := 22) (xt := 22) (dst := some 75) (by kernel_rfl) (e := 9) (sz := 1) (bytes := 16) (by kernel_rfl) 2 (xs := (strsC (T1 i))) (by kernel_rfl) (m := 1) (news := (strsC [LN])) (fun w h => src_ro h 10 rfl rfl (fun e => by cases e)) (by unfold maxLen; omega) (by omega) [] (by kernel_rfl) ?_
              intro a2 c2 hn2
              rw [strs_apps, hsucc, show (T1 i).length + 1 = (T1 (i + 1)).length by omega]
              refine AO 0 6 [1] (.d (.d (.d (.k .a)))) (.k (.u (.i (.slice a2 (T1 (i + 1)).length c2) .z) .a)) [] ?_
              refine wpa_done 0 (by kernel_rfl) ?_
              refine BN (NT (RG ?_))
              refine RV true [] .z (.i 66 (.int .i64 ((↑i : Int) + 1)) (.d (.k .a))) .a ([inI64 ((↑i : Int) + (1 : Int))]) ⟨by unfold inI64; omega, trivial⟩ ?_
              refine RZ ?_
              exact fun a' w' hS' => ⟨⟨(i + 1, a2, c2), hlt⟩, by dsimp only; omega, ent_fr (by kernel_rfl) _ _ (ent_hp [0, 0, 0, 0, 0, 0, 0, 0, 0] rfl _ _ hS')⟩
            · refine wpi_call (i := 3) (dst := some 73) (rest := [ob D (Obj.deferred (some [])), .blk g7 22 [.slice a1 (T1 i).length c1], row 9 1 a1 (T1 i).length c1 (strsC (T1 i)), .blk g3 22 [.slice none 0 0], .blk g4 30 [.int .i64 0], .blk g1 76 [.int .i64 v.pos, .int .i64 v.status, .int .i64 v.fault, .slice v.fa v.frames.length v.fc, .string (mkS v.out), .int .i64 v.sel, .slice v.sa v.stops.length v.sc, .int .i64 v.err, .int .i64 v.n, .string (mkS v.says)], gPow, ro v.sa (List.flatMap spC v.stops), ro (some ⟨gt, off, none⟩) (strsC TL), ro (some ⟨g8, 0, none⟩) (strsC [[124, 32], TL[i]])]) (by kernel_rfl) (hLine) (Give.view (c := (ro (some ⟨g8, 0, none⟩) (strsC [[124, 32], TL[i]]))) (give (pre := []) (rest := [ob D (Obj.deferred (some [])), .blk g7 22 [.slice a1 (T1 i).length c1], row 9 1 a1 (T1 i).length c1 (strsC (T1 i)), .blk g3 22 [.slice none 0 0], .blk g4 30 [.int .i64 0], .blk g1 76 [.int .i64 v.pos, .int .i64 v.status, .int .i64 v.fault, .slice v.fa v.frames.length v.fc, .string (mkS v.out), .int .i64 v.sel, .slice v.sa v.stops.length v.sc, .int .i64 v.err, .int .i64 v.n, .string (mkS v.says)], gPow, ro v.sa (List.flatMap spC v.stops), ro (some ⟨gt, off, none⟩) (strsC TL), ro (some ⟨g8, 0, none⟩) (strsC [[124, 32], TL[i]])]) [] (by kernel_rfl)) 9 (by kernel_rfl) view_ro) (sub_of [] (by kernel_rfl)) ?_
              rintro r _ ⟨rfl, rfl⟩
              refine wpa_two (i := 0) (j := 4) (n := 3) (by kernel_rfl) ?_ ?_
              · refine wpi_one (n := 3) true 0 [1] [(70, .slice a1 (T1 i).length c1), (73, .string (mkS LN)), (66, .int .i64 (↑i : Int)), (65, .int .i64 (↑TL.length : Int)), (64, .slice (some ⟨gt, off, none⟩) TL.length ct), (8, .pointer (some ⟨g7, 0, none⟩)), (5, .pointer (some ⟨g4, 0, none⟩)), (4, .pointer (some ⟨g3, 0, none⟩)), (2, .pointer (some ⟨g1, 0, none⟩))] [ob D (Obj.deferred (some [])), .blk g7 22 [.slice a1 (T1 i).length c1], row 9 1 a1 (T1 i).length c1 (strsC (T1 i)), .blk g3 22 [.slice none 0 0], .blk g4 30 [.int .i64 0], .blk g1 76 [.int .i64 v.pos, .int .i64 v.status, .int .i64 v.fault, .slice v.fa v.frames.length v.fc, .string (mkS v.out), .int .i64 v.sel, .slice v.sa v.stops.length v.sc, .int .i64 v.err, .int .i64 v.n, .string (mkS v.says)], gPow, ro v.sa (List.flatMap spC v.stops), ro (some ⟨gt, off, none⟩) (strsC TL), ro (some ⟨g8, 0, none⟩) (strsC [[124, 32], TL[i]])] [] (by kernel_rfl) (by kernel_rfl) trivial (sub_of [] (by kernel_rfl)) ?_
                refine wpa_new (n := 2) true 4 [] (fun g9 => [(74, .slice (some ⟨g9, 0, none⟩) 1 1), (70, .slice a1 (T1 i).length c1), (66, .int .i64 (↑i : Int)), (65, .int .i64 (↑TL.length : Int)), (64, .slice (some ⟨gt, off, none⟩) TL.length ct), (8, .pointer (some ⟨g7, 0, none⟩)), (5, .pointer (some ⟨g4, 0, none⟩)), (4, .pointer (some ⟨g3, 0, none⟩)), (2, .pointer (some ⟨g1, 0, none⟩))]) (fun g9 => [ob D (Obj.deferred (some [])), .blk g7 22 [.slice a1 (T1 i).length c1], row 9 1 a1 (T1 i).length c1 (strsC (T1 i)), .blk g3 22 [.slice none 0 0], .blk g4 30 [.int .i64 0], .blk g1 76 [.int .i64 v.pos, .int .i64 v.status, .int .i64 v.fault, .slice v.fa v.frames.length v.fc, .string (mkS v.out), .int .i64 v.sel, .slice v.sa v.stops.length v.sc, .int .i64 v.err, .int .i64 v.n, .string (mkS v.says)], gPow, ro v.sa (List.flatMap spC v.stops), ro (some ⟨gt, off, none⟩) (strsC TL), ro (some ⟨g8, 0, none⟩) (strsC [[124, 32], TL[i]]), .blk g9 9 [.string (mkS LN)]]) (fun g9 => []) (by kernel_rfl) (fun g9 => by kernel_rfl) (fun g9 => by kernel_rfl) (fun g9 => trivial) (fun g9 => sub_of [] (by kernel_rfl)) fun g9 => ?_
                refine wpa_ent (ent_turn 10 (ro (some ⟨g9, 0, none⟩) (strsC [LN])) rfl (turn_rblk (strs_one [LN])) rfl) ?_
                refine wpa_app (i := 5) (nf := 1) (by kernel_rfl) (a := a1) (n := ((T1 i).length)) (cap := c1) (x := (.slice (some ⟨g9, 0, none⟩) 1 1)) (t := 22) (xt := 22) (dst := some 75) (by kernel_rfl) (e := 9) (sz := 1) (bytes := 16) (by kernel_rfl) 2 (xs := (strsC (T1 i))) (by kernel_rfl) (m := 1) (news := (strsC [LN])) (fun w h => src_ro h 10 rfl rfl (fun e => by cases e)) (by unfold maxLen; omega) (by omega) [] (by kernel_rfl) ?_
                intro a2 c2 hn2
                rw [strs_apps, hsucc, show (T1 i).length + 1 = (T1 (i + 1)).length by omega]
                refine AO 0 6 [1] (.d (.d (.d (.k .a)))) (.k (.u (.i (.slice a2 (T1 (i + 1)).length c2) .z) .a)) [] ?_
                refine wpa_done 0 (by kernel_rfl) ?_
                refine BN (NT (RG ?_))
                refine RV true [] .z (.i 66 (.int .i64 ((↑i : Int) + 1)) (.d (.k .a))) .a ([inI64 ((↑i : Int) + (1 : Int))]) ⟨by unfold inI64; omega, trivial⟩ ?_
                refine RZ ?_
                exact fun a' w' hS' => ⟨⟨(i + 1, a2, c2), hlt⟩, by dsimp only; omega, ent_fr (by kernel_rfl) _ _ (ent_hp [0, 0, 0, 0, 0, 0, 0, 0, 0] rfl _ _ hS')⟩
              · refine wpi_new (n := 3) true 4 [] (fun g9 => [(74, .slice (some ⟨g9, 0, none⟩) 1 1), (66, .int .i64 (↑i : Int)), (65, .int .i64 (↑TL.length : Int)), (64, .slice (some ⟨gt, off, none⟩) TL.length ct), (8, .pointer (some ⟨g7, 0, none⟩)), (5, .pointer (some ⟨g4, 0, none⟩)), (4, .pointer (some ⟨g3, 0, none⟩)), (2, .pointer (some ⟨g1, 0, none⟩))]) (fun g9 => [ob D (Obj.deferred (some [])), .blk g7 22 [.slice a1 (T1 i).length c1], row 9 1 a1 (T1 i).length c1 (strsC (T1 i)), .blk g3 22 [.slice none 0 0], .blk g4 30 [.int .i64 0], .blk g1 76 [.int .i64 v.pos, .int .i64 v.status, .int .i64 v.fault, .slice v.fa v.frames.length v.fc, .string (mkS v.out), .int .i64 v.sel, .slice v.sa v.stops.length v.sc, .int .i64 v.err, .int .i64 v.n, .string (mkS v.says)], gPow, ro v.sa (List.flatMap spC v.stops), ro (some ⟨gt, off, none⟩) (strsC TL), ro (some ⟨g8, 0, none⟩) (strsC [[124, 32], TL[i]]), .blk g9 9 [.string (mkS LN)]]) (fun g9 => []) (fun g9 => by kernel_rfl) (fun g9 => by kernel_rfl) (fun g9 => trivial) (fun g9 => sub_of [] (by kernel_rfl)) fun g9 => ?_
                refine AO 2 0 [1] (.i 70 (.slice a1 (T1 i).length c1) .a) .a [] ?_
                refine wpa_ent (ent_turn 10 (ro (some ⟨g9, 0, none⟩) (strsC [LN])) rfl (turn_rblk (strs_one [LN])) rfl) ?_
                refine wpa_app (i := 5) (nf := 1) (by kernel_rfl) (a := a1) (n := ((T1 i).length)) (cap := c1) (x := (.slice (some ⟨g9, 0, none⟩) 1 1)) (t := 22) (xt := 22) (dst := some 75) (by kernel_rfl) (e := 9) (sz := 1) (bytes := 16) (by kernel_rfl) 2 (xs := (strsC (T1 i))) (by kernel_rfl) (m := 1) (news := (strsC [LN])) (fun w h => src_ro h 10 rfl rfl (fun e => by cases e)) (by unfold maxLen; omega) (by omega) [] (by kernel_rfl) ?_
                intro a2 c2 hn2
                rw [strs_apps, hsucc, show (T1 i).length + 1 = (T1 (i + 1)).length by omega]
                refine AO 0 6 [1] (.d (.d (.d (.k .a)))) (.k (.u (.i (.slice a2 (T1 (i + 1)).length c2) .z) .a)) [] ?_
                refine wpa_done 0 (by kernel_rfl) ?_
                refine BN (NT (RG ?_))
                refine RV true [] .z (.i 66 (.int .i64 ((↑i : Int) + 1)) (.d (.k .a))) .a ([inI64 ((↑i : Int) + (1 : Int))]) ⟨by unfold inI64; omega, trivial⟩ ?_
                refine RZ ?_
                exact fun a' w' hS' => ⟨⟨(i + 1, a2, c2), hlt⟩, by dsimp only; omega, ent_fr (by kernel_rfl) _ _ (ent_hp [0, 0, 0, 0, 0, 0, 0, 0, 0] rfl _ _ hS')⟩
        · obtain rfl : i = TL.length := by omega
          obtain ⟨T2, hT2⟩ : ∃ T2 : Nat → List Tx, T2 = fun i => T1 TL.length ++ (v.stops.take i).map stopT := ⟨_, rfl⟩
          have hT2l : ∀ i, i ≤ v.stops.length → (T2 i).length = v.frames.length + 1 + TL.length + i := fun i hi => by rw [hT2]; dsimp only; rw [List.length_append, List.length_map, List.length_take, hT1l _ (Nat.le_refl _)]; omega
          have hT2s : ∀ i (h : i < v.stops.length), T2 i ++ [stopT v.stops[i]] = T2 (i + 1) := fun i h => by rw [hT2]; dsimp only; rw [← List.take_append_getElem h, List.map_append, List.append_assoc]; rfl
          have hT20 : T1 TL.length = T2 0 := by rw [hT2]; simp
          rw [hT20]
          refine SQ (RG ?_)
          refine RR [] .z (.i 67 (.bool (decide ((↑TL.length : Int) < (↑TL.length : Int)))) .a) .a ?_
          refine RZ (NT (SQ ?_))
          refine SC 67 (decide ((↑TL.length : Int) < (↑TL.length : Int))) false (by simp) ?_
          refine CF (EX (TE (TE (BH (NT (SQ (SQ (RG ?_))))))))
          refine RR [5] .z (.i 80 (.int .i64 0) (.i 79 (.int .i64 (↑v.stops.length : Int)) (.i 78 (.slice v.sa v.stops.length v.sc) (.d (.d (.d (.d (.d (.k .a))))))))) .a ?_
          refine RZ (NT (BK ?_))
          refine wpc_loop (X := {x : Nat × Option Addr × Nat // x.1 ≤ v.stops.length}) (fun x => St.mk [(80, .int .i64 (x.1.1 : Int)), (79, .int .i64 v.stops.length), (78, .slice v.sa v.stops.length v.sc), (8, .pointer (some ⟨g7, 0, none⟩)), (5, .pointer (some ⟨g4, 0, none⟩)), (4, .pointer (some ⟨g3, 0, none⟩)), (2, .pointer (some ⟨g1, 0, none⟩))]
            [ob D (.deferred (some [])), .blk g7 22 [.slice x.1.2.1 (T2 x.1.1).length x.1.2.2], row 9 1 x.1.2.1 (T2 x.1.1).length x.1.2.2 (strsC (T2 x.1.1)), .blk g3 22 [.slice none 0 0], .blk g4 30 [.int .i64 0], .blk g1 76 [.int .i64 v.pos, .int .i64 v.status, .int .i64 v.fault, .slice v.fa v.frames.length v.fc, .string (mkS v.out), .int .i64 v.sel, .slice v.sa v.stops.length v.sc, .int .i64 v.err, .int .i64 v.n, .string (mkS v.says)], gPow, ro v.sa (v.stops.flatMap spC)]) (fun x => v.stops.length - x.1.1) ⟨(0, a1, c1), Nat.zero_le _⟩ ?_ ?_
          · exact Ent.trans (ent_hp [0, 0, 0, 0, 0, 0, 0, 0] rfl) (ent_fr (by kernel_rfl))
          rintro ⟨⟨i, a1, c1⟩, hi⟩
          dsimp only at hi ⊢
          have hl1 := hT2l i hi
          by_cases hlt : i < v.stops.length
          · have hok := v9 _ (List.getElem_mem hlt)
            have hsucc := hT2s i hlt
            have hl2 := hT2l (i + 1) hlt
            have hSp := stop_spec v.stops[i] hok
            have hat := sps_at hlt
            rw [show spC v.stops[i] = [.int .i64 v.stops[i].id, .int .i64 v.stops[i].line, .string (mkS v.stops[i].cond), .string (mkS v.stops[i].watch), .bool v.stops[i].off] from rfl] at hSp hat
            obtain ⟨LN, hLN⟩ : ∃ N, N = stopT v.stops[i] := ⟨_, rfl⟩
            rw [← hLN] at hsucc hSp
            refine wpc_fact (fun w h => ro_addr h 7 rfl (by rw [sps_len]; omega)) ?_
            rintro ⟨gs, os, hsa⟩
            rw [hsa]
            refine SQ (RG ?_)
            refine RR [] .z (.i 81 (.bool (decide ((↑i : Int) < (↑v.stops.length : Int)))) .a) .a ?_
            refine RZ (NT (SQ ?_))
            refine SC 81 (decide ((↑i : Int) < (↑v.stops.length : Int))) true (decide_eq_true (by omega)) ?_
            refine CT (SK (NT (SQ (BK (SQ (RG ?_))))))
            refine RV true [] (.d .a) (.i 82 (.pointer (some ⟨gs, os + i * 5, none⟩)) (.d (.d (.k .a)))) .a [(0 : Int) ≤ (↑i : Int) ∧ (↑i : Int) < (↑v.stops.length : Int)] ⟨by omega, trivial⟩ ?_
            refine wpr_eq (ld (t := 151) (a := ⟨gs, os + i * 5, none⟩) (dst := some 83) (by kernel_rfl) true 5 (by kernel_rfl) (by simp) [.int .i64 v.stops[i].id, .int .i64 v.stops[i].line, .string (mkS v.stops[i].cond), .string (mkS v.stops[i].watch), .bool v.stops[i].off] rfl (fun w h => ld_ro h 7 rfl (i * 5) hat)) ?_
            refine RP [] (.d .a) 17 (.i 83 (.agg #[.int .i64 v.stops[i].id, .int .i64 v.stops[i].line, .string (mkS v.stops[i].cond), .string (mkS v.stops[i].watch), .bool v.stops[i].off]) (.d (.d (.k .a)))) .a 151 [.int .i64 0, .int .i64 0, .string ⟨#[]⟩, .string ⟨#[]⟩, .bool false] fun g8 => ?_
            refine RR [8, 8, 8, 8, 8] .z (.k (.d (.k .a))) (.k (.k (.k (.k (.k (.k (.k (.k (.u (.i (.int .i64 v.stops[i].id) (.i (.int .i64 v.stops[i].line) (.i (.string (mkS v.stops[i].cond)) (.i (.string (mkS v.stops[i].watch)) (.i (.bool v.stops[i].off) .z))))) .a))))))))) ?_
            refine RZ (NT ?_)
            refine wpc_draw (by kernel_rfl) [gPow, .blk g8 151 [.int .i64 v.stops[i].id, .int .i64 v.stops[i].line, .string (mkS v.stops[i].cond), .string (mkS v.stops[i].watch), .bool v.stops[i].off]] (sub_of [6, 8] (by kernel_rfl)) 6 (by kernel_rfl) ?_
            refine TK 5 [(1, [1, 1, 1, 1, 1])] (.i 85 (.agg #[.int .i64 v.stops[i].id, .int .i64 v.stops[i].line, .string (mkS v.stops[i].cond), .string (mkS v.stops[i].watch), .bool v.stops[i].off]) (.d (.k .a))) (#[false, true, false, false, false, false]) ?_
            refine wpa_two (i := 0) (j := 2) (n := 4) (by kernel_rfl) ?_ ?_
            · refine wpi_one (n := 4) true 0 [1] [(84, .slice a1 (T2 i).length c1), (85, .agg #[.int .i64 v.stops[i].id, .int .i64 v.stops[i].line, .string (mkS v.stops[i].cond), .string (mkS v.stops[i].watch), .bool v.stops[i].off]), (80, .int .i64 (↑i : Int)), (79, .int .i64 (↑v.stops.length : Int)), (78, .slice (some ⟨gs, os, none⟩) v.stops.length v.sc), (8, .pointer (some ⟨g7, 0, none⟩)), (5, .pointer (some ⟨g4, 0, none⟩)), (4, .pointer (some ⟨g3, 0, none⟩)), (2, .pointer (some ⟨g1, 0, none⟩))] [ob D (Obj.deferred (some [])), .blk g7 22 [.slice a1 (T2 i).length c1], row 9 1 a1 (T2 i).length c1 (strsC (T2 i)), .blk g3 22 [.slice none 0 0], .blk g4 30 [.int .i64 0], .blk g1 76 [.int .i64 v.pos, .int .i64 v.status, .int .i64 v.fault, .slice v.fa v.frames.length v.fc, .string (mkS v.out), .int .i64 v.sel, .slice (some ⟨gs, os, none⟩) v.stops.length v.sc, .int .i64 v.err, .int .i64 v.n, .string (mkS v.says)], gPow, ro (some ⟨gs, os, none⟩) (List.flatMap spC v.stops), .blk g8 151 [.int .i64 v.stops[i].id, .int .i64 v.stops[i].line, .string (mkS v.stops[i].cond), .string (mkS v.stops[i].watch), .bool v.stops[i].off]] [] (by kernel_rfl) (by kernel_rfl) trivial (sub_of [6, 8] (by kernel_rfl)) ?_
              refine AC (dst := some 86) 3 2 .a (hSp) (GV (GI []) 6 view_gPow) [6, 8] ?_
              rintro r _ ⟨rfl, rfl⟩
              refine wpa_new (n := 2) true 3 [] (fun g9 => [(87, .slice (some ⟨g9, 0, none⟩) 1 1), (84, .slice a1 (T2 i).length c1), (80, .int .i64 (↑i : Int)), (79, .int .i64 (↑v.stops.length : Int)), (78, .slice (some ⟨gs, os, none⟩) v.stops.length v.sc), (8, .pointer (some ⟨g7, 0, none⟩)), (5, .pointer (some ⟨g4, 0, none⟩)), (4, .pointer (some ⟨g3, 0, none⟩)), (2, .pointer (some ⟨g1, 0, none⟩))]) (fun g9 => [ob D (Obj.deferred (some [])), .blk g7 22 [.slice a1 (T2 i).length c1], row 9 1 a1 (T2 i).length c1 (strsC (T2 i)), .blk g3 22 [.slice none 0 0], .blk g4 30 [.int .i64 0], .blk g1 76 [.int .i64 v.pos, .int .i64 v.status, .int .i64 v.fault, .slice v.fa v.frames.length v.fc, .string (mkS v.out), .int .i64 v.sel, .slice (some ⟨gs, os, none⟩) v.stops.length v.sc, .int .i64 v.err, .int .i64 v.n, .string (mkS v.says)], gPow, ro (some ⟨gs, os, none⟩) (List.flatMap spC v.stops), .blk g8 151 [.int .i64 v.stops[i].id, .int .i64 v.stops[i].line, .string (mkS v.stops[i].cond), .string (mkS v.stops[i].watch), .bool v.stops[i].off], .blk g9 9 [.string (mkS LN)]]) (fun g9 => []) (by kernel_rfl) (fun g9 => by kernel_rfl) (fun g9 => by kernel_rfl) (fun g9 => trivial) (fun g9 => sub_of [6, 8] (by kernel_rfl)) fun g9 => ?_
              refine wpa_ent (ent_turn 9 (ro (some ⟨g9, 0, none⟩) (strsC [LN])) rfl (turn_rblk (strs_one [LN])) rfl) ?_
              refine wpa_app (i := 4) (nf := 1) (by kernel_rfl) (a := a1) (n := ((T2 i).length)) (cap := c1) (x := (.slice (some ⟨g9, 0, none⟩) 1 1)) (t := 22) (xt := 22) (dst := some 88) (by kernel_rfl) (e := 9) (sz := 1) (bytes := 16) (by kernel_rfl) 2 (xs := (strsC (T2 i))) (by kernel_rfl) (m := 1) (news := (strsC [LN])) (fun w h => src_ro h 9 rfl rfl (fun e => by cases e)) (by unfold maxLen; omega) (by omega) [5, 7] (by kernel_rfl) ?_
              intro a2 c2 hn2
              rw [strs_apps, hsucc, show (T2 i).length + 1 = (T2 (i + 1)).length by omega]
              refine AO 0 5 [1] (.d (.d (.d (.k .a)))) (.k (.u (.i (.slice a2 (T2 (i + 1)).length c2) .z) .a)) [6, 8] ?_
              refine wpa_done 0 (by kernel_rfl) ?_
              refine BN (NT (RG ?_))
              refine RV true [] .z (.i 80 (.int .i64 ((↑i : Int) + 1)) (.d (.k .a))) .a ([inI64 ((↑i : Int) + (1 : Int))]) ⟨by unfold inI64; omega, trivial⟩ ?_
              refine RZ ?_
              rw [← hsa]
              exact fun a' w' hS' => ⟨⟨(i + 1, a2, c2), hlt⟩, by dsimp only; omega, ent_fr (by kernel_rfl) _ _ (ent_hp [0, 0, 0, 0, 0, 0, 0, 0] rfl _ _ hS')⟩
            · refine wpi_call (i := 2) (dst := some 86) (rest := [ob D (Obj.deferred (some [])), .blk g7 22 [.slice a1 (T2 i).length c1], row 9 1 a1 (T2 i).length c1 (strsC (T2 i)), .blk g3 22 [.slice none 0 0], .blk g4 30 [.int .i64 0], .blk g1 76 [.int .i64 v.pos, .int .i64 v.status, .int .i64 v.fault, .slice v.fa v.frames.length v.fc, .string (mkS v.out), .int .i64 v.sel, .slice (some ⟨gs, os, none⟩) v.stops.length v.sc, .int .i64 v.err, .int .i64 v.n, .string (mkS v.says)], gPow, ro (some ⟨gs, os, none⟩) (List.flatMap spC v.stops), .blk g8 151 [.int .i64 v.stops[i].id, .int .i64 v.stops[i].line, .string (mkS v.stops[i].cond), .string (mkS v.stops[i].watch), .bool v.stops[i].off]]) (by kernel_rfl) (hSp) (Give.view (c := gPow) (give (pre := []) (rest := [ob D (Obj.deferred (some [])), .blk g7 22 [.slice a1 (T2 i).length c1], row 9 1 a1 (T2 i).length c1 (strsC (T2 i)), .blk g3 22 [.slice none 0 0], .blk g4 30 [.int .i64 0], .blk g1 76 [.int .i64 v.pos, .int .i64 v.status, .int .i64 v.fault, .slice v.fa v.frames.length v.fc, .string (mkS v.out), .int .i64 v.sel, .slice (some ⟨gs, os, none⟩) v.stops.length v.sc, .int .i64 v.err, .int .i64 v.n, .string (mkS v.says)], gPow, ro (some ⟨gs, os, none⟩) (List.flatMap spC v.stops), .blk g8 151 [.int .i64 v.stops[i].id, .int .i64 v.stops[i].line, .string (mkS v.stops[i].cond), .string (mkS v.stops[i].watch), .bool v.stops[i].off]]) [] (by kernel_rfl)) 6 (by kernel_rfl) view_gPow) (sub_of [6, 8] (by kernel_rfl)) ?_
              rintro r _ ⟨rfl, rfl⟩
              refine wpa_two (i := 0) (j := 3) (n := 3) (by kernel_rfl) ?_ ?_
              · refine wpi_one (n := 3) true 0 [1] [(84, .slice a1 (T2 i).length c1), (86, .string (mkS LN)), (80, .int .i64 (↑i : Int)), (79, .int .i64 (↑v.stops.length : Int)), (78, .slice (some ⟨gs, os, none⟩) v.stops.length v.sc), (8, .pointer (some ⟨g7, 0, none⟩)), (5, .pointer (some ⟨g4, 0, none⟩)), (4, .pointer (some ⟨g3, 0, none⟩)), (2, .pointer (some ⟨g1, 0, none⟩))] [ob D (Obj.deferred (some [])), .blk g7 22 [.slice a1 (T2 i).length c1], row 9 1 a1 (T2 i).length c1 (strsC (T2 i)), .blk g3 22 [.slice none 0 0], .blk g4 30 [.int .i64 0], .blk g1 76 [.int .i64 v.pos, .int .i64 v.status, .int .i64 v.fault, .slice v.fa v.frames.length v.fc, .string (mkS v.out), .int .i64 v.sel, .slice (some ⟨gs, os, none⟩) v.stops.length v.sc, .int .i64 v.err, .int .i64 v.n, .string (mkS v.says)], gPow, ro (some ⟨gs, os, none⟩) (List.flatMap spC v.stops), .blk g8 151 [.int .i64 v.stops[i].id, .int .i64 v.stops[i].line, .string (mkS v.stops[i].cond), .string (mkS v.stops[i].watch), .bool v.stops[i].off]] [] (by kernel_rfl) (by kernel_rfl) trivial (sub_of [6, 8] (by kernel_rfl)) ?_
                refine wpa_new (n := 2) true 3 [] (fun g9 => [(87, .slice (some ⟨g9, 0, none⟩) 1 1), (84, .slice a1 (T2 i).length c1), (80, .int .i64 (↑i : Int)), (79, .int .i64 (↑v.stops.length : Int)), (78, .slice (some ⟨gs, os, none⟩) v.stops.length v.sc), (8, .pointer (some ⟨g7, 0, none⟩)), (5, .pointer (some ⟨g4, 0, none⟩)), (4, .pointer (some ⟨g3, 0, none⟩)), (2, .pointer (some ⟨g1, 0, none⟩))]) (fun g9 => [ob D (Obj.deferred (some [])), .blk g7 22 [.slice a1 (T2 i).length c1], row 9 1 a1 (T2 i).length c1 (strsC (T2 i)), .blk g3 22 [.slice none 0 0], .blk g4 30 [.int .i64 0], .blk g1 76 [.int .i64 v.pos, .int .i64 v.status, .int .i64 v.fault, .slice v.fa v.frames.length v.fc, .string (mkS v.out), .int .i64 v.sel, .slice (some ⟨gs, os, none⟩) v.stops.length v.sc, .int .i64 v.err, .int .i64 v.n, .string (mkS v.says)], gPow, ro (some ⟨gs, os, none⟩) (List.flatMap spC v.stops), .blk g8 151 [.int .i64 v.stops[i].id, .int .i64 v.stops[i].line, .string (mkS v.stops[i].cond), .string (mkS v.stops[i].watch), .bool v.stops[i].off], .blk g9 9 [.string (mkS LN)]]) (fun g9 => []) (by kernel_rfl) (fun g9 => by kernel_rfl) (fun g9 => by kernel_rfl) (fun g9 => trivial) (fun g9 => sub_of [6, 8] (by kernel_rfl)) fun g9 => ?_
                refine wpa_ent (ent_turn 9 (ro (some ⟨g9, 0, none⟩) (strsC [LN])) rfl (turn_rblk (strs_one [LN])) rfl) ?_
                refine wpa_app (i := 4) (nf := 1) (by kernel_rfl) (a := a1) (n := ((T2 i).length)) (cap := c1) (x := (.slice (some ⟨g9, 0, none⟩) 1 1)) (t := 22) (xt := 22) (dst := some 88) (by kernel_rfl) (e := 9) (sz := 1) (bytes := 16) (by kernel_rfl) 2 (xs := (strsC (T2 i))) (by kernel_rfl) (m := 1) (news := (strsC [LN])) (fun w h => src_ro h 9 rfl rfl (fun e => by cases e)) (by unfold maxLen; omega) (by omega) [5, 7] (by kernel_rfl) ?_
                intro a2 c2 hn2
                rw [strs_apps, hsucc, show (T2 i).length + 1 = (T2 (i + 1)).length by omega]
                refine AO 0 5 [1] (.d (.d (.d (.k .a)))) (.k (.u (.i (.slice a2 (T2 (i + 1)).length c2) .z) .a)) [6, 8] ?_
                refine wpa_done 0 (by kernel_rfl) ?_
                refine BN (NT (RG ?_))
                refine RV true [] .z (.i 80 (.int .i64 ((↑i : Int) + 1)) (.d (.k .a))) .a ([inI64 ((↑i : Int) + (1 : Int))]) ⟨by unfold inI64; omega, trivial⟩ ?_
                refine RZ ?_
                rw [← hsa]
                exact fun a' w' hS' => ⟨⟨(i + 1, a2, c2), hlt⟩, by dsimp only; omega, ent_fr (by kernel_rfl) _ _ (ent_hp [0, 0, 0, 0, 0, 0, 0, 0] rfl _ _ hS')⟩
              · refine wpi_new (n := 3) true 3 [] (fun g9 => [(87, .slice (some ⟨g9, 0, none⟩) 1 1), (80, .int .i64 (↑i : Int)), (79, .int .i64 (↑v.stops.length : Int)), (78, .slice (some ⟨gs, os, none⟩) v.stops.length v.sc), (8, .pointer (some ⟨g7, 0, none⟩)), (5, .pointer (some ⟨g4, 0, none⟩)), (4, .pointer (some ⟨g3, 0, none⟩)), (2, .pointer (some ⟨g1, 0, none⟩))]) (fun g9 => [ob D (Obj.deferred (some [])), .blk g7 22 [.slice a1 (T2 i).length c1], row 9 1 a1 (T2 i).length c1 (strsC (T2 i)), .blk g3 22 [.slice none 0 0], .blk g4 30 [.int .i64 0], .blk g1 76 [.int .i64 v.pos, .int .i64 v.status, .int .i64 v.fault, .slice v.fa v.frames.length v.fc, .string (mkS v.out), .int .i64 v.sel, .slice (some ⟨gs, os, none⟩) v.stops.length v.sc, .int .i64 v.err, .int .i64 v.n, .string (mkS v.says)], gPow, ro (some ⟨gs, os, none⟩) (List.flatMap spC v.stops), .blk g8 151 [.int .i64 v.stops[i].id, .int .i64 v.stops[i].line, .string (mkS v.stops[i].cond), .string (mkS v.stops[i].watch), .bool v.stops[i].off], .blk g9 9 [.string (mkS LN)]]) (fun g9 => []) (fun g9 => by kernel_rfl) (fun g9 => by kernel_rfl) (fun g9 => trivial) (fun g9 => sub_of [6, 8] (by kernel_rfl)) fun g9 => ?_
                refine AO 2 0 [1] (.i 84 (.slice a1 (T2 i).length c1) .a) .a [6, 8] ?_
                refine wpa_ent (ent_turn 9 (ro (some ⟨g9, 0, none⟩) (strsC [LN])) rfl (turn_rblk (strs_one [LN])) rfl) ?_
                refine wpa_app (i := 4) (nf := 1) (by kernel_rfl) (a := a1) (n := ((T2 i).length)) (cap := c1) (x := (.slice (some ⟨g9, 0, none⟩) 1 1)) (t := 22) (xt := 22) (dst := some 88) (by kernel_rfl) (e := 9) (sz := 1) (bytes := 16) (by kernel_rfl) 2 (xs := (strsC (T2 i))) (by kernel_rfl) (m := 1) (news := (strsC [LN])) (fun w h => src_ro h 9 rfl rfl (fun e => by cases e)) (by unfold maxLen; omega) (by omega) [5, 7] (by kernel_rfl) ?_
                intro a2 c2 hn2
                rw [strs_apps, hsucc, show (T2 i).length + 1 = (T2 (i + 1)).length by omega]
                refine AO 0 5 [1] (.d (.d (.d (.k .a)))) (.k (.u (.i (.slice a2 (T2 (i + 1)).length c2) .z) .a)) [6, 8] ?_
                refine wpa_done 0 (by kernel_rfl) ?_
                refine BN (NT (RG ?_))
                refine RV true [] .z (.i 80 (.int .i64 ((↑i : Int) + 1)) (.d (.k .a))) .a ([inI64 ((↑i : Int) + (1 : Int))]) ⟨by unfold inI64; omega, trivial⟩ ?_
                refine RZ ?_
                rw [← hsa]
                exact fun a' w' hS' => ⟨⟨(i + 1, a2, c2), hlt⟩, by dsimp only; omega, ent_fr (by kernel_rfl) _ _ (ent_hp [0, 0, 0, 0, 0, 0, 0, 0] rfl _ _ hS')⟩
          · obtain rfl : i = v.stops.length := by omega
            have hRp := reply_spec v.err v.n v.says v10 v11 v12
            obtain ⟨LN, hLN⟩ : ∃ N, N = replyT v.err v.n v.says := ⟨_, rfl⟩
            rw [← hLN] at hRp
            refine SQ (RG ?_)
            refine RR [] .z (.i 81 (.bool (decide ((↑v.stops.length : Int) < (↑v.stops.length : Int)))) .a) .a ?_
            refine RZ (NT (SQ ?_))
            refine SC 81 (decide ((↑v.stops.length : Int) < (↑v.stops.length : Int))) false (by simp) ?_
            refine CF (EX (TE (TE (BH (NT (SQ ?_))))))
            refine wpc_draw (by kernel_rfl) [.blk g7 22 [.slice a1 (T2 v.stops.length).length c1], .blk g1 76 [.int .i64 v.pos, .int .i64 v.status, .int .i64 v.fault, .slice v.fa v.frames.length v.fc, .string (mkS v.out), .int .i64 v.sel, .slice v.sa v.stops.length v.sc, .int .i64 v.err, .int .i64 v.n, .string (mkS v.says)], gPow] (sub_of [1, 5, 6] (by kernel_rfl)) 8 (by kernel_rfl) ?_
            refine TK 5 [(0, [0]), (1, []), (2, [1, 1, 1])] (.i 92 (.agg #[.int .i64 v.err, .int .i64 v.n, .string (mkS v.says)]) (.i 90 (.slice a1 (T2 v.stops.length).length c1) (.d (.d (.d (.d (.d (.d (.k (.k .z)))))))))) (#[true, true, true, false, false, false, false, false]) ?_
            refine AC (dst := some 93) 4 3 .a (hRp) (GV (GI []) 6 view_gPow) [1, 5, 6] ?_
            rintro r _ ⟨rfl, rfl⟩
            refine wpa_new (n := 3) true 4 [] (fun g8 => [(94, .slice (some ⟨g8, 0, none⟩) 1 1), (90, .slice a1 (T2 v.stops.length).length c1), (5, .pointer (some ⟨g4, 0, none⟩)), (4, .pointer (some ⟨g3, 0, none⟩))]) (fun g8 => [ob D (Obj.deferred (some [])), .blk g7 22 [.slice a1 (T2 v.stops.length).length c1], row 9 1 a1 (T2 v.stops.length).length c1 (strsC (T2 v.stops.length)), .blk g3 22 [.slice none 0 0], .blk g4 30 [.int .i64 0], .blk g1 76 [.int .i64 v.pos, .int .i64 v.status, .int .i64 v.fault, .slice v.fa v.frames.length v.fc, .string (mkS v.out), .int .i64 v.sel, .slice v.sa v.stops.length v.sc, .int .i64 v.err, .int .i64 v.n, .string (mkS v.says)], gPow, ro v.sa (List.flatMap spC v.stops), .blk g8 9 [.string (mkS LN)]]) (fun g8 => []) (by kernel_rfl) (fun g8 => by kernel_rfl) (fun g8 => by kernel_rfl) (fun g8 => trivial) (fun g8 => sub_of [1, 5, 6] (by kernel_rfl)) fun g8 => ?_
            refine wpa_ent (ent_turn 8 (ro (some ⟨g8, 0, none⟩) (strsC [LN])) rfl (turn_rblk (strs_one [LN])) rfl) ?_
            refine wpa_app (i := 5) (nf := 2) (by kernel_rfl) (a := a1) (n := ((T2 v.stops.length).length)) (cap := c1) (x := (.slice (some ⟨g8, 0, none⟩) 1 1)) (t := 22) (xt := 22) (dst := some 95) (by kernel_rfl) (e := 9) (sz := 1) (bytes := 16) (by kernel_rfl) 2 (xs := (strsC (T2 v.stops.length))) (by kernel_rfl) (m := 1) (news := (strsC [LN])) (fun w h => src_ro h 8 rfl rfl (fun e => by cases e)) (by unfold maxLen; omega) (by omega) [1, 4, 5] (by kernel_rfl) ?_
            intro a2 c2 hn2
            have hfin : T2 v.stops.length ++ [LN] = linesT (l.map Ob.o) v := by
              rw [hT2, hT1, hT00, hT, hLN, hTL]
              dsimp only
              rw [List.take_length, List.take_length]
              unfold linesT framesT frT
              rw [← hIe, ← hSTe, ← hP0]
              rfl
            rw [strs_apps, show (T2 v.stops.length).length + 1 = (T2 v.stops.length ++ [LN]).length by simp, hfin]
            obtain ⟨LT, hLT⟩ : ∃ LT, LT = linesT (l.map Ob.o) v := ⟨_, rfl⟩
            rw [← hLT]
            refine AO 1 6 [3] (.d (.d (.d (.k .a)))) (.k (.k (.k (.u (.i (.slice a2 LT.length c2) .z) .a)))) [1, 5, 6] ?_
            refine AO 0 7 [4] .a .a [1, 5, 6] ?_
            refine wpa_done 0 (by kernel_rfl) ?_
            refine NT (RE ?_)
            refine nx_end2 [1] [2, 3] (.tuple #[.slice a2 LT.length c2, .int .i64 0]) ?_
            rw [if_pos rfl]
            exact ⟨a2, c2, rfl, rfl⟩
      | false =>
        rw [hall, if_neg (by decide)] at hs
        subst hs
        refine .inr ⟨_, rfl, ?_⟩
        refine nx_end2 (hp' := []) [] [0, 1] (.tuple #[.slice none 0 0, .int .i64 2]) ?_
        rw [if_neg (by decide)]
        exact ⟨rfl, rfl⟩
end Go.Proofs.YtgcfomhlgipllaaGreatDoor
namespace Go.Proofs.YtgcfomhlgipllaaGreatDoor
open Go Go.Sx
theorem list_ne_at {α : Type} {l1 l2 : List α} {i : Nat} (h1 : i < l1.length) (h2 : i < l2.length) (hn : l1[i] ≠ l2[i]) : l1 ≠ l2 := fun e => by subst e; exact hn rfl
theorem sameTexts_spec (a1 : Option Addr) (c1 : Nat) (l1 : List Tx) (a2 : Option Addr) (c2 : Nat) (l2 : List Tx) (hl1 : l1.length ≤ 1048576) (hl2 : l2.length ≤ 1048576) :
    Does Tryz.prog 25 [.slice a1 l1.length c1, .slice a2 l2.length c2] [ro a1 (strsC l1), ro a2 (strsC l2)] (fun v hp' => v = .bool (decide (l1 = l2)) ∧ hp' = []) := by
  refine fn_enter Tryz.func25 rfl 26 rfl fun w0 h0 => ?_
  refine SQ (RG ?_)
  refine RR [] .z (.i 4 (.bool false) .a) .a ?_
  refine RZ (NT (SQ (SQ (RG ?_))))
  refine RR [] .z (.i 10 (.bool ((↑l1.length : Int) != (↑l2.length : Int))) .a) .a ?_
  refine RZ (NT ?_)
  by_cases hlen : ¬ l1.length = l2.length
  · rw [decide_eq_false (fun e => hlen (congrArg List.length e))]
    refine SC 10 ((↑l1.length : Int) != (↑l2.length : Int)) true (by simp only [bne_iff_ne, beq_iff_eq, ne_eq]; omega) ?_
    refine CT (SQ (RG ?_))
    refine RR [] .z (.d (.d (.k .a))) .a ?_
    refine RZ (NT (RE (TR ?_)))
    refine NE [] .z .a [] (.bool false) ?_
    exact ⟨rfl, rfl⟩
  rw [Decidable.not_not] at hlen
  refine SC 10 ((↑l1.length : Int) != (↑l2.length : Int)) false (by simp only [bne_eq_false_iff_eq, beq_eq_false_iff_ne, ne_eq]; omega) ?_
  refine CF (SK (NT (SQ (SQ (RG ?_)))))
  refine RR [] .z (.i 5 (.int .i64 0) (.d (.d (.k .a)))) .a ?_
  refine RZ (NT (BK ?_))
  refine wpc_loop (X := {i : Nat // i ≤ l1.length ∧ ∀ j, (h1 : j < l1.length) → (h2 : j < l2.length) → j < i → l1[j] = l2[j]}) (fun x => St.mk [(5, .int .i64 (x.1 : Int)), (4, .bool false), (0, .slice a1 l1.length c1), (1, .slice a2 l2.length c2)] [ro a1 (strsC l1), ro a2 (strsC l2)]) (fun x => l1.length - x.1) ⟨0, Nat.zero_le _, fun j _ _ h => absurd h (Nat.not_lt_zero _)⟩ (ent_fr (by kernel_rfl)) ?_
  rintro ⟨i, hi, hall⟩
  dsimp only at hi hall ⊢
  by_cases hlt : i < l1.length
  · have hlt2 : i < l2.length := by omega
    refine wpc_fact (fun w h => ro_addr h 0 rfl (by rw [strsC_len]; omega)) ?_
    rintro ⟨g1, o1, rfl⟩
    refine wpc_fact (fun w h => ro_addr h 1 rfl (by rw [strsC_len]; omega)) ?_
    rintro ⟨g2, o2, rfl⟩
    refine SQ (SQ (RG ?_))
    refine RR [] .z (.i 14 (.bool (decide ((↑i : Int) < (↑l1.length : Int)))) .a) .a ?_
    refine RZ (NT ?_)
    refine SC 14 (decide ((↑i : Int) < (↑l1.length : Int))) true (decide_eq_true (by omega)) ?_
    refine CT (SK (NT (SQ (BK (SQ ?_)))))
    refine wpc_draw (by kernel_rfl) [ro (some ⟨g1, o1, none⟩) (strsC l1), ro (some ⟨g2, o2, none⟩) (strsC l2)] (sub_of [0, 1] (by kernel_rfl)) 9 (by kernel_rfl) ?_
    refine wpa_take true [(0, []), (1, []), (2, []), (4, []), (5, []), (6, [])] ([(23, .pointer (some ⟨g2, o2 + i * 1, none⟩)), (19, .pointer (some ⟨g1, o1 + i * 1, none⟩)), (5, .int .i64 (↑i : Int)), (4, .bool false), (0, .slice (some ⟨g1, o1, none⟩) l1.length c1), (1, .slice (some ⟨g2, o2, none⟩) l2.length c2)]) (#[true, true, true, false, true, true, true, false, false]) [(0 : Int) ≤ (↑i : Int) ∧ (↑i : Int) < (↑l1.length : Int), (0 : Int) ≤ (↑i : Int) ∧ (↑i : Int) < (↑l2.length : Int)] (n := 3) (by kernel_rfl) (by kernel_rfl) (by kernel_rfl) ⟨by omega, by omega, trivial⟩ ?_
    refine wpa_qld (i := 3) (n := 2) (by kernel_rfl) (by kernel_rfl) (by kernel_rfl) (t := 9) (a := ⟨g1, o1 + i * 1, none⟩) (dst := some 20) (by kernel_rfl) false 1 (by kernel_rfl) (by simp) [.string (mkS l1[i])] rfl (fun w h => ld_roL h 0 rfl (i * 1) (strs_at hlt)) ?_
    refine wpa_qld (i := 7) (n := 1) (by kernel_rfl) (by kernel_rfl) (by kernel_rfl) (t := 9) (a := ⟨g2, o2 + i * 1, none⟩) (dst := some 24) (by kernel_rfl) false 1 (by kernel_rfl) (by simp) [.string (mkS l2[i])] rfl (fun w h => ld_roL h 1 rfl (i * 1) (strs_at hlt2)) ?_
    refine TK 0 [(8, [])] (.i 25 (.bool !decide (l1[i] = l2[i])) (.d (.d (.d (.d (.k .a)))))) (#[true, true, true, true, true, true, true, true, true]) ?_
    refine wpa_done 0 (by kernel_rfl) ?_
    refine NT ?_
    by_cases he : l1[i] = l2[i]
    · refine SC 25 (!decide (l1[i] = l2[i])) false (by simp; omega) ?_
      refine CF (SK (BN (NT (RG ?_))))
      refine RV true [] .z (.i 5 (.int .i64 ((↑i : Int) + 1)) (.d (.d (.d (.k .a))))) .a ([inI64 ((↑i : Int) + (1 : Int))]) ⟨by unfold inI64; omega, trivial⟩ ?_
      refine RZ ?_
      exact fun a' w' hS' => ⟨⟨i + 1, hlt, fun j h1 h2 hj => by
              rcases Nat.lt_or_ge j i with h | h
              · exact hall j h1 h2 h
              · obtain rfl : j = i := by omega
                exact he⟩, by dsimp only; omega, ent_fr (by kernel_rfl) _ _ (ent_hp [0, 0] rfl _ _ hS')⟩
    · rw [decide_eq_false (list_ne_at hlt hlt2 he)]
      refine SC 25 (!decide (l1[i] = l2[i])) true (by simp; omega) ?_
      refine CT (SQ (RG ?_))
      refine RR [] .z (.i 4 (.bool false) (.d (.d (.k (.d (.k .a)))))) .a ?_
      refine RZ (NT (RE (BR (TR (TR (BR (TR ?_)))))))
      refine NE [] .z .a [] (.bool false) ?_
      exact ⟨rfl, rfl⟩
  · obtain rfl : i = l1.length := by omega
    rw [decide_eq_true (List.ext_getElem hlen fun j h1 h2 => hall j h1 h2 h1)]
    refine SQ (SQ (RG ?_))
    refine RR [] .z (.i 14 (.bool (decide ((↑l1.length : Int) < (↑l1.length : Int)))) .a) .a ?_
    refine RZ (NT ?_)
    refine SC 14 (decide ((↑l1.length : Int) < (↑l1.length : Int))) false (by simp) ?_
    refine CF (EX (TE (TE (BH (NT (SQ (RG ?_)))))))
    refine RR [] .z (.i 4 (.bool true) .z) .a ?_
    refine RZ (NT (RE ?_))
    refine NE [] .z .a [] (.bool true) ?_
    exact ⟨rfl, rfl⟩
end Go.Proofs.YtgcfomhlgipllaaGreatDoor
namespace Go.Proofs.YtgcfomhlgipllaaGreatDoor
open Go Go.Sx
theorem num_spec (s : Tx) (n : Int) : Does Tryz.prog 87 [.string (mkS s), .int .i64 n] [] (fun v hp' => ∃ g, v = .slice (some ⟨g, 0, none⟩) 1 1 ∧ hp' = [.blk g 96 [.string (mkS s), .int .i64 1, .int .i64 n, .string (mkS [])]]) := by
  refine fn_enter Tryz.func87 rfl 10 rfl fun w0 h0 => ?_
  refine SQ (RG ?_)
  refine RR [] .z (.i 4 (.slice none 0 0) .a) .a ?_
  refine RZ (NT (SQ (RG ?_)))
  refine RN [] (.d (.d (.d (.d (.d .a))))) 9 (fun g1 => (.slice (some ⟨g1, 0, none⟩) 1 1)) (.k .z) .a 96 [.string (mkS s), .int .i64 1, .int .i64 n, .string ⟨#[]⟩] fun g1 => ?_
  refine RR [] .z (.i 4 (.slice (some ⟨g1, 0, none⟩) 1 1) .z) .a ?_
  refine RZ (NT (RE ?_))
  refine NE [0] .a .z [] (.slice (some ⟨g1, 0, none⟩) 1 1) ?_
  exact ⟨g1, rfl, rfl⟩
def exFr (gi gn : Nat) : List FrV := [⟨[109, 97, 105, 110], 8, some ⟨gi, 0, none⟩, 1, [⟨[105], ⟨1, 0, []⟩⟩]⟩, ⟨[102], 2, some ⟨gn, 0, none⟩, 1, [⟨[110], ⟨1, 1, []⟩⟩]⟩]
def exV (gi gn gf gs : Nat) : ViV := ⟨3, 0, 0, some ⟨gf, 0, none⟩, 2, exFr gi gn, [97, 10], 0, some ⟨gs, 0, none⟩, 1, [⟨1, 3, [110, 32, 62, 32, 48], [], false⟩], 0, 1, []⟩
def exL : List Tx := [[97, 116, 32, 51, 32, 114, 117, 110, 110, 105, 110, 103], [62, 32, 102, 58, 50, 32, 110, 61, 49], [32, 32, 109, 97, 105, 110, 58, 56, 32, 105, 61, 48], [124, 32, 97], [35, 49, 32, 108, 105, 110, 101, 32, 51, 32, 105, 102, 32, 110, 32, 62, 32, 48], [111, 107, 32, 49]]
def exHp (gi gn gf gs : Nat) : Hp := [.blk gi 96 [.string (mkS [105]), .int .i64 1, .int .i64 0, .string (mkS [])], .blk gn 96 [.string (mkS [110]), .int .i64 1, .int .i64 1, .string (mkS [])],
  .blk gf 90 [.string ⟨#[109, 97, 105, 110]⟩, .int .i64 8, .slice (some ⟨gi, 0, none⟩) 1 1, .string ⟨#[102]⟩, .int .i64 2, .slice (some ⟨gn, 0, none⟩) 1 1], .blk gs 151 [.int .i64 1, .int .i64 3, .string ⟨#[110, 32, 62, 32, 48]⟩, .string ⟨#[]⟩, .bool false]]
def exA (gf gs : Nat) : Value := .agg #[.int .i64 3, .int .i64 0, .int .i64 0, .slice (some ⟨gf, 0, none⟩) 2 2, .string ⟨#[97, 10]⟩, .int .i64 0, .slice (some ⟨gs, 0, none⟩) 1 1, .int .i64 0, .int .i64 1, .string ⟨#[]⟩]
theorem example_spec : Does Tryz.prog 37 [] [] (fun v hp' => ∃ gi gn gf gs, v = exA gf gs ∧ hp' = exHp gi gn gf gs) := by
  refine fn_enter Tryz.func37 rfl 11 rfl fun w0 h0 => ?_
  refine SQ (RG ?_)
  refine RP [] .z 0 .a .a 76 [.int .i64 0, .int .i64 0, .int .i64 0, .slice none 0 0, .string ⟨#[]⟩, .int .i64 0, .slice none 0 0, .int .i64 0, .int .i64 0, .string ⟨#[]⟩] fun g1 => ?_
  refine RZ (NT (SQ (RG ?_)))
  refine RC (dst := some 1) [] .a (num_spec [105] 0) ?_
  rintro v _ ⟨gi, rfl, rfl⟩
  refine RR [] (.d .a) (.i 2 (.agg #[.string (ByteArray.mk #[109, 97, 105, 110]), .int .i64 8, .slice (some ⟨gi, 0, none⟩) 1 1]) (.d (.k .a))) .a ?_
  refine RC (dst := some 3) [] .a (num_spec [110] 1) ?_
  rintro v _ ⟨gn, rfl, rfl⟩
  refine RN [] (.d (.d .a)) 5 (fun g2 => (.slice (some ⟨g2, 0, none⟩) 2 2)) (.d (.d (.k .a))) .a 90 [.string (ByteArray.mk #[109, 97, 105, 110]), .int .i64 8, .slice (some ⟨gi, 0, none⟩) 1 1, .string (ByteArray.mk #[102]), .int .i64 2, .slice (some ⟨gn, 0, none⟩) 1 1] fun g2 => ?_
  refine RN [] (.d (.d (.d .a))) 8 (fun g3 => (.slice (some ⟨g3, 0, none⟩) 1 1)) (.i 6 (.agg #[.int .i64 3, .int .i64 0, .int .i64 0, .slice (some ⟨g2, 0, none⟩) 2 2, .string (ByteArray.mk #[97, 10])]) (.d (.k .a))) .a 151 [.int .i64 1, .int .i64 3, .string (ByteArray.mk #[110, 32, 62, 32, 48]), .string ⟨#[]⟩, .bool false] fun g3 => ?_
  refine RR [2, 2, 2, 2, 2, 2, 2, 2, 2, 2] .z (.d (.d (.k .a))) (.k (.k (.u (.i (.int .i64 3) (.d (.k (.k (.i (.slice (some ⟨g2, 0, none⟩) 2 2) (.i (.string (ByteArray.mk #[97, 10])) (.d (.d (.k (.i (.slice (some ⟨g3, 0, none⟩) 1 1) (.d (.k (.i (.int .i64 1) (.d (.k .a))))))))))))))) .a))) ?_
  refine RZ (NT (RE ?_))
  refine NE [1, 0, 1, 1] (.i (.blk gi 96 [.string (mkS [105]), .int .i64 1, .int .i64 0, .string (mkS [])]) (.k (.d (.d (.k .a))))) (.d (.d (.k .z))) [2, 2, 2, 2, 2, 2, 2, 2, 2, 2] (.agg #[.int .i64 3, .int .i64 0, .int .i64 0, .slice (some ⟨g2, 0, none⟩) 2 2, .string (ByteArray.mk #[97, 10]), .int .i64 0, .slice (some ⟨g3, 0, none⟩) 1 1, .int .i64 0, .int .i64 1, .string ⟨#[]⟩]) ?_
  exact ⟨gi, gn, g2, g3, rfl, rfl⟩
theorem ex_dec : ∀ n, n < 10 → Lib.decDigits n = [UInt8.ofNat (48 + n)] := fun n h => by rw [Lib.decDigits, dif_pos h]
theorem ex_itoa (n : Nat) (h : n < 10) : Lib.itoa (n : Int) = [UInt8.ofNat (48 + n)] := by
  unfold Lib.itoa
  rw [if_neg (by omega), Int.toNat_natCast, ex_dec n h]
theorem ex_view (gi gn gf gs : Nat) : viewB 0 (exV gi gn gf gs) = true := by rfl
theorem ex_show0 : showT [] ⟨1, 0, []⟩ = [48] := by
  have h := ex_itoa 0 (by decide)
  have h : Lib.itoa 0 = [48] := h
  simp [showT, cutT, txt, rightB, h]
theorem ex_show1 : showT [] ⟨1, 1, []⟩ = [49] := by
  have h := ex_itoa 1 (by decide)
  have h : Lib.itoa 1 = [49] := h
  simp [showT, cutT, txt, rightB, h]
theorem ex_lines (gi gn gf gs : Nat) : linesT [] (exV gi gn gf gs) = exL := by
  have h1 : Lib.itoa 1 = [49] := ex_itoa 1 (by decide)
  have h2 : Lib.itoa 2 = [50] := ex_itoa 2 (by decide)
  have h3 : Lib.itoa 3 = [51] := ex_itoa 3 (by decide)
  have h8 : Lib.itoa 8 = [56] := ex_itoa 8 (by decide)
  have f1 : framesT [] 0 (exFr gi gn) = [[62, 32, 102, 58, 50, 32, 110, 61, 49], [32, 32, 109, 97, 105, 110, 58, 56, 32, 105, 61, 48]] := by
    simp [framesT, exFr, List.range_succ, frameT, biT, markT, ex_show0, ex_show1, h2, h8, lineT, cut2, cleanT, cleanB]
  have f2 : stopT ⟨1, 3, [110, 32, 62, 32, 48], [], false⟩ = [35, 49, 32, 108, 105, 110, 101, 32, 51, 32, 105, 102, 32, 110, 32, 62, 32, 48] := by
    simp [stopT, stopL, h1, h3, lineT, cut2, cleanT, cleanB]
  have f3 : replyT 0 1 [] = [111, 107, 32, 49] := by
    simp [replyT, replyL, h1, lineT, cut2, cleanT, cleanB]
  have f4 : (tailT [97, 10]).map (fun s => lineT [[124, 32], s]) = [[124, 32, 97]] := by decide +kernel
  have f5 : lineT [[97, 116, 32], [51], statusT 0 0] = [97, 116, 32, 51, 32, 114, 117, 110, 110, 105, 110, 103] := by decide +kernel
  unfold linesT exV
  dsimp only
  rw [h3, f1, f3, f4, f5, List.map_cons, List.map_nil, f2]
  rfl
end Go.Proofs.YtgcfomhlgipllaaGreatDoor
namespace Go.Proofs.YtgcfomhlgipllaaGreatDoor
open Go Go.Sx
theorem exV_ok (gi gn gf gs : Nat) : (exV gi gn gf gs).ok := by
  have n8 : i64r 8 := ⟨by decide, by decide⟩
  have n2 : i64r 2 := ⟨by decide, by decide⟩
  have n0 : i64r 0 := ⟨by decide, by decide⟩
  have n1 : i64r 1 := ⟨by decide, by decide⟩
  have n3 : i64r 3 := ⟨by decide, by decide⟩
  have t : ∀ n m : Nat, n ≤ 16 → n ≤ 1048576 := fun n _ h => by omega
  refine ⟨n3, n0, n0, t 2 0 (by decide), fun f hf => ?_, t 2 0 (by decide), n0, t 1 0 (by decide), fun s hs => ?_, n0, n1, Nat.zero_le _⟩
  · have hf : f ∈ [_, _] := hf
    simp only [List.mem_cons, List.not_mem_nil, or_false] at hf
    rcases hf with rfl | rfl
    · refine ⟨t 4 0 (by decide), n8, t 1 0 (by decide), fun b hb => ?_⟩
      rw [List.mem_singleton.1 hb]
      exact ⟨t 1 0 (by decide), Nat.zero_le _, n0⟩
    · refine ⟨t 1 0 (by decide), n2, t 1 0 (by decide), fun b hb => ?_⟩
      rw [List.mem_singleton.1 hb]
      exact ⟨t 1 0 (by decide), Nat.zero_le _, n1⟩
  · rw [List.mem_singleton.1 hs]
    exact ⟨n1, n3, t 5 0 (by decide), Nat.zero_le _⟩
theorem ent_roz {Γ : Cx} {fr : Fr} {rest : Hp} : Ent Γ ⟨fr, rest⟩ ⟨fr, ro none ([] : List Value) :: rest⟩ := ent_ro (hp := []) (c' := ro none ([] : List Value)) (fun w h => ⟨fun u hu => (by cases hu), rfl⟩) (fun w h k hk => absurd rfl hk.2) (fun h => h)
theorem one_of {l : List Value} (h : l.all (fun v => v.oneCell') = true) : Sx.One l := fun u hu => List.all_eq_true.1 h u hu
theorem exLines (gi gn gf gs g : Nat) : Does Tryz.prog 32 [exA gf gs, .pointer (some ⟨g, 0, none⟩)] (exHp gi gn gf gs ++ [.blk g 198 [.bool true, .int .i64 (mostI 9), .int .i64 0, .slice none 0 0], gPow])
    (fun r hp' => ∃ a' c', r = .tuple #[.slice a' 6 c', .int .i64 0] ∧ hp' = [row 9 1 a' 6 c' (strsC exL)]) := by
  have hL := Lines_spec g (mostI 9) 0 none 0 [] (Nat.zero_le _) (fun o ho => (List.not_mem_nil ho).elim) (exV gi gn gf gs) (exV_ok gi gn gf gs)
  refine Does.ent2 hL (fun Γ => ?_) (fun r hp' h => ?_)
  · intro a w hS
    have h1 := ent_turn 0 (ro (some ⟨gi, 0, none⟩) (([⟨[105], ⟨1, 0, []⟩⟩] : List Bi).flatMap biC)) rfl (turn_rblk (one_of rfl)) rfl _ _ hS
    have h2 := ent_turn 1 (ro (some ⟨gn, 0, none⟩) (([⟨[110], ⟨1, 1, []⟩⟩] : List Bi).flatMap biC)) rfl (turn_rblk (one_of rfl)) rfl _ _ h1
    have h3 := ent_turn 2 (ro (some ⟨gf, 0, none⟩) ((exFr gi gn).flatMap frC)) rfl (turn_rblk (one_of rfl)) rfl _ _ h2
    have h4 := ent_turn 3 (ro (some ⟨gs, 0, none⟩) ((exV gi gn gf gs).stops.flatMap spC)) rfl (turn_rblk (one_of rfl)) rfl _ _ h3
    have h5 := ent_turn 4 (ro (some ⟨g, 0, none⟩) [.bool true, .int .i64 (mostI 9), .int .i64 0, .slice none 0 0]) rfl (turn_rblk (one_of rfl)) rfl _ _ h4
    have h6 := ent_bag (hp := [ro (some ⟨gi, 0, none⟩) (([⟨[105], ⟨1, 0, []⟩⟩] : List Bi).flatMap biC), ro (some ⟨gn, 0, none⟩) (([⟨[110], ⟨1, 1, []⟩⟩] : List Bi).flatMap biC)]) (rest := [ro (some ⟨gf, 0, none⟩) ((exFr gi gn).flatMap frC), ro (some ⟨gs, 0, none⟩) ((exV gi gn gf gs).stops.flatMap spC), ro (some ⟨g, 0, none⟩) [.bool true, .int .i64 (mostI 9), .int .i64 0, .slice none 0 0], gPow]) _ _ h5
    have h7 := ent_bag_nil _ _ (ent_roz _ _ h6)
    exact ent_hp [5, 1, 0, 3, 1, 0, 0] rfl _ _ h7
  · rw [show ([] : List Ob).length = 0 from rfl, show ([] : List Ob).map Ob.o = [] from rfl, ex_view, if_pos rfl, ex_lines] at h
    obtain ⟨a', c', rfl, rfl⟩ := h
    exact ⟨_, ⟨a', c', rfl, rfl⟩, fun Γ a w h => h, fun c hc => by rw [List.mem_singleton.1 hc]; trivial⟩
theorem exT_dec : decide (exL = exL) = true := decide_eq_true rfl
set_option maxHeartbeats 4000000 in
theorem lives16_spec : Does Tryz.prog 31 [] [gPow] (fun v hp' => v = .bool true ∧ hp' = []) := by
  have hE := fun gi gn gf gs g => exLines gi gn gf gs g
  unfold exHp exA at hE
  simp only [List.cons_append, List.nil_append] at hE
  have hEx := example_spec
  unfold exHp exA at hEx
  refine fn_enter Tryz.func31 rfl 24 rfl fun w0 h0 => ?_
  refine SQ (RG ?_)
  refine RR [] .z (.i 0 (.bool false) .a) .a ?_
  refine RZ (NT (SQ (RG ?_)))
  refine RC (dst := some 4) [] .a (hEx) ?_
  rintro v _ ⟨gi, gn, gf, gs, rfl, rfl⟩
  refine RC (dst := some 5) [] .a (New_spec 9) ?_
  rintro v _ ⟨g, rfl, rfl⟩
  have hE2 := hE gi gn gf gs g
  refine RCG (dst := some 6) (.d (.d (.d (.d (.d (.k .a)))))) (hE2) (GO (GV (GJ [1, 1, 1, 1, 0]) 0 view_gPow) [1, 1, 1, 1, 1, 0]) ?_
  rintro v _ ⟨a1, c1, rfl, rfl⟩
  refine RR [] .z (.i 2 (.int .i64 0) (.i 1 (.slice a1 6 c1) (.d (.d (.d (.k .a)))))) .a ?_
  refine RZ (NT (SQ (RG ?_)))
  refine RN [] (.d (.d .a)) 10 (fun g1 => (.slice (some ⟨g1, 0, none⟩) 6 6)) (.i 9 (.slice a1 6 c1) (.k (.d (.k .a)))) .a 9 [.string (ByteArray.mk #[97, 116, 32, 51, 32, 114, 117, 110, 110, 105, 110, 103]), .string (ByteArray.mk #[62, 32, 102, 58, 50, 32, 110, 61, 49]), .string (ByteArray.mk #[32, 32, 109, 97, 105, 110, 58, 56, 32, 105, 61, 48]), .string (ByteArray.mk #[124, 32, 97]), .string (ByteArray.mk #[35, 49, 32, 108, 105, 110, 101, 32, 51, 32, 105, 102, 32, 110, 32, 62, 32, 48]), .string (ByteArray.mk #[111, 107, 32, 49])] fun g1 => ?_
  refine wpr_ent (ent_turn 2 (ro (some ⟨g1, 0, none⟩) (strsC exL)) rfl (turn_rblk (strs_one exL)) rfl) ?_
  have hs := sameTexts_spec a1 c1 exL (some ⟨g1, 0, none⟩) 6 exL (by decide) (by decide)
  rw [show exL.length = 6 from rfl, exT_dec] at hs
  refine RCG (dst := some 11) .a (hs) (GV (GV (GI []) 2 view_ro) 0 view_row) ?_
  rintro v _ ⟨rfl, rfl⟩
  have hF1 := Fault_spec 1
  rw [show faultT 1 = [100, 105, 118, 105, 115, 105, 111, 110] from rfl] at hF1
  have hF11 := Fault_spec 11
  rw [show faultT 11 = [] from rfl] at hF11
  refine RR [] (.d (.d (.d (.d (.d .a))))) (.i 16 (.bool true) (.d (.d (.d (.d (.k .a)))))) .a ?_
  refine RC (dst := some 17) [] .a (hF1) ?_
  rintro v _ ⟨rfl, rfl⟩
  refine RR [] (.d (.d (.d .a))) (.i 20 (.bool true) (.d (.d (.k .a)))) .a ?_
  refine RC (dst := some 21) [] .a (hF11) ?_
  rintro v _ ⟨rfl, rfl⟩
  refine RR [] .z (.i 0 (.bool true) .z) .a ?_
  refine RZ (NT (RE ?_))
  refine NE [] .z .a [] (.bool true) ?_
  exact ⟨rfl, rfl⟩
end Go.Proofs.YtgcfomhlgipllaaGreatDoor
namespace Go.Proofs.YtgcfomhlgipllaaGreatDoor
open Go Go.Sx
/-! What the row's list lays: the powers of ten. A number that comes in. -/
abbrev laidL : List (String × DataW Unit) := [("math/bits.deBruijn32tab", Rows.laid_math_bits_deBruijn32tab), ("math/bits.deBruijn64tab", Rows.laid_math_bits_deBruijn64tab), ("internal/strconv.uint64pow10", Rows.laid_internal_strconv_uint64pow10), ("unicode/utf8.acceptRanges", Rows.laid_unicode_utf8_acceptRanges), ("hindcast/lex.words", Rows.laid_hindcast_lex_words), ("hindcast/lex.signs", Rows.laid_hindcast_lex_signs), ("unicode/utf8.first", Rows.laid_unicode_utf8_first)]
theorem pow_in {W : World} (h : laidMet Tryz.prog laidL W) : gPow.holds W := by
  have h2 := h.tail.tail
  exact Lib.tabIs_of_head (g := 3) (t := 289) (e := 178) (n := 20) (by kernel_rfl) (by kernel_rfl) (by kernel_rfl) (by kernel_rfl) (by kernel_rfl) (by kernel_rfl) h2
end Go.Proofs.YtgcfomhlgipllaaGreatDoor
namespace Go.Proofs.YtgcfomhlgipllaaGreatDoor
open Go Go.Sx
/-! Views that come in. -/
abbrev V3 := Int × Int × List UInt8
def valS : Shape V3 := upS (pairS (intS .i64) (pairS (intS .i64) strS))
theorem opens_val : Opens Tryz.prog 94 3 valS :=
  opens_struct Tryz.underlying94 (by kernel_rfl) (opensFs_cons (off := 0) (k := 1) (m := 2) (opens_int Tryz.underlying92 (by kernel_rfl)) rfl (by kernel_rfl) (opensFs_cons (off := 1) (k := 1) (m := 1) (opens_int Tryz.underlying3 (by kernel_rfl)) rfl (by kernel_rfl)
    (opensFs_one (opens_str Tryz.underlying9 (by kernel_rfl)) rfl)))
def toV (x : V3) : V := ⟨x.1, x.2.1, x.2.2⟩
abbrev Bi4 := List UInt8 × V3
def biS : Shape Bi4 := upS (pairS strS valS)
theorem opens_bi : Opens Tryz.prog 96 4 biS :=
  opens_struct Tryz.underlying96 (by kernel_rfl) (opensFs_cons (off := 0) (k := 1) (m := 3) (opens_str Tryz.underlying9 (by kernel_rfl)) rfl (by kernel_rfl) (opensFs_one opens_val rfl))
abbrev Fr3 := List UInt8 × Int × Sl Bi4
def frS : Shape Fr3 := upS (pairS strS (pairS (intS .i64) (sliceS biS)))
theorem opens_fr : Opens Tryz.prog 90 3 frS :=
  opens_struct Tryz.underlying90 (by kernel_rfl) (opensFs_cons (off := 0) (k := 1) (m := 2) (opens_str Tryz.underlying9 (by kernel_rfl)) rfl (by kernel_rfl) (opensFs_cons (off := 1) (k := 1) (m := 1) (opens_int Tryz.underlying3 (by kernel_rfl)) rfl (by kernel_rfl)
    (opensFs_one (opens_slice Tryz.underlying88 (by kernel_rfl) opens_bi) rfl)))
abbrev Lk5 := Int × Int × Int × Sl Fr3 × List UInt8
def lkS : Shape Lk5 := upS (pairS (intS .i64) (pairS (intS .i64) (pairS (intS .i64) (pairS (sliceS frS) strS))))
theorem opens_lk : Opens Tryz.prog 71 5 lkS :=
  opens_struct Tryz.underlying71 (by kernel_rfl) (opensFs_cons (off := 0) (k := 1) (m := 4) (opens_int Tryz.underlying3 (by kernel_rfl)) rfl (by kernel_rfl) (opensFs_cons (off := 1) (k := 1) (m := 3) (opens_int Tryz.underlying68 (by kernel_rfl)) rfl (by kernel_rfl)
    (opensFs_cons (off := 2) (k := 1) (m := 2) (opens_int Tryz.underlying66 (by kernel_rfl)) rfl (by kernel_rfl) (opensFs_cons (off := 3) (k := 1) (m := 1) (opens_slice Tryz.underlying69 (by kernel_rfl) opens_fr) rfl (by kernel_rfl)
    (opensFs_one (opens_str Tryz.underlying9 (by kernel_rfl)) rfl)))))
abbrev Sp5 := Int × Int × List UInt8 × List UInt8 × Bool
def spS : Shape Sp5 := upS (pairS (intS .i64) (pairS (intS .i64) (pairS strS (pairS strS boolS))))
theorem opens_sp : Opens Tryz.prog 151 5 spS :=
  opens_struct Tryz.underlying151 (by kernel_rfl) (opensFs_cons (off := 0) (k := 1) (m := 4) (opens_int Tryz.underlying3 (by kernel_rfl)) rfl (by kernel_rfl) (opensFs_cons (off := 1) (k := 1) (m := 3) (opens_int Tryz.underlying3 (by kernel_rfl)) rfl (by kernel_rfl)
    (opensFs_cons (off := 2) (k := 1) (m := 2) (opens_str Tryz.underlying9 (by kernel_rfl)) rfl (by kernel_rfl) (opensFs_cons (off := 3) (k := 1) (m := 1) (opens_str Tryz.underlying9 (by kernel_rfl)) rfl (by kernel_rfl)
    (opensFs_one (opens_bool Tryz.underlying4 (by kernel_rfl)) rfl)))))
abbrev Rp3 := Int × Int × List UInt8
def rpS : Shape Rp3 := upS (pairS (intS .i64) (pairS (intS .i64) strS))
theorem opens_rp : Opens Tryz.prog 74 3 rpS :=
  opens_struct Tryz.underlying74 (by kernel_rfl) (opensFs_cons (off := 0) (k := 1) (m := 2) (opens_int Tryz.underlying30 (by kernel_rfl)) rfl (by kernel_rfl) (opensFs_cons (off := 1) (k := 1) (m := 1) (opens_int Tryz.underlying3 (by kernel_rfl)) rfl (by kernel_rfl)
    (opensFs_one (opens_str Tryz.underlying9 (by kernel_rfl)) rfl)))
abbrev Vi4 := Lk5 × Int × Sl Sp5 × Rp3
def viS : Shape Vi4 := upS (pairS lkS (pairS (intS .i64) (pairS (sliceS spS) rpS)))
theorem opens_vi : Opens Tryz.prog 76 10 viS :=
  opens_struct Tryz.underlying76 (by kernel_rfl) (opensFs_cons (off := 0) (k := 5) (m := 5) opens_lk rfl (by kernel_rfl) (opensFs_cons (off := 5) (k := 1) (m := 4) (opens_int Tryz.underlying3 (by kernel_rfl)) rfl (by kernel_rfl)
    (opensFs_cons (off := 6) (k := 1) (m := 3) (opens_slice Tryz.underlying72 (by kernel_rfl) opens_sp) rfl (by kernel_rfl) (opensFs_one opens_rp rfl))))
def toBi (x : Bi4) : Bi := ⟨x.1, toV x.2⟩
def toFr (x : Fr3) : FrV := ⟨x.1, x.2.1, x.2.2.1, x.2.2.2.1, x.2.2.2.2.map toBi⟩
def toSp (x : Sp5) : SpV := ⟨x.1, x.2.1, x.2.2.1, x.2.2.2.1, x.2.2.2.2⟩
def toVi (x : Vi4) : ViV := ⟨x.1.1, x.1.2.1, x.1.2.2.1, x.1.2.2.2.1.1, x.1.2.2.2.1.2.1, x.1.2.2.2.1.2.2.map toFr, x.1.2.2.2.2, x.2.1, x.2.2.1.1, x.2.2.1.2.1, x.2.2.1.2.2.map toSp, x.2.2.2.1, x.2.2.2.2.1, x.2.2.2.2.2⟩
theorem viS_C (x : Vi4) : viS.C x = viC (toVi x) := by
  show ([Value.int .i64 x.1.1] ++ ([Value.int .i64 x.1.2.1] ++ ([Value.int .i64 x.1.2.2.1] ++ ([Value.slice x.1.2.2.2.1.1 x.1.2.2.2.1.2.2.length x.1.2.2.2.1.2.1] ++ [Value.string (mkS x.1.2.2.2.2)])))) ++ ([Value.int .i64 x.2.1] ++ ([Value.slice x.2.2.1.1 x.2.2.1.2.2.length x.2.2.1.2.1] ++ ([Value.int .i64 x.2.2.2.1] ++ ([Value.int .i64 x.2.2.2.2.1] ++ [Value.string (mkS x.2.2.2.2.2)])))) = _
  simp [viC, toVi]
end Go.Proofs.YtgcfomhlgipllaaGreatDoor
namespace Go.Proofs.YtgcfomhlgipllaaGreatDoor
open Go Go.Sx
theorem few_spec (v : ViV) (hv : v.ok) (ao : Option Addr) (c : Nat) (l : List Ob) (hl : l.length ≤ 1048576) (hs : smO l) :
    Does Tryz.prog 35 [.agg (viC v).toArray, .slice ao l.length c] [ro v.fa (v.frames.flatMap frC), ro ao (l.flatMap objC)] (fun r hp' => ∃ b, r = .bool b ∧ hp' = []) := by
  obtain ⟨v1, v2, v3, v4, v5, v6, v7, v8, v9, v10, v11, v12⟩ := id hv
  unfold okText at v6 v12
  rw [show viC v = [.int .i64 v.pos, .int .i64 v.status, .int .i64 v.fault, .slice v.fa v.frames.length v.fc, .string (mkS v.out), .int .i64 v.sel, .slice v.sa v.stops.length v.sc, .int .i64 v.err, .int .i64 v.n, .string (mkS v.says)] from rfl]
  have z1 : (mkS v.out).size = v.out.length := mkS_size _
  have z2 : (mkS v.says).size = v.says.length := mkS_size _
  refine fn_enter Tryz.func35 rfl 65 rfl fun w0 h0 => ?_
  refine SQ (RG ?_)
  refine RP [] (.d .a) 2 (.d (.k .a)) .a 76 [.int .i64 v.pos, .int .i64 v.status, .int .i64 v.fault, .slice v.fa v.frames.length v.fc, .string (mkS v.out), .int .i64 v.sel, .slice v.sa v.stops.length v.sc, .int .i64 v.err, .int .i64 v.n, .string (mkS v.says)] fun g1 => ?_
  refine RR [] .z (.i 4 (.bool false) .a) .a ?_
  refine RZ (NT (SQ (RG ?_)))
  refine RV true [2, 2, 2] .z (.i 5 (.int .i64 ((↑v.stops.length : Int) + (↑(List.length v.out) : Int) + (↑(List.length v.says) : Int))) .a) .a ([inI64 ((↑v.stops.length : Int) + (↑(List.length v.out) : Int)), inI64 ((↑v.stops.length : Int) + (↑(List.length v.out) : Int) + (↑(List.length v.says) : Int))]) ⟨by unfold inI64; omega, by unfold inI64; omega, trivial⟩ ?_
  refine RZ (NT (SQ (SQ (RG ?_))))
  refine RR [] .z (.i 6 (.int .i64 0) .a) .a ?_
  refine RZ (NT (BK ?_))
  obtain ⟨n0, hn0, hn1⟩ : ∃ n0 : Int, (v.stops.length : Int) + v.out.length + v.says.length = n0 ∧ 0 ≤ n0 ∧ n0 ≤ 6300000 := ⟨v.stops.length + v.out.length + v.says.length, rfl, by omega, by omega⟩
  rw [hn0]
  refine wpc_loop (X := {x : Nat × Int // x.1 ≤ v.frames.length ∧ 0 ≤ x.2 ∧ x.2 ≤ 6300000}) (fun x => St.mk [(6, .int .i64 (x.1.1 : Int)), (5, .int .i64 x.1.2), (4, .bool false), (2, .pointer (some ⟨g1, 0, none⟩)), (1, .slice ao l.length c)] [ro v.fa (v.frames.flatMap frC), ro ao (l.flatMap objC), .blk g1 76 [.int .i64 v.pos, .int .i64 v.status, .int .i64 v.fault, .slice v.fa v.frames.length v.fc, .string (mkS v.out), .int .i64 v.sel, .slice v.sa v.stops.length v.sc, .int .i64 v.err, .int .i64 v.n, .string (mkS v.says)]]) (fun x => v.frames.length - x.1.1) ⟨(0, n0), Nat.zero_le _, hn1⟩ (ent_fr (by kernel_rfl)) ?_
  rintro ⟨⟨i, n⟩, hi, hn⟩
  dsimp only at hi hn ⊢
  by_cases hlt : i < v.frames.length ∧ n < 5000
  · obtain ⟨hlt, h5⟩ := hlt
    obtain ⟨-, -, x3, -⟩ := v5 _ (List.getElem_mem hlt)
    refine wpc_fact (fun w h => ro_addr h 0 rfl (by rw [frs_len]; omega)) ?_
    rintro ⟨g0, o0, hca⟩
    rw [hca]
    refine SQ (SQ (RG ?_))
    refine RR [2] (.d (.d (.d (.d (.d (.d (.d .a))))))) (.i 27 (.bool (decide ((↑i : Int) < (↑v.frames.length : Int)))) .a) .a ?_
    refine SR 27 (decide ((↑i : Int) < (↑v.frames.length : Int))) true (decide_eq_true (by omega)) ?_
    refine RR [] .z (.i 30 (.bool (decide (n < (5000 : Int)))) (.d (.d (.k .a)))) .a ?_
    refine RZ (NT ?_)
    refine SC 30 (decide (n < (5000 : Int))) true (decide_eq_true (by omega)) ?_
    refine CT (SK (NT (SQ (BK (RG ?_)))))
    refine RV true [2] (.d (.d (.d (.d (.d (.d (.d (.d .a)))))))) (.i 40 (.pointer (some ⟨g0, o0 + i * 3 + 2, none⟩)) (.i 34 (.int .i64 (n + 1)) (.d (.d (.k .a))))) .a ([inI64 (n + (1 : Int)), (0 : Int) ≤ (↑i : Int) ∧ (↑i : Int) < (↑v.frames.length : Int)]) ⟨by unfold inI64; omega, by omega, trivial⟩ ?_
    refine wpr_eq (ld (t := 88) (a := ⟨g0, o0 + i * 3 + 2, none⟩) (dst := some 41) (by kernel_rfl) false 1 (by kernel_rfl) (by simp) [.slice v.frames[i].a v.frames[i].vars.length v.frames[i].c] rfl (fun w h => ld_ro h 0 rfl (i * 3 + 2) (frs_fld hlt 2 1 (by decide)))) ?_
    refine RV true [] .z (.i 5 (.int .i64 (n + 1 + (↑v.frames[i].vars.length : Int))) (.d (.d (.d (.k (.d (.k .a))))))) .a ([inI64 (n + (1 : Int) + (↑v.frames[i].vars.length : Int))]) ⟨by unfold inI64; omega, trivial⟩ ?_
    refine RZ (BN (NT (RG ?_)))
    refine RV true [] .z (.i 6 (.int .i64 ((↑i : Int) + 1)) (.k (.d (.k .a)))) .a ([inI64 ((↑i : Int) + (1 : Int))]) ⟨by unfold inI64; omega, trivial⟩ ?_
    refine RZ ?_
    rw [← hca]
    exact fun a' w' hS' => ⟨⟨(i + 1, n + 1 + v.frames[i].vars.length), hlt, by dsimp only; omega, by dsimp only; omega⟩, by dsimp only; omega, ent_fr (by kernel_rfl) _ _ (ent_hp [0, 0, 0] rfl _ _ hS')⟩
  · refine SQ (SQ (RG ?_))
    refine RR [2] (.d (.d (.d (.d (.d (.d (.d .a))))))) (.i 27 (.bool (decide ((↑i : Int) < (↑v.frames.length : Int)))) .a) .a ?_
    refine wpr_join ⟨[(30, .bool false), (4, (.bool false)), (5, (.int .i64 n)), (2, (.pointer (some ⟨g1, 0, none⟩))), (1, (.slice ao l.length c))], [ro v.fa (List.flatMap frC v.frames), ro ao (List.flatMap objC l), .blk g1 76 [.int .i64 v.pos, .int .i64 v.status, .int .i64 v.fault, .slice v.fa v.frames.length v.fc, .string (mkS v.out), .int .i64 v.sel, .slice v.sa v.stops.length v.sc, .int .i64 v.err, .int .i64 v.n, .string (mkS v.says)]]⟩ (fun Q1 hQ1 hk => ?_) ?_
    · by_cases h : i < v.frames.length
      · have h5 : ¬ n < 5000 := fun h5 => hlt ⟨h, h5⟩
        refine SR 27 (decide ((↑i : Int) < (↑v.frames.length : Int))) true (decide_eq_true (by omega)) ?_
        refine RR [] .z (.i 30 (.bool (decide (n < (5000 : Int)))) (.d (.d (.d (.k .a))))) .a ?_
        refine RZ ?_
        rw [decide_eq_false h5]
        exact nx_ent (ent_hp [0, 0, 0] rfl) (nx_ent (ent_fr (by kernel_rfl)) hk)
      · refine SR 27 (decide ((↑i : Int) < (↑v.frames.length : Int))) false (decide_eq_false (by omega)) ?_
        refine RR [] .z (.i 30 (.bool false) (.d (.d (.d (.k .a))))) .a ?_
        refine RZ ?_
        exact nx_ent (ent_hp [0, 0, 0] rfl) (nx_ent (ent_fr (by kernel_rfl)) hk)
    · refine NT (CF (EX (TE (TE (BH (NT (SQ (SQ (RG ?_)))))))))
      refine RR [] .z (.i 7 (.int .i64 0) (.d (.k (.k (.d (.k .a)))))) .a ?_
      refine RZ (NT (BK ?_))
      refine wpc_loop (X := {x : Nat × Int // x.1 ≤ l.length ∧ 0 ≤ x.2 ∧ x.2 ≤ 7800000}) (fun x => St.mk [(7, .int .i64 (x.1.1 : Int)), (5, .int .i64 x.1.2), (4, .bool false), (1, .slice ao l.length c)] [ro ao (l.flatMap objC)]) (fun x => l.length - x.1.1) ⟨(0, n), Nat.zero_le _, by dsimp only; omega⟩ ?_ ?_
      · exact Ent.trans (ent_hp [1] rfl) (ent_fr (by kernel_rfl))
      rintro ⟨⟨j, m⟩, hj, hm⟩
      dsimp only at hj hm ⊢
      by_cases hlt2 : j < l.length ∧ m < 5000
      · obtain ⟨hlt2, h5⟩ := hlt2
        obtain ⟨-, -, x3, -⟩ := hs _ (List.getElem_mem hlt2)
        refine wpc_fact (fun w h => ro_addr h 0 rfl (by rw [objs_len]; omega)) ?_
        rintro ⟨g0, o0, rfl⟩
        refine SQ (SQ (RG ?_))
        refine RR [] (.d (.d (.d (.d (.d .a))))) (.i 48 (.bool (decide ((↑j : Int) < (↑l.length : Int)))) .a) .a ?_
        refine SR 48 (decide ((↑j : Int) < (↑l.length : Int))) true (decide_eq_true (by omega)) ?_
        refine RR [] .z (.i 51 (.bool (decide (m < (5000 : Int)))) (.d (.d (.k .a)))) .a ?_
        refine RZ (NT ?_)
        refine SC 51 (decide (m < (5000 : Int))) true (decide_eq_true (by omega)) ?_
        refine CT (SK (NT (SQ (BK (RG ?_)))))
        refine RV true [] (.d (.d (.d (.d (.d (.d .a)))))) (.i 59 (.pointer (some ⟨g0, o0 + j * 2 + 1, none⟩)) (.i 55 (.int .i64 (m + 1)) (.d (.d (.k .a))))) .a ([inI64 (m + (1 : Int)), (0 : Int) ≤ (↑j : Int) ∧ (↑j : Int) < (↑l.length : Int)]) ⟨by unfold inI64; omega, by omega, trivial⟩ ?_
        refine wpr_eq (ld (t := 81) (a := ⟨g0, o0 + j * 2 + 1, none⟩) (dst := some 60) (by kernel_rfl) false 1 (by kernel_rfl) (by simp) [.slice l[j].a l[j].cells.length l[j].c] rfl (fun w h => ld_ro h 0 rfl (j * 2 + 1) (obj_cells hlt2))) ?_
        refine RV true [] .z (.i 5 (.int .i64 (m + 1 + (↑l[j].cells.length : Int))) (.d (.d (.d (.k (.d (.k .a))))))) .a ([inI64 (m + (1 : Int) + (↑l[j].cells.length : Int))]) ⟨by unfold inI64; omega, trivial⟩ ?_
        refine RZ (BN (NT (RG ?_)))
        refine RV true [] .z (.i 7 (.int .i64 ((↑j : Int) + 1)) (.k (.d (.k .a)))) .a ([inI64 ((↑j : Int) + (1 : Int))]) ⟨by unfold inI64; omega, trivial⟩ ?_
        refine RZ ?_
        exact fun a' w' hS' => ⟨⟨(j + 1, m + 1 + l[j].cells.length), hlt2, by dsimp only; omega, by dsimp only; omega⟩, by dsimp only; omega, ent_fr (by kernel_rfl) _ _ (ent_hp [0] rfl _ _ hS')⟩
      · refine SQ (SQ (RG ?_))
        refine RR [] (.d (.d (.d (.d (.d .a))))) (.i 48 (.bool (decide ((↑j : Int) < (↑l.length : Int)))) .a) .a ?_
        refine wpr_join ⟨[(51, .bool false), (4, (.bool false)), (5, (.int .i64 m))], [ro ao (List.flatMap objC l)]⟩ (fun Q1 hQ1 hk => ?_) ?_
        · by_cases h : j < l.length
          · have h5 : ¬ m < 5000 := fun h5 => hlt2 ⟨h, h5⟩
            refine SR 48 (decide ((↑j : Int) < (↑l.length : Int))) true (decide_eq_true (by omega)) ?_
            refine RR [] .z (.i 51 (.bool (decide (m < (5000 : Int)))) (.d (.d (.d (.k (.k .z)))))) .a ?_
            refine RZ ?_
            rw [decide_eq_false h5]
            exact nx_ent (ent_hp [0] rfl) (nx_ent (ent_fr (by kernel_rfl)) hk)
          · refine SR 48 (decide ((↑j : Int) < (↑l.length : Int))) false (decide_eq_false (by omega)) ?_
            refine RR [] .z (.i 51 (.bool false) (.d (.d (.d (.k (.k .z)))))) .a ?_
            refine RZ ?_
            exact nx_ent (ent_hp [0] rfl) (nx_ent (ent_fr (by kernel_rfl)) hk)
        · refine NT (CF (EX (TE (TE (BH (NT (SQ (RG ?_))))))))
          refine RR [] .z (.i 4 (.bool (decide (m < (5000 : Int)))) .z) .a ?_
          refine RZ (NT (RE ?_))
          refine NE [] .z .a [] (.bool (decide (m < 5000))) ?_
          exact ⟨_, rfl, rfl⟩
end Go.Proofs.YtgcfomhlgipllaaGreatDoor
namespace Go.Proofs.YtgcfomhlgipllaaGreatDoor
open Go Go.Sx
theorem Grow_spec (m : Nat) (hm : m ≤ 1099511627776) : Does Tryz.prog 131 [.slice none 0 0, .int .i64 (m : Int)] [] (fun v hp' => ∃ a c, v = .slice a 0 c ∧ hp' = [row 9 1 a 0 c []]) := by
  refine fn_enter Tryz.func131 rfl 27 rfl fun w0 h0 => ?_
  refine SQ (RG ?_)
  refine RR [] .z (.i 4 (.slice none 0 0) .a) .a ?_
  refine RZ (NT (SQ (SQ (RG ?_))))
  refine RR [] .z (.i 6 (.bool false) .a) .a ?_
  refine RZ (NT (CF (SK (NT (SQ (SQ (RG ?_)))))))
  refine RV true [] .z (.i 1 (.int .i64 ((↑m : Int) - 0)) (.d (.k (.k .z)))) .a [inI64 ((0 : Int) - (0 : Int)), inI64 ((↑m : Int) - (0 : Int))] ⟨by unfold inI64; omega, by unfold inI64; omega, trivial⟩ ?_
  refine RZ (NT (SQ (RG ?_)))
  refine RR [] .z (.i 16 (.bool (decide ((↑m : Int) - (0 : Int) > (0 : Int)))) .a) .a ?_
  refine RZ (NT ?_)
  by_cases h0 : m = 0
  · subst h0
    refine CF (SK (NT (SQ (RG ?_))))
    refine RR [] .z (.d (.d (.k .z))) .a ?_
    refine RZ (NT (RE ?_))
    refine nx_ent (ent_nil 9 1) ?_
    refine NE [0] .a .z [] (.slice none 0 0) ?_
    exact ⟨none, 0, rfl, rfl⟩
  refine SC 16 (decide ((↑m : Int) - (0 : Int) > (0 : Int))) true (decide_eq_true (by omega)) ?_
  refine CT (RG ?_)
  refine RV true [] (.d (.d (.d (.d (.d .a))))) (.i 21 (.int .i64 ((↑m : Int) - 0)) (.i 20 (.slice none 0 0) (.d (.d (.d (.k .a)))))) .a [(0 : Int) ≤ (0 : Int) ∧ (0 : Int) ≤ (↑(0 : Nat) : Int)] ⟨by omega, trivial⟩ ?_
  refine wpr_ent (ent_set 21 (.int .i64 ((↑m : Int) - 0)) (Value.int .i64 (m : Int)) (by kernel_rfl) (by simp)) ?_
  refine wpr_appz (i := 5) (m := m) (k' := IntKind.i64) (t := 22) (xt := 3) (dst := some 22) (by kernel_rfl) (e := 9) (sz := 1) (bytes := 16) (by kernel_rfl) (by omega) (by omega) (by omega) ?_
  intro g cap zs
  refine wpr_ent (ent_turn 0 (row 9 1 (some ⟨g, 0, none⟩) 0 cap []) rfl (turn_cut (xs := zs) 0 cap (Nat.zero_le _) (Nat.zero_le _) (Nat.le_refl _)) rfl) ?_
  refine RV true [] .z (.i 0 (.slice (some ⟨g, 0, none⟩) 0 cap) (.d (.d (.d (.d (.k .z)))))) .a [(0 : Int) ≤ (0 : Int) ∧ (0 : Int) ≤ (↑cap : Int)] ⟨by omega, trivial⟩ ?_
  refine RZ (NT (SQ (RG ?_)))
  refine RR [] .z (.i 4 (.slice (some ⟨g, 0, none⟩) 0 cap) .z) .a ?_
  refine RZ (NT (RE ?_))
  refine NE [0] .a .z [] (.slice (some ⟨g, 0, none⟩) 0 cap) ?_
  exact ⟨_, cap, rfl, rfl⟩
def cat2 (l0 l1 : List Tx) : Nat → List Tx | 0 => [] | 1 => l0 | _ => l0 ++ l1
theorem Concat_spec (g : Nat) (a0 a1 : Option Addr) (c0 c1 : Nat) (l0 l1 : List Tx) (n0 : a0 = none → l0 = []) (n1 : a1 = none → l1 = []) (hl : l0.length + l1.length ≤ 1099511627776) :
    Does Tryz.prog 83 [.slice (some ⟨g, 0, none⟩) 2 2] [ro (some ⟨g, 0, none⟩) [.slice a0 l0.length c0, .slice a1 l1.length c1], ro a0 (strsC l0), ro a1 (strsC l1)]
      (fun v hp' => ∃ a c, v = .slice a (l0 ++ l1).length c ∧ hp' = [row 9 1 a (l0 ++ l1).length c (strsC (l0 ++ l1))]) := by
  obtain ⟨f, hf0, hf1, hf2⟩ : ∃ f : Nat → Nat, f 0 = 0 ∧ f 1 = l0.length ∧ f 2 = l0.length + l1.length := ⟨fun | 0 => 0 | 1 => l0.length | _ => l0.length + l1.length, rfl, rfl, rfl⟩
  refine fn_enter Tryz.func83 rfl 36 rfl fun w0 h0 => ?_
  refine SQ (RG ?_)
  refine RR [] .z (.i 2 (.slice none 0 0) .a) .a ?_
  refine RZ (NT (SQ (RG ?_)))
  refine RR [] .z (.i 3 (.int .i64 0) .a) .a ?_
  refine RZ (NT (SQ (SQ (RG ?_))))
  refine RR [] .z (.i 11 (.int .i64 0) (.i 10 (.int .i64 2) (.i 9 (.slice (some ⟨g, 0, none⟩) 2 2) .a))) .a ?_
  refine RZ (NT (BK ?_))
  refine wpc_loop (X := {i : Nat // i ≤ 2}) (fun x => St.mk [(11, .int .i64 (x.1 : Int)), (10, .int .i64 2), (9, .slice (some ⟨g, 0, none⟩) 2 2), (3, .int .i64 (f x.1 : Int)), (2, .slice none 0 0), (0, .slice (some ⟨g, 0, none⟩) 2 2)]
    [ro (some ⟨g, 0, none⟩) [.slice a0 l0.length c0, .slice a1 l1.length c1], ro a0 (strsC l0), ro a1 (strsC l1)]) (fun x => 2 - x.1) ⟨0, by decide⟩ (by rw [hf0]; exact ent_fr (by kernel_rfl)) ?_
  rintro ⟨i, hi⟩
  rcases i with _ | _ | i
  · dsimp only
    refine SQ (RG ?_)
    refine RR [] .z (.i 12 (.bool true) (.i 11 (.int .i64 0) (.d (.k .a)))) .a ?_
    refine RZ (NT (SQ (CT (SK (NT (SQ (BK (SQ (RG ?_)))))))))
    refine RV true [] (.d .a) (.i 13 (.pointer (some ⟨g, 0, none⟩)) (.d (.k .a))) .a [(0 : Int) ≤ (0 : Int) ∧ (0 : Int) < (↑(2 : Nat) : Int)] ⟨by omega, trivial⟩ ?_
    refine wpr_eq (ld (t := 22) (a := ⟨g, 0, none⟩) (dst := some 14) (by kernel_rfl) false 1 (by kernel_rfl) (by simp) [.slice a0 l0.length c0] rfl (fun w h => ld_ro h 0 rfl 0 rfl)) ?_
    refine RR [] .z (.i 5 (.slice a0 l0.length c0) (.d (.d (.k .a)))) .a ?_
    refine RZ (NT (SQ (RG ?_)))
    refine RV true [] .z (.i 3 (.int .i64 ((↑(f 0) : Int) + (↑l0.length : Int))) (.d (.k (.k (.k (.d (.k .a))))))) .a ([inI64 ((↑(f (0 : Nat)) : Int) + (↑l0.length : Int))]) ⟨by unfold inI64; omega, trivial⟩ ?_
    refine RZ (NT (SQ (RG ?_)))
    refine RR [] .z (.i 20 (.bool false) .a) .a ?_
    refine RZ (NT (CF (SK (BN (NT (RG ?_))))))
    refine RV true [] .z (.i 11 (.int .i64 1) (.d (.k (.d (.k .a))))) .a ([inI64 ((0 : Int) + (1 : Int))]) ⟨by unfold inI64; omega, trivial⟩ ?_
    refine RZ ?_
    refine nx_ent (ent_set 3 (.int .i64 ((↑(f 0) : Int) + (↑l0.length : Int))) (Value.int .i64 (f 1 : Int)) (by kernel_rfl) (by rw [hf0, hf1]; simp)) ?_
    exact fun a' w' hS' => ⟨⟨1, by decide⟩, by dsimp only; omega, ent_fr (by kernel_rfl) _ _ (ent_hp [0, 0, 0] rfl _ _ hS')⟩
  · dsimp only
    rw [Nat.zero_add]
    refine SQ (RG ?_)
    refine RR [] .z (.i 12 (.bool true) (.i 11 (.int .i64 1) (.d (.k .a)))) .a ?_
    refine RZ (NT (SQ (CT (SK (NT (SQ (BK (SQ (RG ?_)))))))))
    refine RV true [] (.d .a) (.i 13 (.pointer (some ⟨g, 1, none⟩)) (.d (.k .a))) .a [(0 : Int) ≤ (1 : Int) ∧ (1 : Int) < (↑(2 : Nat) : Int)] ⟨by omega, trivial⟩ ?_
    refine wpr_eq (ld (t := 22) (a := ⟨g, 1, none⟩) (dst := some 14) (by kernel_rfl) false 1 (by kernel_rfl) (by simp) [.slice a1 l1.length c1] rfl (fun w h => ld_ro h 0 rfl 1 rfl)) ?_
    refine RR [] .z (.i 5 (.slice a1 l1.length c1) (.d (.d (.k .a)))) .a ?_
    refine RZ (NT (SQ (RG ?_)))
    refine RV true [] .z (.i 3 (.int .i64 ((↑(f 1) : Int) + (↑l1.length : Int))) (.d (.k (.k (.k (.d (.k .a))))))) .a ([inI64 ((↑(f (1 : Nat)) : Int) + (↑l1.length : Int))]) ⟨by unfold inI64; omega, trivial⟩ ?_
    refine RZ (NT (SQ (RG ?_)))
    refine RR [] .z (.i 20 (.bool false) .a) .a ?_
    refine RZ (NT (CF (SK (BN (NT (RG ?_))))))
    refine RV true [] .z (.i 11 (.int .i64 2) (.d (.k (.d (.k .a))))) .a ([inI64 ((1 : Int) + (1 : Int))]) ⟨by unfold inI64; omega, trivial⟩ ?_
    refine RZ ?_
    refine nx_ent (ent_set 3 (.int .i64 ((↑(f 1) : Int) + (↑l1.length : Int))) (Value.int .i64 (f 2 : Int)) (by kernel_rfl) (by rw [hf1, hf2]; simp)) ?_
    exact fun a' w' hS' => ⟨⟨2, by decide⟩, by dsimp only; omega, ent_fr (by kernel_rfl) _ _ (ent_hp [0, 0, 0] rfl _ _ hS')⟩
  have : i = 0 := by omega
  subst this
  dsimp only
  refine SQ (RG ?_)
  refine RR [] .z (.i 12 (.bool false) (.i 11 (.int .i64 2) (.d (.k .a)))) .a ?_
  refine RZ (NT (SQ (CF (EX (TE (TE (BH (NT (SQ (RG ?_))))))))))
  refine RR [] (.d .a) (.i 23 (.int .i64 (↑(f (0 + 1 + 1)) : Int)) (.d (.d (.d (.d (.d (.k .a))))))) .a ?_
  refine wpr_ent (ent_set 23 (.int .i64 (↑(f (0 + 1 + 1)) : Int)) (Value.int .i64 ((l0.length + l1.length : Nat) : Int)) (by kernel_rfl) (by rw [hf2])) ?_
  refine RC (dst := some 24) [] .a (Grow_spec _ hl) ?_
  rintro v _ ⟨a, c, rfl, rfl⟩
  refine RR [] .z (.i 6 (.slice a 0 c) (.d (.d (.d (.k .a))))) .a ?_
  refine RZ (NT (SQ (SQ (RG ?_))))
  refine RR [] .z (.i 27 (.int .i64 0) (.i 26 (.int .i64 2) (.i 25 (.slice (some ⟨g, 0, none⟩) 2 2) (.k (.k .z))))) .a ?_
  refine RZ (NT (BK ?_))
  refine wpc_loop (X := {x : Nat × Option Addr × Nat // x.1 ≤ 2}) (fun x => St.mk [(27, .int .i64 (x.1.1 : Int)), (26, .int .i64 2), (25, .slice (some ⟨g, 0, none⟩) 2 2), (6, .slice x.1.2.1 (cat2 l0 l1 x.1.1).length x.1.2.2), (2, .slice none 0 0)]
    [row 9 1 x.1.2.1 (cat2 l0 l1 x.1.1).length x.1.2.2 (strsC (cat2 l0 l1 x.1.1)), ro (some ⟨g, 0, none⟩) [.slice a0 l0.length c0, .slice a1 l1.length c1], ro a0 (strsC l0), ro a1 (strsC l1)]) (fun x => 2 - x.1.1) ⟨(0, a, c), Nat.zero_le _⟩ (ent_fr (by kernel_rfl)) ?_
  rintro ⟨⟨i, a, c⟩, hi⟩
  dsimp only at hi
  rcases i with _ | _ | i
  · simp only [cat2, List.length_nil]
    refine SQ (RG ?_)
    refine RR [] .z (.i 28 (.bool true) (.i 27 (.int .i64 0) (.d (.k .a)))) .a ?_
    refine RZ (NT (SQ (CT (SK (NT (SQ (BK (SQ (RG ?_)))))))))
    refine RV true [] (.d .a) (.i 29 (.pointer (some ⟨g, 0, none⟩)) (.d (.k .a))) .a [(0 : Int) ≤ (0 : Int) ∧ (0 : Int) < (↑(2 : Nat) : Int)] ⟨by omega, trivial⟩ ?_
    refine wpr_eq (ld (t := 22) (a := ⟨g, 0, none⟩) (dst := some 30) (by kernel_rfl) false 1 (by kernel_rfl) (by simp) [.slice a0 l0.length c0] rfl (fun w h => ld_ro h 1 rfl 0 rfl)) ?_
    refine RR [] .z (.i 8 (.slice a0 l0.length c0) (.d (.d (.k .a)))) .a ?_
    refine RZ (NT (RG ?_))
    refine RR [] (.d (.d .a)) (.i 32 (.slice a0 l0.length c0) (.i 31 (.slice a 0 c) (.d (.k .a)))) .a ?_
    refine wpr_app (a := a) (n := 0) (cap := c) (x := (.slice a0 l0.length c0)) (t := 22) (xt := 22) (dst := some 33) (by kernel_rfl) (e := 9) (sz := 1) (bytes := 16) (by kernel_rfl) 0 (xs := (strsC [])) (by kernel_rfl) (m := (l0.length)) (news := (strsC l0)) (fun w h => src_ro h 2 rfl (by rw [strsC_len, Nat.mul_one]) (fun e => by rw [n0 e]; rfl)) (by unfold maxLen; omega) (by omega) ?_
    intro b d hn
    simp only [strs_apps, List.nil_append, Nat.zero_add]
    refine RR [] .z (.i 6 (.slice b l0.length d) (.d (.d (.d (.k (.k (.k (.d (.k .a))))))))) .a ?_
    refine RZ (BN (NT (RG ?_)))
    refine RV true [] .z (.i 27 (.int .i64 1) (.k (.d (.k .a)))) .a ([inI64 ((0 : Int) + (1 : Int))]) ⟨by unfold inI64; omega, trivial⟩ ?_
    refine RZ ?_
    exact fun a' w' hS' => ⟨⟨(1, b, d), by dsimp only; omega⟩, by dsimp only; omega, ent_fr (by kernel_rfl) _ _ (ent_hp [0, 0, 0, 0] rfl _ _ hS')⟩
  · simp only [cat2, List.length_nil]
    refine SQ (RG ?_)
    refine RR [] .z (.i 28 (.bool true) (.i 27 (.int .i64 1) (.d (.k .a)))) .a ?_
    refine RZ (NT (SQ (CT (SK (NT (SQ (BK (SQ (RG ?_)))))))))
    refine RV true [] (.d .a) (.i 29 (.pointer (some ⟨g, 1, none⟩)) (.d (.k .a))) .a [(0 : Int) ≤ (1 : Int) ∧ (1 : Int) < (↑(2 : Nat) : Int)] ⟨by omega, trivial⟩ ?_
    refine wpr_eq (ld (t := 22) (a := ⟨g, 1, none⟩) (dst := some 30) (by kernel_rfl) false 1 (by kernel_rfl) (by simp) [.slice a1 l1.length c1] rfl (fun w h => ld_ro h 1 rfl 1 rfl)) ?_
    refine RR [] .z (.i 8 (.slice a1 l1.length c1) (.d (.d (.k .a)))) .a ?_
    refine RZ (NT (RG ?_))
    refine RR [] (.d (.d .a)) (.i 32 (.slice a1 l1.length c1) (.i 31 (.slice a l0.length c) (.d (.k .a)))) .a ?_
    refine wpr_app (a := a) (n := l0.length) (cap := c) (x := (.slice a1 l1.length c1)) (t := 22) (xt := 22) (dst := some 33) (by kernel_rfl) (e := 9) (sz := 1) (bytes := 16) (by kernel_rfl) 0 (xs := (strsC l0)) (by kernel_rfl) (m := (l1.length)) (news := (strsC l1)) (fun w h => src_ro h 3 rfl (by rw [strsC_len, Nat.mul_one]) (fun e => by rw [n1 e]; rfl)) (by unfold maxLen; omega) (by omega) ?_
    intro b d hn
    simp only [strs_apps, ← List.length_append]
    refine RR [] .z (.i 6 (.slice b (l0 ++ l1).length d) (.d (.d (.d (.k (.k (.k (.d (.k .a))))))))) .a ?_
    refine RZ (BN (NT (RG ?_)))
    refine RV true [] .z (.i 27 (.int .i64 2) (.k (.d (.k .a)))) .a ([inI64 ((1 : Int) + (1 : Int))]) ⟨by unfold inI64; omega, trivial⟩ ?_
    refine RZ ?_
    exact fun a' w' hS' => ⟨⟨(2, b, d), by dsimp only; omega⟩, by dsimp only; omega, ent_fr (by kernel_rfl) _ _ (ent_hp [0, 0, 0, 0] rfl _ _ hS')⟩
  have : i = 0 := by omega
  subst this
  simp only [cat2]
  refine SQ (RG ?_)
  refine RR [] .z (.i 28 (.bool false) (.i 27 (.int .i64 2) (.d (.k .a)))) .a ?_
  refine RZ (NT (SQ (CF (EX (TE (TE (BH (NT (SQ (RG ?_))))))))))
  refine RR [] .z (.i 2 (.slice a (l0 ++ l1).length c) .z) .a ?_
  refine RZ (NT (RE ?_))
  refine NE [0] (.k .z) (.d (.k .a)) [] (.slice a (l0 ++ l1).length c) ?_
  exact ⟨a, c, rfl, rfl⟩
end Go.Proofs.YtgcfomhlgipllaaGreatDoor
namespace Go.Proofs.YtgcfomhlgipllaaGreatDoor
open Go Go.Sx Go.RowKit
theorem join_data (l : List (List UInt8)) (sep : List UInt8) : Lib.join ((l.map mkS).map (·.data.toList)) (mkS sep).data.toList = Lib.join l sep := by
  have h : (l.map mkS).map (·.data.toList) = l := by rw [List.map_map]; exact List.map_id l
  rw [h]; rfl
theorem JoinS_spec (a : Option Addr) (c : Nat) (l : List (List UInt8)) (sep : List UInt8) (hn : l.length ≤ 16777216) (hc : l.length ≤ c) (hl : (Lib.join l sep).length ≤ 140737488355328) :
    Does Tryz.prog 82 [.slice a l.length c, .string (mkS sep)] [ro a (strsC l)] (fun v hp' => v = .string (mkS (Lib.join l sep)) ∧ hp' = []) := fun w hw => by
  have fin : ∀ (e : Ending) (w' : World), (e = .returned (.string (mkS (Lib.join l sep))) ∧ Below w.heap.size w w') → Post w [ro a (strsC l)] (fun v hp' => v = .string (mkS (Lib.join l sep)) ∧ hp' = []) e w' := fun e w' ⟨h1, h2⟩ =>
    ⟨_, [], ⟨rfl, rfl⟩, h1, ⟨(fun c hc => by cases hc), List.Pairwise.nil⟩, ⟨h2.os, h2.tape, h2.output, h2.size, fun k hk _ => h2.block k hk⟩, (fun c hc => by cases hc), fun c hc => by cases hc⟩
  cases l with
  | nil =>
    exact (Tryz.strings_Join_none a c (mkS sep) w).mono fun e w' ⟨h1, h2⟩ => fin e w' ⟨h1, h2 ▸ Below.refl _ _⟩
  | cons x r =>
    obtain ⟨g, o, rfl⟩ := ro_addr hw 0 rfl (by rw [strsC_len]; exact Nat.succ_pos _)
    have hcell : ∀ (j : Nat) y, ((x :: r).map mkS)[j]? = some y → w.cell? ⟨g, o + j, none⟩ = some (.string y) := fun j y hy => by
      have hj : j < (x :: r).length := by rw [← List.length_map (f := mkS)]; exact (List.getElem?_eq_some_iff.1 hy).1
      have h := ld_ro hw 0 rfl (j * 1) (vs := [.string (mkS (x :: r)[j])]) (strs_at hj) 0 _ rfl
      rw [List.getElem?_map, List.getElem?_eq_getElem hj] at hy
      cases hy
      have e : (⟨g, o + j * 1, none⟩ : Addr).add 0 = ⟨g, o + j, none⟩ := by unfold Addr.add; simp
      rw [e] at h
      exact h
    have hbk : g < w.heap.size := World.block_lt_of_cell? _ _ (hcell 0 (mkS x) rfl)
    have hJ := Tryz.strings_Join g o c ((x :: r).map mkS) (mkS sep) w hcell hbk (by rw [List.length_map]; omega) (by rw [List.length_map]; exact hc) (by rw [join_data]; exact hl)
    rw [join_data, List.length_map] at hJ
    exact hJ.mono fun e w' h => fin e w' h
theorem join_bytes (l : List Tx) : Lib.join (l ++ [[]]) [10] = bytesT l := by
  induction l with
  | nil => rfl
  | cons x r ih =>
    rw [List.cons_append, bytesT, List.flatMap_cons]
    rw [show r.flatMap (fun t => t ++ [10]) = bytesT r from rfl, ← ih]
    unfold Lib.join List.intercalate
    cases r with
    | nil => simp
    | cons y t => simp [List.intersperse]
theorem bytesT_len : ∀ (l : List Tx), (∀ t ∈ l, t.length ≤ 200) → (bytesT l).length ≤ 201 * l.length
  | [], _ => Nat.zero_le _
  | x :: r, h => by
    have h1 := bytesT_len r fun t ht => h t (List.mem_cons_of_mem _ ht)
    have h2 := h x (List.mem_cons_self ..)
    unfold bytesT at h1 ⊢
    rw [List.flatMap_cons, List.length_append, List.length_append, List.length_cons, List.length_cons, List.length_nil]
    omega
theorem lineT_len (l : List Tx) : (lineT l).length ≤ 200 := cut2_len _
theorem linesT_200 (L : List O) (v : ViV) : ∀ t ∈ linesT L v, t.length ≤ 200 := by
  intro t ht
  unfold linesT framesT at ht
  simp only [List.mem_append, List.mem_cons, List.not_mem_nil, or_false, List.mem_map] at ht
  rcases ht with (((rfl | ⟨i, _, rfl⟩) | ⟨s, _, rfl⟩) | ⟨s, _, rfl⟩) | rfl <;> exact lineT_len _
theorem linesT_n (L : List O) (v : ViV) : (linesT L v).length = 2 + v.frames.length + (tailT v.out).length + v.stops.length := by
  unfold linesT framesT
  simp only [List.length_append, List.length_cons, List.length_nil, List.length_map, List.length_range]
  omega
end Go.Proofs.YtgcfomhlgipllaaGreatDoor
namespace Go.Proofs.YtgcfomhlgipllaaGreatDoor
open Go Go.Sx
set_option maxHeartbeats 4000000 in
theorem Bytes_spec (g : Nat) (most : Int) (used : Nat) (ao : Option Addr) (c : Nat) (l : List Ob) (hl4 : l.length ≤ 4096) (hL : okHeap (l.map Ob.o)) (v : ViV) (hv : v.ok) :
    Does Tryz.prog 33 [.agg (viC v).toArray, .pointer (some ⟨g, 0, none⟩)] [ro (some ⟨g, 0, none⟩) [.bool true, .int .i64 most, .int .i64 used, .slice ao l.length c], ro ao (l.flatMap objC), gBag l, gPow, ro v.fa (v.frames.flatMap frC), gFr v.frames, ro v.sa (v.stops.flatMap spC)]
      (fun r hp' => if viewB l.length v = true then ∃ a' c', r = .tuple #[.slice a' (bytesT (linesT (l.map Ob.o) v)).length c', .int .i64 0] ∧ hp' = [row 5 1 a' (bytesT (linesT (l.map Ob.o) v)).length c' (u8s (bytesT (linesT (l.map Ob.o) v)))] else r = .tuple #[.slice none 0 0, .int .i64 2] ∧ hp' = []) := by
  have hLn := Lines_spec g most used ao c l hl4 hL v hv
  rw [show viC v = [.int .i64 v.pos, .int .i64 v.status, .int .i64 v.fault, .slice v.fa v.frames.length v.fc, .string (mkS v.out), .int .i64 v.sel, .slice v.sa v.stops.length v.sc, .int .i64 v.err, .int .i64 v.n, .string (mkS v.says)] from rfl] at hLn ⊢
  have h200 := linesT_200 (l.map Ob.o) v
  have hn := linesT_n (l.map Ob.o) v
  have ht4 := tail_four v.out
  have hf := hv.2.2.2.1
  have hst := hv.2.2.2.2.2.2.2.1
  obtain ⟨T, hT⟩ : ∃ T, T = linesT (l.map Ob.o) v := ⟨_, rfl⟩
  rw [← hT] at hLn h200 hn ⊢
  have hb := bytesT_len T h200
  have hjb := join_bytes T
  refine fn_enter Tryz.func33 rfl 23 rfl fun w0 h0 => ?_
  refine SQ (RG ?_)
  refine RP [] (.d .a) 2 (.d (.k .a)) .a 76 [.int .i64 v.pos, .int .i64 v.status, .int .i64 v.fault, .slice v.fa v.frames.length v.fc, .string (mkS v.out), .int .i64 v.sel, .slice v.sa v.stops.length v.sc, .int .i64 v.err, .int .i64 v.n, .string (mkS v.says)] fun g1 => ?_
  refine RR [] .z (.i 5 (.int .i64 0) (.i 4 (.slice none 0 0) .a)) .a ?_
  refine RZ (NT (SQ (RG ?_)))
  refine RR [7, 7, 7, 7, 7, 7, 7, 7, 7, 7] (.d (.d .a)) (.i 10 (.pointer (some ⟨g, 0, none⟩)) (.i 9 (.agg #[.int .i64 v.pos, .int .i64 v.status, .int .i64 v.fault, .slice v.fa v.frames.length v.fc, .string (mkS v.out), .int .i64 v.sel, .slice v.sa v.stops.length v.sc, .int .i64 v.err, .int .i64 v.n, .string (mkS v.says)]) (.k (.k .z)))) .a ?_
  refine RCG (dst := some 11) .a (hLn) (GV (GV (GV (GV (GV (GV (GV (GI []) 6 view_ro) 5 view_self) 4 view_ro) 3 view_gPow) 2 view_self) 1 view_ro) 0 view_ro) ?_
  rintro r _ h
  cases hvb : viewB l.length v with
  | false =>
    rw [hvb, if_neg (by decide)] at h
    obtain ⟨rfl, rfl⟩ := h
    refine RR [] .z (.i 7 (.int .i64 2) (.i 6 (.slice none 0 0) (.d (.d (.d (.k .a)))))) .a ?_
    refine RZ (NT (SQ (SQ (RG ?_))))
    refine RR [] .z (.i 15 (.bool true) .a) .a ?_
    refine RZ (NT (CT (SQ (RG ?_))))
    refine RR [] .z (.i 5 (.int .i64 2) (.i 4 (.slice none 0 0) (.d (.d (.k .z))))) .a ?_
    refine RZ (NT (RE (TR ?_)))
    refine NE [] .z .a [] (.tuple #[.slice none 0 0, .int .i64 2]) ?_
    rw [if_neg (by decide)]
    exact ⟨rfl, rfl⟩
  | true =>
    rw [hvb, if_pos rfl] at h
    obtain ⟨a1, c1, rfl, rfl⟩ := h
    refine RR [] .z (.i 7 (.int .i64 0) (.i 6 (.slice a1 T.length c1) (.d (.d (.d (.k .a)))))) .a ?_
    refine RZ (NT (SQ (SQ (RG ?_))))
    refine RR [] .z (.i 15 (.bool false) .a) .a ?_
    refine RZ (NT (CF (SK (NT (SQ (RG ?_))))))
    refine RN [] (.d (.d .a)) 18 (fun g2 => (.slice (some ⟨g2, 0, none⟩) 1 1)) (.i 17 (.slice a1 T.length c1) (.d (.d (.d (.k .a))))) .a 9 [.string ⟨#[]⟩] fun g2 => ?_
    refine RN [] (.d .a) 19 (fun g3 => (.slice (some ⟨g3, 0, none⟩) 2 2)) (.d (.d (.k .a))) .a 22 [.slice a1 T.length c1, .slice (some ⟨g2, 0, none⟩) 1 1] fun g3 => ?_
    refine wpr_ent (ent_turn 9 (ro (some ⟨g2, 0, none⟩) (strsC [[]])) rfl (turn_rblk (strs_one [[]])) rfl) ?_
    refine wpr_ent (ent_turn 10 (ro (some ⟨g3, 0, none⟩) [.slice a1 T.length c1, .slice (some ⟨g2, 0, none⟩) 1 1]) rfl (turn_rblk (one_of rfl)) rfl) ?_
    refine wpr_fact (fun w h => row_addr h 0 rfl (by omega)) ?_
    rintro ⟨gx, ox, rfl⟩
    refine RCG (dst := some 20) .a (Concat_spec g3 (some ⟨gx, ox, none⟩) (some ⟨g2, 0, none⟩) c1 1 T [[]] (fun e => by cases e) (fun e => by cases e) (by simp; omega)) (GV (GV (GV (GI []) 9 view_ro) 0 view_row) 10 view_ro) ?_
    rintro r _ ⟨a2, c2, rfl, rfl⟩
    have hTl : (T ++ [[]]).length = T.length + 1 := by simp
    refine wpr_fact (fun w h => row_cap h 0 rfl) ?_
    rintro ⟨-, hc2, -⟩
    have hJ := JoinS_spec a2 c2 (T ++ [[]]) [10] (by omega) hc2 (by rw [hjb]; omega)
    rw [hjb] at hJ
    obtain ⟨B, hB⟩ : ∃ B, B = bytesT T := ⟨_, rfl⟩
    rw [← hB] at hJ hb ⊢
    have hBz : (mkS B).size = B.length := mkS_size _
    refine RCG (dst := some 21) .a (hJ) (GV (GI []) 0 view_row) ?_
    rintro r _ ⟨rfl, rfl⟩
    refine wpr_s2b (a := 9) (b := 39) (e := 5) (dst := some 22) B (by kernel_rfl) (by kernel_rfl) (by unfold maxLen; first | omega | decide) ?_
    intro gb cb
    refine RR [] .z (.d (.d (.d (.d (.k (.i 4 (.slice (some ⟨gb, 0, none⟩) (List.length B) cb) .z)))))) .a ?_
    refine RZ (NT (RE ?_))
    refine NE [12] (.d (.d (.d (.d (.d (.d (.d (.d (.d (.d (.d (.d (.k .a))))))))))))) (.k (.k (.k (.k (.k (.k (.k (.k (.k (.k (.k (.k .z)))))))))))) [] (.tuple #[.slice (some ⟨gb, 0, none⟩) (List.length B) cb, .int .i64 0]) ?_
    rw [if_pos rfl]
    exact ⟨some ⟨gb, 0, none⟩, cb, rfl, rfl⟩
end Go.Proofs.YtgcfomhlgipllaaGreatDoor
namespace Go.Proofs.YtgcfomhlgipllaaGreatDoor
open Go Go.Sx
theorem cell_right {m : Int} {v : V} (h : cellB m v = true) : rightB v m = true := by
  unfold cellB at h; simp only [Bool.and_eq_true] at h; exact h.2
theorem ok_load {l : List Ob} (h : okObs l.length l = true) (hs : smO l) (hi : ∀ o ∈ l, ∀ v ∈ o.cells, v.i64) : okHeap (l.map Ob.o) := fun o ho => by
  obtain ⟨x, hx, rfl⟩ := List.mem_map.1 ho
  obtain ⟨h1, h2, h3, h4⟩ := hs x hx
  refine ⟨h1, h3, fun v hv => ⟨h4 v hv, hi x hx v hv, ?_⟩⟩
  rw [List.length_map]
  have h5 := List.all_eq_true.1 h x hx
  unfold objB at h5
  simp only [Bool.and_eq_true] at h5
  exact cell_right (List.all_eq_true.1 h5.2 v hv)
end Go.Proofs.YtgcfomhlgipllaaGreatDoor
namespace Go.Proofs.YtgcfomhlgipllaaGreatDoor
open Go Go.Sx
theorem most4 : mostI 4096 ≤ 4096 := by decide
theorem used_len {l : List Ob} (h : (usedN (l.map Ob.n) : Int) ≤ mostI 4096) : l.length ≤ 4096 := by
  have h1 := len_le_used (l.map Ob.n)
  have h2 := most4
  rw [List.length_map] at h1
  omega
end Go.Proofs.YtgcfomhlgipllaaGreatDoor
namespace Go.Proofs.YtgcfomhlgipllaaGreatDoor
open Go Go.Sx
theorem vals_C : ∀ l : List V3, l.flatMap valS.C = (l.map toV).flatMap valC
  | [] => rfl
  | x :: l => by rw [List.flatMap_cons, vals_C l]; rfl
theorem valS_sm {x : V3} (h : valS.B x ≤ 1048576) : (toV x).sm := by
  have : valS.B x = 1 + (1 + (x.2.2.length + 1)) + 1 := rfl
  show x.2.2.length ≤ 1048576
  omega
theorem valS_i64 {x : V3} (h : valS.V x) : (toV x).i64 := wf_i64 h.2.1
theorem valS_B (x : V3) : 1 ≤ valS.B x := by
  have : valS.B x = 1 + (1 + (x.2.2.length + 1)) + 1 := rfl
  omega
abbrev Ob2 := List UInt8 × Sl V3
def obS : Shape Ob2 := upS (pairS strS (sliceS valS))
theorem opens_ob : Opens Tryz.prog 83 2 obS :=
  opens_struct Tryz.underlying83 (by kernel_rfl) (opensFs_cons (off := 0) (k := 1) (m := 1) (opens_str Tryz.underlying9 (by kernel_rfl)) rfl (by kernel_rfl) (opensFs_one (opens_slice Tryz.underlying81 (by kernel_rfl) opens_val) rfl))
theorem opens_obs : Opens Tryz.prog 80 1 (sliceS obS) := opens_slice Tryz.underlying80 (by kernel_rfl) opens_ob
def toOb (x : Ob2) : Ob := ⟨x.1, x.2.1, x.2.2.1, x.2.2.2.map toV⟩
theorem obS_C (x : Ob2) : obS.C x = objC (toOb x) := by
  show [Value.string (mkS x.1)] ++ [Value.slice x.2.1 x.2.2.2.length x.2.2.1] = _
  simp [objC, toOb]
theorem obs_C : ∀ l : List Ob2, l.flatMap obS.C = (l.map toOb).flatMap objC
  | [] => rfl
  | x :: l => by rw [List.flatMap_cons, obs_C l, obS_C]; rfl
theorem obs_hold {x : Sl Ob2} {w : World} (h : (deep (sliceS obS) x).holds w) : (ro x.1 ((x.2.2.map toOb).flatMap objC)).holds w ∧ (gBag (x.2.2.map toOb)).holds w := by
  refine ⟨?_, fun c hc => ?_⟩
  · have h3 := view_flat.holds w h
    rwa [obs_C] at h3
  · obtain ⟨t, ht, rfl⟩ := List.mem_map.1 hc
    obtain ⟨z, hz, rfl⟩ := List.mem_map.1 ht
    have h4 : (deep obS z).holds w := (view_elem hz).holds w h
    have h5 : (deep (sliceS valS) z.2).holds w := h4.2
    have h6 := view_flat.holds w h5
    rw [vals_C] at h6
    exact h6
theorem obS_B (x : Ob2) : obS.B x = x.1.length + 1 + (sumB valS x.2.2.2 + 1) + 1 := rfl
theorem obs_used (l : List Ob2) : usedO ((l.map toOb).map Ob.o) ≤ sumB obS l := by
  induction l with
  | nil => exact Nat.zero_le _
  | cons x r ih =>
    have h1 : usedO (((x :: r).map toOb).map Ob.o) = (x.2.2.2.map toV).length + 1 + usedO ((r.map toOb).map Ob.o) := rfl
    have h2 := le_sumB valS valS_B x.2.2.2
    rw [h1, List.length_map]
    simp only [sumB, obS_B]; omega
theorem obs_ok {x : Sl Ob2} (hV : (sliceS obS).V x) (hB : (sliceS obS).B x ≤ 1048576) : smO (x.2.2.map toOb) ∧ (∀ o ∈ x.2.2.map toOb, ∀ v ∈ o.cells, v.i64) ∧ (x.2.2.map toOb).length ≤ 1048576 ∧ usedO ((x.2.2.map toOb).map Ob.o) ≤ 1048576 := by
  have hB2 : sumB obS x.2.2 + 1 ≤ 1048576 := hB
  have hl := le_sumB obS (fun y => by rw [obS_B]; omega) x.2.2
  have hu := obs_used x.2.2
  refine ⟨fun o ho => ?_, fun o ho v hv => ?_, by rw [List.length_map]; omega, by omega⟩
  · obtain ⟨z, hz, rfl⟩ := List.mem_map.1 ho
    have h1 := mem_sumB obS x.2.2 z hz
    rw [obS_B] at h1
    have h2 := le_sumB valS valS_B z.2.2.2
    have h3 := hV.2.2.2 z hz
    have h4 : (z.2.2.2.map toV).length = z.2.2.2.length := List.length_map ..
    refine ⟨by show z.1.length ≤ _; omega, by show (z.2.2.2.map toV).length ≤ z.2.2.1; rw [h4]; exact h3.2.2.1, by show (z.2.2.2.map toV).length ≤ _; omega, fun u hu => ?_⟩
    obtain ⟨y, hy, rfl⟩ := List.mem_map.1 hu
    exact valS_sm (by have := mem_sumB valS z.2.2.2 y hy; omega)
  · obtain ⟨z, hz, rfl⟩ := List.mem_map.1 ho
    obtain ⟨y, hy, rfl⟩ := List.mem_map.1 hv
    exact valS_i64 ((hV.2.2.2 z hz).2.2.2.2 y hy)
theorem does_ro {P : Program} {f : FuncId} {args : List Value} {pre pre' : Hp} {R : Value → Hp → Prop} (h : Does P f args pre R) (hold : ∀ w, HS pre' w → ∀ c ∈ pre, c.holds w) (hn : ∀ c ∈ pre, ¬ c.rw) : Does P f args pre' R :=
  h.pre (fun w hw => Go.Sx.hs_ro (hold w hw) hn) (fun k ⟨d, hd, hr, _⟩ => (hn d hd hr).elim)
def strData {H : Type} (l : List (List UInt8)) : DataW H := .agg (l.map fun s => .lit (.string s))
theorem cells_of_strs {H : Type} {enc : TypeId × Value → H} {P : Program} {w : World} {base : Nat} {sp : Nat → Bool} {held : Bool} {fuel : Nat} {t e : TypeId} {n : Nat} {cs : List Value} {zs : List (List UInt8)} {p : List MemPlace}
    (ht : P.underlying t = some (.array n e)) (he : P.underlying e = some .string) (hce : P.cellsOf e = 1) (hct : P.cellsOf t = n)
    (h : DataW.trod enc P w base sp held fuel t cs = some (strData zs, p)) : cs = zs.map strV := by
  cases fuel with
  | zero => simp [DataW.trod] at h
  | succ fuel =>
    simp only [DataW.trod, ht, hce, hct, Nat.mul_one] at h
    split at h
    · rename_i hl
      obtain ⟨xs, hm, hx⟩ := Option.map_eq_some_iff.1 h
      have hxs : xs.map (·.1) = zs.map fun z => (DataW.lit (.string z) : DataW H) := by
        have := congrArg Prod.fst hx
        simpa [strData] using this
      have hxl : xs.length = n := by simpa using Lib.mapM_length hm
      have hzl : zs.length = n := by
        have := congrArg List.length hxs
        simp at this
        omega
      apply List.ext_getElem?
      intro i
      by_cases hi : i < n
      · obtain ⟨b, hb, hf⟩ := Lib.mapM_at hm i i (by simp [hi])
        obtain ⟨z, hc, rfl, _⟩ := DataW.trod_string he hf
        have h1 : cs[i]? = some (.string z) := by
          have := congrArg (·[0]?) hc
          simpa [List.getElem?_take, List.getElem?_drop] using this
        have h2 : (xs.map (·.1))[i]? = some (DataW.lit (.string z.data.toList) : DataW H) := by simp [hb]
        rw [hxs] at h2
        simp only [List.getElem?_map, Option.map_eq_some_iff, DataW.lit.injEq, Lit.string.injEq] at h2
        obtain ⟨z', hz', rfl⟩ := h2
        simp [h1, hz', strV, mkS]
      · rw [List.getElem?_eq_none (by omega), List.getElem?_eq_none (by simp; omega)]
    · cases h
theorem strs_of_head {P : Program} {W : World} {name : String} {zs : List (List UInt8)} {rest : List (String × DataW Unit)} {g : Nat} {t e : TypeId} {n : Nat}
    (hg : P.globalNamed name = some g) (hty : (P.globals[g]?).map (·.type) = some t) (ht : P.underlying t = some (.array n e)) (he : P.underlying e = some .string) (hce : P.cellsOf e = 1) (hct : P.cellsOf t = n)
    (h : laidMet P ((name, strData zs) :: rest) W) : W.var? P name = some (zs.map strV).toArray := by
  obtain ⟨ps, ⟨g', t', cs, fuel, p, q, hg', ht', hvar, hd, _, _⟩, _⟩ := h
  obtain rfl := Option.some.inj (hg.symm.trans hg')
  obtain rfl := Option.some.inj (hty.symm.trans ht')
  rw [hvar, ← cells_of_strs ht he hce hct hd]
theorem cells_of_var {W : World} {name : String} {g : Nat} {zs : List (List UInt8)} (hg : Tryz.prog.globalNamed name = some g) (h3 : W.var? Tryz.prog name = some (zs.map strV).toArray) : (ro (some ⟨g, 0, none⟩) (zs.map strV)).holds W := by
  refine ⟨fun u hu => (by obtain ⟨x, _, rfl⟩ := List.mem_map.1 hu; rfl), ?_⟩
  show cellsAt W _ _
  intro j u hj
  have h4 := World.var?_cell (i := j) hg h3
  have hadd : (⟨g, 0, none⟩ : Addr).add j = ⟨g, 0 + j, none⟩ := by unfold Addr.add; split <;> simp_all
  rw [hadd, Nat.zero_add, h4]
  simpa using hj
theorem words_in {W : World} (h : laidMet Tryz.prog laidL W) : gWords.holds W := by
  have h2 := h.tail.tail.tail.tail
  have h3 := strs_of_head (g := 2) (t := 250) (e := 9) (n := 10) (zs := wordsL) (by kernel_rfl) (by kernel_rfl) (by kernel_rfl) (by kernel_rfl) (by kernel_rfl) (by kernel_rfl) h2
  exact cells_of_var (by kernel_rfl) h3
theorem biS_C : ∀ l : List Bi4, l.flatMap biS.C = (l.map toBi).flatMap biC
  | [] => rfl
  | x :: l => by rw [List.flatMap_cons, biS_C l]; rfl
theorem frS_C1 (x : Fr3) : frS.C x = frC (toFr x) := by
  show [Value.string (mkS x.1)] ++ ([Value.int .i64 x.2.1] ++ [Value.slice x.2.2.1 x.2.2.2.2.length x.2.2.2.1]) = _
  simp [frC, toFr]
theorem frS_C : ∀ l : List Fr3, l.flatMap frS.C = (l.map toFr).flatMap frC
  | [] => rfl
  | x :: l => by rw [List.flatMap_cons, frS_C l, frS_C1]; rfl
theorem spS_C : ∀ l : List Sp5, l.flatMap spS.C = (l.map toSp).flatMap spC
  | [] => rfl
  | x :: l => by rw [List.flatMap_cons, spS_C l]; rfl
theorem biS_B (x : Bi4) : biS.B x = (x.1.length + 1) + valS.B x.2 + 1 := rfl
theorem frS_B (x : Fr3) : frS.B x = (x.1.length + 1) + (1 + (sumB biS x.2.2.2.2 + 1)) + 1 := rfl
theorem spS_B (x : Sp5) : spS.B x = 1 + (1 + ((x.2.2.1.length + 1) + ((x.2.2.2.1.length + 1) + 1))) + 1 := rfl
theorem viS_B (x : Vi4) : viS.B x = (1 + (1 + (1 + ((sumB frS x.1.2.2.2.1.2.2 + 1) + (x.1.2.2.2.2.length + 1)))) + 1) + (1 + ((sumB spS x.2.2.1.2.2 + 1) + (1 + (1 + (x.2.2.2.2.2.length + 1)) + 1))) + 1 := rfl
theorem vi_hold {x : Vi4} {w : World} (h : (deep viS x).holds w) : ∀ c ∈ viHp (toVi x), c.holds w := by
  have h1 : (deep (sliceS frS) x.1.2.2.2.1).holds w := h.1.2.2.2.1
  have h2 : (deep (sliceS spS) x.2.2.1).holds w := h.2.2.1
  have f1 := view_flat.holds w h1
  have f2 := view_flat.holds w h2
  rw [frS_C] at f1
  rw [spS_C] at f2
  intro c hc
  simp only [viHp, List.mem_cons, List.not_mem_nil, or_false] at hc
  rcases hc with rfl | rfl | rfl
  · exact f1
  · intro d hd
    obtain ⟨t, ht, rfl⟩ := List.mem_map.1 hd
    obtain ⟨z, hz, rfl⟩ := List.mem_map.1 ht
    have h4 : (deep frS z).holds w := (view_elem hz).holds w h1
    have h5 : (deep (sliceS biS) z.2.2).holds w := h4.2.2
    have f5 := view_flat.holds w h5
    rw [biS_C] at f5
    exact f5
  · exact f2
theorem fr_ok {x : Fr3} (hV : frS.V x) (hB : frS.B x ≤ 1048576) : (toFr x).ok := by
  rw [frS_B] at hB
  obtain ⟨-, v1, v2⟩ := hV
  have l1 := le_sumB biS (fun y => by rw [biS_B]; omega) x.2.2.2.2
  refine ⟨by show x.1.length ≤ _; omega, wf_i64 v1, by show (x.2.2.2.2.map toBi).length ≤ _; rw [List.length_map]; omega, fun b hb => ?_⟩
  obtain ⟨z, hz, rfl⟩ := List.mem_map.1 hb
  have h1 := mem_sumB biS x.2.2.2.2 z hz
  rw [biS_B] at h1
  exact ⟨by show z.1.length ≤ _; omega, valS_sm (by omega), valS_i64 (v2.2.2.2 z hz).2⟩
theorem vi_ok {x : Vi4} (hV : viS.V x) (hB : viS.B x ≤ 1048576) : (toVi x).ok := by
  rw [viS_B] at hB
  obtain ⟨⟨v1, v2, v3, v4, -⟩, v5, v6, v7, v8, -⟩ := hV
  have l1 := le_sumB frS (fun y => by rw [frS_B]; omega) x.1.2.2.2.1.2.2
  have l2 := le_sumB spS (fun y => by rw [spS_B]; omega) x.2.2.1.2.2
  refine ⟨wf_i64 v1, wf_i64 v2, wf_i64 v3, by show (x.1.2.2.2.1.2.2.map toFr).length ≤ _; rw [List.length_map]; omega, fun f hf => ?_, by show x.1.2.2.2.2.length ≤ _; omega, wf_i64 v5, by show (x.2.2.1.2.2.map toSp).length ≤ _; rw [List.length_map]; omega, fun s hs => ?_, wf_i64 v7, wf_i64 v8, by show x.2.2.2.2.2.length ≤ _; omega⟩
  · obtain ⟨z, hz, rfl⟩ := List.mem_map.1 hf
    exact fr_ok (v4.2.2.2 z hz) (by have := mem_sumB frS x.1.2.2.2.1.2.2 z hz; omega)
  · obtain ⟨z, hz, rfl⟩ := List.mem_map.1 hs
    have h1 := mem_sumB spS x.2.2.1.2.2 z hz
    rw [spS_B] at h1
    have h2 := v6.2.2.2 z hz
    exact ⟨wf_i64 h2.1, wf_i64 h2.2.1, by show z.2.2.1.length ≤ _; omega, by show z.2.2.2.1.length ≤ _; omega⟩
end Go.Proofs.YtgcfomhlgipllaaGreatDoor
namespace Go.Proofs.YtgcfomhlgipllaaGreatDoor
open Go Go.Sx
/-! An object more, to which nothing leads, is nothing to what is shown. -/
theorem sepP_congr {f g : V → List UInt8} {cs : List V} (h : ∀ v ∈ cs, f v = g v) {i : Nat} (hi : i ≤ cs.length) : sepP f cs i = sepP g cs i := by
  unfold sepP
  congr 1
  apply List.map_congr_left
  intro j hj
  have hj2 := List.mem_range.1 hj
  rw [val_at (by omega : j < cs.length), h _ (List.getElem_mem _)]
theorem objT_congr {f g : V → List UInt8} {o : O} (h : ∀ v ∈ o.2, f v = g v) : objT f o = objT g o := by
  have h1 : cellsT f o.2 = cellsT g o.2 := by
    unfold cellsT
    split
    · rw [sepP_congr h (by omega)]
    · rw [sepP_congr h (Nat.le_refl _)]
  unfold objT
  rw [h1]
theorem txt_more {L : List O} (hL : okHeap L) (M : List O) : ∀ (d : Nat) (v : V), rightB v L.length = true → txt (L ++ M) d v = txt L d v
  | 0, v, h => by unfold txt; rfl
  | d + 1, v, h => by
    unfold txt
    by_cases h0 : v.k = 0
    · rw [if_pos h0, if_pos h0]
    rw [if_neg h0, if_neg h0]
    by_cases h1 : v.k = 1
    · rw [if_pos h1, if_pos h1]
    rw [if_neg h1, if_neg h1]
    by_cases h2 : v.k = 2
    · rw [if_pos h2, if_pos h2]
    rw [if_neg h2, if_neg h2]
    by_cases h3 : v.k = 3
    · rw [if_pos h3, if_pos h3]
    rw [if_neg h3, if_neg h3]
    have h4 : v.k = 4 := by rcases right_kind h with h | h | h | h | h <;> first | exact h | contradiction
    obtain ⟨n0, n1⟩ := right_ref h h4
    have hlt : v.n.toNat < L.length := by omega
    have ho : objAt (L ++ M) v = objAt L v := by
      unfold objAt
      rw [List.getD_eq_getElem?_getD, List.getD_eq_getElem?_getD, List.getElem?_append_left hlt]
    rw [ho]
    have hm := hL _ (objAt_mem hlt)
    exact objT_congr fun x hx => txt_more hL M d x (hm.2.2 x hx).2.2
theorem right_more {v : V} {m n : Nat} (h : rightB v m = true) (hmn : m ≤ n) : rightB v n = true := by
  by_cases hk : v.k = 4
  · unfold rightB at h ⊢
    rw [if_neg (by omega), if_neg (by omega), if_neg (by omega), if_neg (by omega), if_pos hk] at h ⊢
    simp only [Bool.and_eq_true, decide_eq_true_eq] at h ⊢
    exact ⟨h.1, by omega⟩
  · rw [← right_zero (n : Int) hk, right_zero (m : Int) hk]; exact h
theorem showT_more {L : List O} (hL : okHeap L) (M : List O) {v : V} (h : rightB v L.length = true) : showT (L ++ M) v = showT L v := by
  unfold showT
  rw [if_pos h, if_pos (right_more h (by rw [List.length_append]; omega)), txt_more hL M 2 v h]
theorem frame_more {L : List O} (hL : okHeap L) (M : List O) (mark : Tx) {f : FrV} (h : frameB L.length f = true) : frameT (L ++ M) mark f = frameT L mark f := by
  unfold frameT
  have e : f.vars.flatMap (biT (L ++ M)) = f.vars.flatMap (biT L) := by
    unfold frameB at h
    rw [List.flatMap, List.flatMap, List.map_congr_left]
    intro b hb
    unfold biT
    rw [showT_more hL M (List.all_eq_true.1 h b hb)]
  rw [e]
theorem lines_more {L : List O} (hL : okHeap L) (M : List O) {v : ViV} (h : v.frames.all (frameB L.length) = true) : linesT (L ++ M) v = linesT L v := by
  have e : framesT (L ++ M) v.sel v.frames = framesT L v.sel v.frames := by
    unfold framesT
    apply List.map_congr_left
    intro i hi
    have hi2 := List.mem_range.1 hi
    exact frame_more hL M _ (List.all_eq_true.1 h _ (inFr_mem hi2))
  unfold linesT
  rw [e]
end Go.Proofs.YtgcfomhlgipllaaGreatDoor
namespace Go.Proofs.YtgcfomhlgipllaaGreatDoor
open Go Go.Sx
theorem LoadE (ao : Option Addr) (c : Nat) (l : List Ob) (hl : l.length ≤ 1048576) (hs : smO l) (hi : ∀ o ∈ l, ∀ x ∈ o.cells, x.i64) :
    Does Tryz.prog 34 [.int .i64 4096, .slice ao l.length c] [ro ao (l.flatMap objC), gBag l, gWords]
      (fun r hp' => (∃ e, r = .tuple #[.pointer none, .int .i64 e] ∧ hp' = []) ∨
        (∃ (g : Nat) (a' : Option Addr) (c' : Nat) (l' : List Ob) (ud : Nat), l'.map Ob.o = l.map Ob.o ∧ okHeap (l'.map Ob.o) ∧ l'.length ≤ 4096 ∧ r = .tuple #[.pointer (some ⟨g, 0, none⟩), .int .i64 0] ∧ hp' = [.blk g 198 [.bool true, .int .i64 (mostI 4096), .int .i64 (ud : Int), .slice a' l'.length c'], row 83 2 a' l'.length c' (l'.flatMap objC), star (l'.map obRow)])) :=
  (Load_spec 4096 ao c l hl hs).mono fun r hp' h => by
    by_cases hok : okObs l.length l = true
    · rw [if_neg (by rw [hok]; decide)] at h
      by_cases hu : (usedN (l.map Ob.n) : Int) ≤ mostI 4096
      · rw [if_pos hu] at h
        obtain ⟨g, a', c', l', hm, rfl, rfl⟩ := h
        refine .inr ⟨g, a', c', l', usedN (l'.map Ob.n), hm, by rw [hm]; exact ok_load hok hs hi, ?_, rfl, rfl⟩
        have h1 := used_len hu
        have h2 := congrArg List.length hm
        rw [List.length_map, List.length_map] at h2
        omega
      · rw [if_neg hu] at h
        exact .inl ⟨_, h⟩
    · rw [if_pos (by simpa using hok)] at h
      exact .inl ⟨_, h⟩
end Go.Proofs.YtgcfomhlgipllaaGreatDoor
namespace Go.Proofs.YtgcfomhlgipllaaGreatDoor
open Go Go.Sx
theorem ex_viewX (m : Nat) (gi gn gf gs : Nat) : viewB m (exV gi gn gf gs) = true := by rfl
theorem exLinesX (gi gn gf gs g : Nat) (most : Int) (used : Nat) (ao : Option Addr) (c : Nat) (l : List Ob) (hl4 : l.length ≤ 4096) (hL : okHeap (l.map Ob.o)) : Does Tryz.prog 32 [exA gf gs, .pointer (some ⟨g, 0, none⟩)] ([ro (some ⟨g, 0, none⟩) [.bool true, .int .i64 most, .int .i64 used, .slice ao l.length c], ro ao (l.flatMap objC), gBag l, gPow] ++ exHp gi gn gf gs)
    (fun r hp' => ∃ a' n c' T, r = .tuple #[.slice a' n c', .int .i64 0] ∧ hp' = [row 9 1 a' n c' T]) := by
  have hL := Lines_spec g most used ao c l hl4 hL (exV gi gn gf gs) (exV_ok gi gn gf gs)
  refine Does.ent2 hL (fun Γ => ?_) (fun r hp' h => ?_)
  · intro a w hS
    have hS := ent_hp [4, 4, 4, 4, 0, 0, 0, 0] rfl _ _ hS
    have h1 := ent_turn 0 (ro (some ⟨gi, 0, none⟩) (([⟨[105], ⟨1, 0, []⟩⟩] : List Bi).flatMap biC)) rfl (turn_rblk (one_of rfl)) rfl _ _ hS
    have h2 := ent_turn 1 (ro (some ⟨gn, 0, none⟩) (([⟨[110], ⟨1, 1, []⟩⟩] : List Bi).flatMap biC)) rfl (turn_rblk (one_of rfl)) rfl _ _ h1
    have h3 := ent_turn 2 (ro (some ⟨gf, 0, none⟩) ((exFr gi gn).flatMap frC)) rfl (turn_rblk (one_of rfl)) rfl _ _ h2
    have h4 := ent_turn 3 (ro (some ⟨gs, 0, none⟩) ((exV gi gn gf gs).stops.flatMap spC)) rfl (turn_rblk (one_of rfl)) rfl _ _ h3
    have h6 := ent_bag (hp := [ro (some ⟨gi, 0, none⟩) (([⟨[105], ⟨1, 0, []⟩⟩] : List Bi).flatMap biC), ro (some ⟨gn, 0, none⟩) (([⟨[110], ⟨1, 1, []⟩⟩] : List Bi).flatMap biC)]) (rest := [ro (some ⟨gf, 0, none⟩) ((exFr gi gn).flatMap frC), ro (some ⟨gs, 0, none⟩) ((exV gi gn gf gs).stops.flatMap spC), ro (some ⟨g, 0, none⟩) [.bool true, .int .i64 most, .int .i64 used, .slice ao l.length c], ro ao (l.flatMap objC), gBag l, gPow]) _ _ h4
    exact ent_hp [3, 3, 3, 3, 1, 0, 0] rfl _ _ h6
  · rw [ex_viewX, if_pos rfl] at h
    obtain ⟨a', c', rfl, rfl⟩ := h
    exact ⟨_, ⟨a', _, c', _, rfl, rfl⟩, fun Γ a w h => h, fun c hc => by rw [List.mem_singleton.1 hc]; trivial⟩
end Go.Proofs.YtgcfomhlgipllaaGreatDoor
namespace Go.Proofs.YtgcfomhlgipllaaGreatDoor
open Go Go.Sx
abbrev HX := Option (Nat × Option Addr × Nat × List Ob × Nat)
def hpX : HX → Hp
  | none => []
  | some y => [.blk y.1 198 [.bool true, .int .i64 (mostI 4096), .int .i64 (y.2.2.2.2 : Int), .slice y.2.1 y.2.2.2.1.length y.2.2.1], row 83 2 y.2.1 y.2.2.2.1.length y.2.2.1 (y.2.2.2.1.flatMap objC), star (y.2.2.2.1.map obRow)]
def ptX : HX → Option Addr
  | none => none
  | some y => some ⟨y.1, 0, none⟩
def okX (L : List O) : HX → Prop
  | none => True
  | some y => y.2.2.2.1.map Ob.o = L ∧ okHeap L ∧ y.2.2.2.1.length ≤ 4096
theorem LoadX (ao : Option Addr) (c : Nat) (l : List Ob) (hl : l.length ≤ 1048576) (hs : smO l) (hi : ∀ o ∈ l, ∀ x ∈ o.cells, x.i64) :
    Does Tryz.prog 34 [.int .i64 4096, .slice ao l.length c] [ro ao (l.flatMap objC), gBag l, gWords]
      (fun r hp' => ∃ (x : HX) (e : Int), okX (l.map Ob.o) x ∧ r = .tuple #[.pointer (ptX x), .int .i64 e] ∧ hp' = [star (hpX x)]) := by
  refine Does.ent2 (LoadE ao c l hl hs hi) (fun Γ a w h => h) (fun r hp' h => ?_)
  rcases h with ⟨e, rfl, rfl⟩ | ⟨g, a', c', l', ud, hm, hok, hl4, rfl, rfl⟩
  · exact ⟨_, ⟨none, e, trivial, rfl, rfl⟩, fun Γ => ent_star (hp := []) (rest := []) (fun c hc => by cases hc), fun c hc => by rw [List.mem_singleton.1 hc]; trivial⟩
  · refine ⟨_, ⟨some (g, a', c', l', ud), 0, ⟨hm, hm ▸ hok, hl4⟩, rfl, rfl⟩, fun Γ => ent_star (hp := hpX (some (g, a', c', l', ud))) (rest := []) (fun c hc => ?_), fun c hc => by rw [List.mem_singleton.1 hc]; trivial⟩
    simp only [hpX, List.mem_cons, List.not_mem_nil, or_false] at hc
    rcases hc with rfl | rfl | rfl <;> trivial
theorem view_more {L : List O} {M : List O} {v : ViV} (h : v.frames.all (frameB L.length) = true) : v.frames.all (frameB (L ++ M).length) = true := by
  rw [List.all_eq_true] at h ⊢
  intro f hf
  have h1 := h f hf
  unfold frameB at h1 ⊢
  rw [List.all_eq_true] at h1 ⊢
  exact fun b hb => right_more (h1 b hb) (by rw [List.length_append]; omega)
theorem smO_snoc {l : List Ob} {m : Ob} (h : smO l) (hm : m.sm) : smO (l ++ [m]) := fun o ho => by
  rcases List.mem_append.1 ho with ho | ho
  · exact h o ho
  · rw [List.mem_singleton.1 ho]; exact hm
theorem i64_snoc {l : List Ob} {m : Ob} (h : ∀ o ∈ l, ∀ x ∈ o.cells, x.i64) (hm : ∀ x ∈ m.cells, x.i64) : ∀ o ∈ l ++ [m], ∀ x ∈ o.cells, x.i64 := fun o ho => by
  rcases List.mem_append.1 ho with ho | ho
  · exact h o ho
  · rw [List.mem_singleton.1 ho]; exact hm
theorem sameTexts_big (a1 : Option Addr) (c1 : Nat) (l1 : List Tx) (a2 : Option Addr) (c2 : Nat) (l2 : List Tx) (hl1 : l1.length ≤ 16777216) (hl2 : l2.length ≤ 16777216) :
    Does Tryz.prog 25 [.slice a1 l1.length c1, .slice a2 l2.length c2] [ro a1 (strsC l1), ro a2 (strsC l2)] (fun v hp' => v = .bool (decide (l1 = l2)) ∧ hp' = []) := by
  refine fn_enter Tryz.func25 rfl 26 rfl fun w0 h0 => ?_
  refine SQ (RG ?_)
  refine RR [] .z (.i 4 (.bool false) .a) .a ?_
  refine RZ (NT (SQ (SQ (RG ?_))))
  refine RR [] .z (.i 10 (.bool ((↑l1.length : Int) != (↑l2.length : Int))) .a) .a ?_
  refine RZ (NT ?_)
  by_cases hlen : ¬ l1.length = l2.length
  · rw [decide_eq_false (fun e => hlen (congrArg List.length e))]
    refine SC 10 ((↑l1.length : Int) != (↑l2.length : Int)) true (by simp only [bne_iff_ne, beq_iff_eq, ne_eq]; omega) ?_
    refine CT (SQ (RG ?_))
    refine RR [] .z (.d (.d (.k .a))) .a ?_
    refine RZ (NT (RE (TR ?_)))
    refine NE [] .z .a [] (.bool false) ?_
    exact ⟨rfl, rfl⟩
  rw [Decidable.not_not] at hlen
  refine SC 10 ((↑l1.length : Int) != (↑l2.length : Int)) false (by simp only [bne_eq_false_iff_eq, beq_eq_false_iff_ne, ne_eq]; omega) ?_
  refine CF (SK (NT (SQ (SQ (RG ?_)))))
  refine RR [] .z (.i 5 (.int .i64 0) (.d (.d (.k .a)))) .a ?_
  refine RZ (NT (BK ?_))
  refine wpc_loop (X := {i : Nat // i ≤ l1.length ∧ ∀ j, (h1 : j < l1.length) → (h2 : j < l2.length) → j < i → l1[j] = l2[j]}) (fun x => St.mk [(5, .int .i64 (x.1 : Int)), (4, .bool false), (0, .slice a1 l1.length c1), (1, .slice a2 l2.length c2)] [ro a1 (strsC l1), ro a2 (strsC l2)]) (fun x => l1.length - x.1) ⟨0, Nat.zero_le _, fun j _ _ h => absurd h (Nat.not_lt_zero _)⟩ (ent_fr (by kernel_rfl)) ?_
  rintro ⟨i, hi, hall⟩
  dsimp only at hi hall ⊢
  by_cases hlt : i < l1.length
  · have hlt2 : i < l2.length := by omega
    refine wpc_fact (fun w h => ro_addr h 0 rfl (by rw [strsC_len]; omega)) ?_
    rintro ⟨g1, o1, rfl⟩
    refine wpc_fact (fun w h => ro_addr h 1 rfl (by rw [strsC_len]; omega)) ?_
    rintro ⟨g2, o2, rfl⟩
    refine SQ (SQ (RG ?_))
    refine RR [] .z (.i 14 (.bool (decide ((↑i : Int) < (↑l1.length : Int)))) .a) .a ?_
    refine RZ (NT ?_)
    refine SC 14 (decide ((↑i : Int) < (↑l1.length : Int))) true (decide_eq_true (by omega)) ?_
    refine CT (SK (NT (SQ (BK (SQ ?_)))))
    refine wpc_draw (by kernel_rfl) [ro (some ⟨g1, o1, none⟩) (strsC l1), ro (some ⟨g2, o2, none⟩) (strsC l2)] (sub_of [0, 1] (by kernel_rfl)) 9 (by kernel_rfl) ?_
    refine wpa_take true [(0, []), (1, []), (2, []), (4, []), (5, []), (6, [])] ([(23, .pointer (some ⟨g2, o2 + i * 1, none⟩)), (19, .pointer (some ⟨g1, o1 + i * 1, none⟩)), (5, .int .i64 (↑i : Int)), (4, .bool false), (0, .slice (some ⟨g1, o1, none⟩) l1.length c1), (1, .slice (some ⟨g2, o2, none⟩) l2.length c2)]) (#[true, true, true, false, true, true, true, false, false]) [(0 : Int) ≤ (↑i : Int) ∧ (↑i : Int) < (↑l1.length : Int), (0 : Int) ≤ (↑i : Int) ∧ (↑i : Int) < (↑l2.length : Int)] (n := 3) (by kernel_rfl) (by kernel_rfl) (by kernel_rfl) ⟨by omega, by omega, trivial⟩ ?_
    refine wpa_qld (i := 3) (n := 2) (by kernel_rfl) (by kernel_rfl) (by kernel_rfl) (t := 9) (a := ⟨g1, o1 + i * 1, none⟩) (dst := some 20) (by kernel_rfl) false 1 (by kernel_rfl) (by simp) [.string (mkS l1[i])] rfl (fun w h => ld_roL h 0 rfl (i * 1) (strs_at hlt)) ?_
    refine wpa_qld (i := 7) (n := 1) (by kernel_rfl) (by kernel_rfl) (by kernel_rfl) (t := 9) (a := ⟨g2, o2 + i * 1, none⟩) (dst := some 24) (by kernel_rfl) false 1 (by kernel_rfl) (by simp) [.string (mkS l2[i])] rfl (fun w h => ld_roL h 1 rfl (i * 1) (strs_at hlt2)) ?_
    refine TK 0 [(8, [])] (.i 25 (.bool !decide (l1[i] = l2[i])) (.d (.d (.d (.d (.k .a)))))) (#[true, true, true, true, true, true, true, true, true]) ?_
    refine wpa_done 0 (by kernel_rfl) ?_
    refine NT ?_
    by_cases he : l1[i] = l2[i]
    · refine SC 25 (!decide (l1[i] = l2[i])) false (by simp; omega) ?_
      refine CF (SK (BN (NT (RG ?_))))
      refine RV true [] .z (.i 5 (.int .i64 ((↑i : Int) + 1)) (.d (.d (.d (.k .a))))) .a ([inI64 ((↑i : Int) + (1 : Int))]) ⟨by unfold inI64; omega, trivial⟩ ?_
      refine RZ ?_
      exact fun a' w' hS' => ⟨⟨i + 1, hlt, fun j h1 h2 hj => by
              rcases Nat.lt_or_ge j i with h | h
              · exact hall j h1 h2 h
              · obtain rfl : j = i := by omega
                exact he⟩, by dsimp only; omega, ent_fr (by kernel_rfl) _ _ (ent_hp [0, 0] rfl _ _ hS')⟩
    · rw [decide_eq_false (list_ne_at hlt hlt2 he)]
      refine SC 25 (!decide (l1[i] = l2[i])) true (by simp; omega) ?_
      refine CT (SQ (RG ?_))
      refine RR [] .z (.i 4 (.bool false) (.d (.d (.k (.d (.k .a)))))) .a ?_
      refine RZ (NT (RE (BR (TR (TR (BR (TR ?_)))))))
      refine NE [] .z .a [] (.bool false) ?_
      exact ⟨rfl, rfl⟩
  · obtain rfl : i = l1.length := by omega
    rw [decide_eq_true (List.ext_getElem hlen fun j h1 h2 => hall j h1 h2 h1)]
    refine SQ (SQ (RG ?_))
    refine RR [] .z (.i 14 (.bool (decide ((↑l1.length : Int) < (↑l1.length : Int)))) .a) .a ?_
    refine RZ (NT ?_)
    refine SC 14 (decide ((↑l1.length : Int) < (↑l1.length : Int))) false (by simp) ?_
    refine CF (EX (TE (TE (BH (NT (SQ (RG ?_)))))))
    refine RR [] .z (.i 4 (.bool true) .z) .a ?_
    refine RZ (NT (RE ?_))
    refine NE [] .z .a [] (.bool true) ?_
    exact ⟨rfl, rfl⟩
end Go.Proofs.YtgcfomhlgipllaaGreatDoor
namespace Go.Proofs.YtgcfomhlgipllaaGreatDoor
open Go Go.Sx
set_option maxHeartbeats 8000000 in
theorem ShowSame_spec (v : ViV) (hv : v.ok) (ao : Option Addr) (c : Nat) (l : List Ob) (hl : l.length ≤ 1048575) (hc : l.length ≤ c) (hs : smO l) (hi : ∀ o ∈ l, ∀ x ∈ o.cells, x.i64) (m : Ob) (hm : m.sm) (hmi : ∀ x ∈ m.cells, x.i64) (hno : ao = none → l = []) :
    Does Tryz.prog 11 [.agg (viC v).toArray, .slice ao l.length c, .agg (objC m).toArray] [ro ao (l.flatMap objC), gBag l, gBag (l ++ [m]), gWords, gPow, ro v.fa (v.frames.flatMap frC), gFr v.frames, ro v.sa (v.stops.flatMap spC)] (fun r hp' => r = .bool true ∧ hp' = []) := by
  have hLd := LoadX ao c l (by omega) hs hi
  have hLd2 := fun a2 c2 => LoadX a2 c2 (l ++ [m]) (by rw [List.length_append, List.length_singleton]; omega) (smO_snoc hs hm) (i64_snoc hi hmi)
  have hl1 : (l ++ [m]).length = l.length + 1 := by simp
  have hFw := few_spec v hv ao c l (by omega) hs
  have hV : viC v = [.int .i64 v.pos, .int .i64 v.status, .int .i64 v.fault, .slice v.fa v.frames.length v.fc, .string (mkS v.out), .int .i64 v.sel, .slice v.sa v.stops.length v.sc, .int .i64 v.err, .int .i64 v.n, .string (mkS v.says)] := rfl
  rw [hV] at hFw ⊢
  rw [show objC m = [.string (mkS m.tag), .slice m.a m.cells.length m.c] from rfl]
  refine fn_enter Tryz.func11 rfl 131 rfl fun w0 h0 => ?_
  refine SQ (RG ?_)
  refine RP [] (.d .a) 3 (.d (.k .a)) .a 76 [.int .i64 v.pos, .int .i64 v.status, .int .i64 v.fault, .slice v.fa v.frames.length v.fc, .string (mkS v.out), .int .i64 v.sel, .slice v.sa v.stops.length v.sc, .int .i64 v.err, .int .i64 v.n, .string (mkS v.says)] fun g1 => ?_
  refine RP [] (.d .a) 5 (.k (.k .z)) .a 83 [.string (mkS m.tag), .slice m.a m.cells.length m.c] fun g2 => ?_
  refine RR [] .z (.i 6 (.bool false) .a) .a ?_
  refine RZ (NT (SQ (RG ?_)))
  refine RR [] (.d .a) (.i 20 (.slice ao l.length c) .a) .a ?_
  refine RCG (dst := some 21) .a (hLd) (GV (GV (GV (GI []) 3 view_ro) 1 view_self) 0 view_ro) ?_
  rintro r _ ⟨x, e1, hx, rfl, rfl⟩
  refine RR [] .z (.i 7 (.pointer (ptX x)) (.d (.d (.k .a)))) .a ?_
  refine RZ (NT (SQ ?_))
  refine wpc_draw (by kernel_rfl) [.blk g2 83 [.string (mkS m.tag), .slice m.a m.cells.length m.c]] (sub_of [10] (by kernel_rfl)) 12 (by kernel_rfl) ?_
  refine TK 10 [(1, []), (3, [0, 0])] (.i 28 (.agg #[.string (mkS m.tag), .slice m.a m.cells.length m.c]) (.i 26 (.slice ao l.length c) .a)) (#[false, true, false, true, false, false, false, false, false, false, false, false]) ?_
  refine wpa_joinx (X := {y : HX × Int // okX ((l ++ [m]).map Ob.o) y.1}) (fun y => St.mk [(9, .pointer (ptX y.1.1)), (7, .pointer (ptX x)), (6, .bool false), (5, .pointer (some ⟨g2, 0, none⟩)), (3, .pointer (some ⟨g1, 0, none⟩)), (1, .slice ao l.length c)]
    [star (hpX y.1.1), star (hpX x), ro ao (l.flatMap objC), gPow, ro v.fa (v.frames.flatMap frC), gFr v.frames, ro v.sa (v.stops.flatMap spC), .blk g1 76 [.int .i64 v.pos, .int .i64 v.status, .int .i64 v.fault, .slice v.fa v.frames.length v.fc, .string (mkS v.out), .int .i64 v.sel, .slice v.sa v.stops.length v.sc, .int .i64 v.err, .int .i64 v.n, .string (mkS v.says)], .blk g2 83 [.string (mkS m.tag), .slice m.a m.cells.length m.c]]) (fun Q1 hQ1 hk => ?_) ?_
  · skip
    refine wpa_two (i := 0) (j := 4) (n := 9) (by kernel_rfl) ?_ ?_
    · refine wpi_new (n := 9) true 0 [] (fun g3 => [(25, .slice (some ⟨g3, 0, none⟩) 0 0), (28, .agg #[.string (mkS m.tag), .slice m.a m.cells.length m.c]), (26, .slice ao l.length c), (7, .pointer (ptX x)), (6, .bool false), (5, .pointer (some ⟨g2, 0, none⟩)), (3, .pointer (some ⟨g1, 0, none⟩)), (1, .slice ao l.length c)]) (fun g3 => ([star (hpX x), ro ao (List.flatMap objC l), gBag l, gBag (l ++ [m]), gWords, gPow, ro v.fa (List.flatMap frC v.frames), gFr v.frames, ro v.sa (List.flatMap spC v.stops), .blk g1 76 [.int .i64 v.pos, .int .i64 v.status, .int .i64 v.fault, .slice v.fa v.frames.length v.fc, .string (mkS v.out), .int .i64 v.sel, .slice v.sa v.stops.length v.sc, .int .i64 v.err, .int .i64 v.n, .string (mkS v.says)], .blk g2 83 [.string (mkS m.tag), .slice m.a m.cells.length m.c], .blk g3 83 []])) (fun g3 => []) (fun g3 => by kernel_rfl) (fun g3 => by kernel_rfl) (fun g3 => trivial) (fun g3 => sub_of [10] (by kernel_rfl)) fun g3 => ?_
      refine wpa_two (i := 2) (j := 4) (n := 8) (by kernel_rfl) ?_ ?_
      · refine wpi_ent (ent_turn 11 (row 83 2 (some ⟨g3, 0, none⟩) 0 0 []) rfl (turn_blk rfl (by intro u hu; cases hu) (by simp)) rfl) ?_
        refine wpi_app (i := 2) (nf := 8) (a := (some ⟨g3, 0, none⟩)) (n := 0) (cap := 0) (x := (.slice ao l.length c)) (t := 80) (xt := 80) (dst := some 27) (by kernel_rfl) (e := 83) (sz := 2) (bytes := 40) (by kernel_rfl) 11 (xs := []) (by kernel_rfl) (m := (l.length)) (news := (l.flatMap objC)) (fun w h => src_ro h 1 rfl (objs_len l) (fun e => by rw [hno e]; rfl)) (by unfold maxLen; omega) (by omega) [10] (by kernel_rfl) ?_
        intro a1 c1 hn1
        simp only [List.nil_append, Nat.zero_add]
        refine wpa_new (n := 7) true 4 [] (fun g4 => [(29, .slice (some ⟨g4, 0, none⟩) 1 1), (27, .slice a1 l.length c1), (7, .pointer (ptX x)), (6, .bool false), (5, .pointer (some ⟨g2, 0, none⟩)), (3, .pointer (some ⟨g1, 0, none⟩)), (1, .slice ao l.length c)]) (fun g4 => ([star (hpX x), ro ao (List.flatMap objC l), gBag l, gBag (l ++ [m]), gWords, gPow, ro v.fa (List.flatMap frC v.frames), gFr v.frames, ro v.sa (List.flatMap spC v.stops), .blk g1 76 [.int .i64 v.pos, .int .i64 v.status, .int .i64 v.fault, .slice v.fa v.frames.length v.fc, .string (mkS v.out), .int .i64 v.sel, .slice v.sa v.stops.length v.sc, .int .i64 v.err, .int .i64 v.n, .string (mkS v.says)], .blk g2 83 [.string (mkS m.tag), .slice m.a m.cells.length m.c], row 83 2 a1 l.length c1 (List.flatMap objC l), .blk g4 83 [.string (mkS m.tag), .slice m.a m.cells.length m.c]])) (fun g4 => []) (by kernel_rfl) (fun g4 => by kernel_rfl) (fun g4 => by kernel_rfl) (fun g4 => trivial) (fun g4 => sub_of [10] (by kernel_rfl)) fun g4 => ?_
        refine wpa_ent (ent_turn 12 (ro (some ⟨g4, 0, none⟩) [.string (mkS m.tag), .slice m.a m.cells.length m.c]) rfl (turn_rblk (one_of rfl)) rfl) ?_
        refine wpa_app (i := 5) (nf := 6) (by kernel_rfl) (a := a1) (n := l.length) (cap := c1) (x := (.slice (some ⟨g4, 0, none⟩) 1 1)) (t := 80) (xt := 80) (dst := some 30) (by kernel_rfl) (e := 83) (sz := 2) (bytes := 40) (by kernel_rfl) 11 (xs := (List.flatMap objC l)) (by kernel_rfl) (m := 1) (news := [.string (mkS m.tag), .slice m.a m.cells.length m.c]) (fun w h => src_ro h 12 rfl rfl (fun e => by cases e)) (by unfold maxLen; omega) (by omega) [10] (by kernel_rfl) ?_
        intro a2 c2 hn2
        rw [show l.flatMap objC ++ [.string (mkS m.tag), .slice m.a m.cells.length m.c] = (l ++ [m]).flatMap objC from objs_snoc l m, ← hl1]
        refine AC (dst := some 31) 5 6 .a (hLd2 a2 c2) (GV (GV (GV (GI []) 4 view_ro) 3 view_self) 11 view_row) [10] ?_
        rintro r _ ⟨y, e2, hy, rfl, rfl⟩
        refine TK 0 [(7, []), (8, []), (9, []), (10, []), (11, [])] (.i 9 (.pointer (ptX y)) (.d (.d (.d (.d (.k .a)))))) (#[true, true, true, true, true, true, true, true, true, true, true, true]) ?_
        refine wpa_done 0 (by kernel_rfl) ?_
        exact nx_ent (ent_hp [0, 0, 0, 3, 3, 3, 3, 3, 3] rfl) (nx_ent (ent_fr (by kernel_rfl)) (hk ⟨(y, e2), hy⟩))
      · refine wpi_new (n := 8) true 4 [] (fun g4 => [(29, .slice (some ⟨g4, 0, none⟩) 1 1), (25, .slice (some ⟨g3, 0, none⟩) 0 0), (26, .slice ao l.length c), (7, .pointer (ptX x)), (6, .bool false), (5, .pointer (some ⟨g2, 0, none⟩)), (3, .pointer (some ⟨g1, 0, none⟩)), (1, .slice ao l.length c)]) (fun g4 => ([star (hpX x), ro ao (List.flatMap objC l), gBag l, gBag (l ++ [m]), gWords, gPow, ro v.fa (List.flatMap frC v.frames), gFr v.frames, ro v.sa (List.flatMap spC v.stops), .blk g1 76 [.int .i64 v.pos, .int .i64 v.status, .int .i64 v.fault, .slice v.fa v.frames.length v.fc, .string (mkS v.out), .int .i64 v.sel, .slice v.sa v.stops.length v.sc, .int .i64 v.err, .int .i64 v.n, .string (mkS v.says)], .blk g2 83 [.string (mkS m.tag), .slice m.a m.cells.length m.c], .blk g3 83 [], .blk g4 83 [.string (mkS m.tag), .slice m.a m.cells.length m.c]])) (fun g4 => []) (fun g4 => by kernel_rfl) (fun g4 => by kernel_rfl) (fun g4 => trivial) (fun g4 => sub_of [10] (by kernel_rfl)) fun g4 => ?_
        refine wpa_ent (ent_turn 11 (row 83 2 (some ⟨g3, 0, none⟩) 0 0 []) rfl (turn_blk rfl (by intro u hu; cases hu) (by simp)) rfl) ?_
        refine wpa_app (i := 2) (nf := 7) (by kernel_rfl) (a := (some ⟨g3, 0, none⟩)) (n := 0) (cap := 0) (x := (.slice ao l.length c)) (t := 80) (xt := 80) (dst := some 27) (by kernel_rfl) (e := 83) (sz := 2) (bytes := 40) (by kernel_rfl) 11 (xs := []) (by kernel_rfl) (m := (l.length)) (news := (l.flatMap objC)) (fun w h => src_ro h 1 rfl (objs_len l) (fun e => by rw [hno e]; rfl)) (by unfold maxLen; omega) (by omega) [10] (by kernel_rfl) ?_
        intro a1 c1 hn1
        simp only [List.nil_append, Nat.zero_add]
        refine wpa_ent (ent_turn 12 (ro (some ⟨g4, 0, none⟩) [.string (mkS m.tag), .slice m.a m.cells.length m.c]) rfl (turn_rblk (one_of rfl)) rfl) ?_
        refine wpa_app (i := 5) (nf := 6) (by kernel_rfl) (a := a1) (n := l.length) (cap := c1) (x := (.slice (some ⟨g4, 0, none⟩) 1 1)) (t := 80) (xt := 80) (dst := some 30) (by kernel_rfl) (e := 83) (sz := 2) (bytes := 40) (by kernel_rfl) 11 (xs := (List.flatMap objC l)) (by kernel_rfl) (m := 1) (news := [.string (mkS m.tag), .slice m.a m.cells.length m.c]) (fun w h => src_ro h 12 rfl rfl (fun e => by cases e)) (by unfold maxLen; omega) (by omega) [10] (by kernel_rfl) ?_
        intro a2 c2 hn2
        rw [show l.flatMap objC ++ [.string (mkS m.tag), .slice m.a m.cells.length m.c] = (l ++ [m]).flatMap objC from objs_snoc l m, ← hl1]
        refine AC (dst := some 31) 5 6 .a (hLd2 a2 c2) (GV (GV (GV (GI []) 4 view_ro) 3 view_self) 11 view_row) [10] ?_
        rintro r _ ⟨y, e2, hy, rfl, rfl⟩
        refine TK 0 [(7, []), (8, []), (9, []), (10, []), (11, [])] (.i 9 (.pointer (ptX y)) (.d (.d (.d (.d (.d (.d (.k .a)))))))) (#[true, true, true, true, true, true, true, true, true, true, true, true]) ?_
        refine wpa_done 0 (by kernel_rfl) ?_
        exact nx_ent (ent_hp [0, 0, 0, 3, 3, 3, 3, 3, 3] rfl) (nx_ent (ent_fr (by kernel_rfl)) (hk ⟨(y, e2), hy⟩))
    · refine wpi_new (n := 9) true 4 [] (fun g3 => [(29, .slice (some ⟨g3, 0, none⟩) 1 1), (26, .slice ao l.length c), (7, .pointer (ptX x)), (6, .bool false), (5, .pointer (some ⟨g2, 0, none⟩)), (3, .pointer (some ⟨g1, 0, none⟩)), (1, .slice ao l.length c)]) (fun g3 => ([star (hpX x), ro ao (List.flatMap objC l), gBag l, gBag (l ++ [m]), gWords, gPow, ro v.fa (List.flatMap frC v.frames), gFr v.frames, ro v.sa (List.flatMap spC v.stops), .blk g1 76 [.int .i64 v.pos, .int .i64 v.status, .int .i64 v.fault, .slice v.fa v.frames.length v.fc, .string (mkS v.out), .int .i64 v.sel, .slice v.sa v.stops.length v.sc, .int .i64 v.err, .int .i64 v.n, .string (mkS v.says)], .blk g2 83 [.string (mkS m.tag), .slice m.a m.cells.length m.c], .blk g3 83 [.string (mkS m.tag), .slice m.a m.cells.length m.c]])) (fun g3 => []) (fun g3 => by kernel_rfl) (fun g3 => by kernel_rfl) (fun g3 => trivial) (fun g3 => sub_of [10] (by kernel_rfl)) fun g3 => ?_
      refine wpa_new (n := 8) true 0 [] (fun g4 => [(25, .slice (some ⟨g4, 0, none⟩) 0 0), (29, .slice (some ⟨g3, 0, none⟩) 1 1), (26, .slice ao l.length c), (7, .pointer (ptX x)), (6, .bool false), (5, .pointer (some ⟨g2, 0, none⟩)), (3, .pointer (some ⟨g1, 0, none⟩)), (1, .slice ao l.length c)]) (fun g4 => ([star (hpX x), ro ao (List.flatMap objC l), gBag l, gBag (l ++ [m]), gWords, gPow, ro v.fa (List.flatMap frC v.frames), gFr v.frames, ro v.sa (List.flatMap spC v.stops), .blk g1 76 [.int .i64 v.pos, .int .i64 v.status, .int .i64 v.fault, .slice v.fa v.frames.length v.fc, .string (mkS v.out), .int .i64 v.sel, .slice v.sa v.stops.length v.sc, .int .i64 v.err, .int .i64 v.n, .string (mkS v.says)], .blk g2 83 [.string (mkS m.tag), .slice m.a m.cells.length m.c], .blk g3 83 [.string (mkS m.tag), .slice m.a m.cells.length m.c], .blk g4 83 []])) (fun g4 => []) (by kernel_rfl) (fun g4 => by kernel_rfl) (fun g4 => by kernel_rfl) (fun g4 => trivial) (fun g4 => sub_of [10] (by kernel_rfl)) fun g4 => ?_
      refine wpa_ent (ent_turn 12 (row 83 2 (some ⟨g4, 0, none⟩) 0 0 []) rfl (turn_blk rfl (by intro u hu; cases hu) (by simp)) rfl) ?_
      refine wpa_app (i := 2) (nf := 7) (by kernel_rfl) (a := (some ⟨g4, 0, none⟩)) (n := 0) (cap := 0) (x := (.slice ao l.length c)) (t := 80) (xt := 80) (dst := some 27) (by kernel_rfl) (e := 83) (sz := 2) (bytes := 40) (by kernel_rfl) 12 (xs := []) (by kernel_rfl) (m := (l.length)) (news := (l.flatMap objC)) (fun w h => src_ro h 1 rfl (objs_len l) (fun e => by rw [hno e]; rfl)) (by unfold maxLen; omega) (by omega) [10] (by kernel_rfl) ?_
      intro a1 c1 hn1
      simp only [List.nil_append, Nat.zero_add]
      refine wpa_ent (ent_turn 11 (ro (some ⟨g3, 0, none⟩) [.string (mkS m.tag), .slice m.a m.cells.length m.c]) rfl (turn_rblk (one_of rfl)) rfl) ?_
      refine wpa_app (i := 5) (nf := 6) (by kernel_rfl) (a := a1) (n := l.length) (cap := c1) (x := (.slice (some ⟨g3, 0, none⟩) 1 1)) (t := 80) (xt := 80) (dst := some 30) (by kernel_rfl) (e := 83) (sz := 2) (bytes := 40) (by kernel_rfl) 12 (xs := (List.flatMap objC l)) (by kernel_rfl) (m := 1) (news := [.string (mkS m.tag), .slice m.a m.cells.length m.c]) (fun w h => src_ro h 11 rfl rfl (fun e => by cases e)) (by unfold maxLen; omega) (by omega) [10] (by kernel_rfl) ?_
      intro a2 c2 hn2
      rw [show l.flatMap objC ++ [.string (mkS m.tag), .slice m.a m.cells.length m.c] = (l ++ [m]).flatMap objC from objs_snoc l m, ← hl1]
      refine AC (dst := some 31) 5 6 .a (hLd2 a2 c2) (GV (GV (GV (GI []) 4 view_ro) 3 view_self) 12 view_row) [10] ?_
      rintro r _ ⟨y, e2, hy, rfl, rfl⟩
      refine TK 0 [(7, []), (8, []), (9, []), (10, []), (11, [])] (.i 9 (.pointer (ptX y)) (.d (.d (.d (.d (.d (.d (.k .a)))))))) (#[true, true, true, true, true, true, true, true, true, true, true, true]) ?_
      refine wpa_done 0 (by kernel_rfl) ?_
      exact nx_ent (ent_hp [0, 0, 0, 3, 3, 3, 3, 3, 3] rfl) (nx_ent (ent_fr (by kernel_rfl)) (hk ⟨(y, e2), hy⟩))
  · rintro ⟨⟨y, e2⟩, hy⟩
    dsimp only at hy ⊢
    refine NT (SQ (SQ (RG ?_)))
    refine RR [7, 7, 7, 7, 7, 7, 7, 7, 7, 7] (.d (.d .a)) (.i 35 (.slice ao l.length c) (.i 34 (.agg #[.int .i64 v.pos, .int .i64 v.status, .int .i64 v.fault, .slice v.fa v.frames.length v.fc, .string (mkS v.out), .int .i64 v.sel, .slice v.sa v.stops.length v.sc, .int .i64 v.err, .int .i64 v.n, .string (mkS v.says)]) .a)) .a ?_
    refine RCG (dst := some 36) .a (hFw) (GV (GV (GI []) 2 view_ro) 4 view_ro) ?_
    rintro r _ ⟨b, rfl, rfl⟩
    cases b with
    | false =>
      refine RR [] .z (.i 51 (.bool true) (.d (.d (.d (.k (.k (.k (.d (.k .a))))))))) .a ?_
      refine RZ (NT (CT (SQ (RG ?_))))
      refine RCG (dst := some 52) .a (lives16_spec) (GV (GI []) 3 view_gPow) ?_
      rintro r _ ⟨rfl, rfl⟩
      refine RR [] .z (.i 6 (.bool true) (.d (.d (.k (.k (.d (.k .a))))))) .a ?_
      refine RZ (NT (RE (TR ?_)))
      refine NE [] .z .a [] (.bool true) ?_
      exact ⟨rfl, rfl⟩
    | true =>
      by_cases hm1 : 1000 < m.cells.length
      · refine RR [8] (.d (.d (.d (.d (.d (.d (.d (.d .a)))))))) (.i 44 (.bool (decide ((↑m.cells.length : Int) > (1000 : Int)))) (.d (.d (.d (.k (.k (.k (.d (.k .a))))))))) .a ?_
        refine SR 44 (decide ((↑m.cells.length : Int) > (1000 : Int))) true (decide_eq_true (by omega)) ?_
        refine RR [] .z (.i 51 (.bool true) (.d (.d (.k .a)))) .a ?_
        refine RZ (NT (CT (SQ (RG ?_))))
        refine RCG (dst := some 52) .a (lives16_spec) (GV (GI []) 3 view_gPow) ?_
        rintro r _ ⟨rfl, rfl⟩
        refine RR [] .z (.i 6 (.bool true) (.d (.d (.k (.k (.d (.k .a))))))) .a ?_
        refine RZ (NT (RE (TR ?_)))
        refine NE [] .z .a [] (.bool true) ?_
        exact ⟨rfl, rfl⟩
      · rcases x with _ | ⟨gh, ah, ch, l1, u1⟩
        · refine RR [8] (.d (.d (.d (.d (.d (.d (.d (.d .a)))))))) (.i 44 (.bool (decide ((↑m.cells.length : Int) > (1000 : Int)))) (.d (.d (.d (.k (.i 7 (.pointer none) (.d (.k (.d (.k .a)))))))))) .a ?_
          refine SR 44 (decide ((↑m.cells.length : Int) > (1000 : Int))) false (decide_eq_false (by omega)) ?_
          refine RR [] .z (.i 51 (.bool true) (.d (.d (.k .a)))) .a ?_
          refine RZ (NT (CT (SQ (RG ?_))))
          refine RCG (dst := some 52) .a (lives16_spec) (GV (GI []) 3 view_gPow) ?_
          rintro r _ ⟨rfl, rfl⟩
          refine RR [] .z (.i 6 (.bool true) (.d (.d (.k (.k (.d (.k .a))))))) .a ?_
          refine RZ (NT (RE (TR ?_)))
          refine NE [] .z .a [] (.bool true) ?_
          exact ⟨rfl, rfl⟩
        · rcases y with _ | ⟨gy, ay, cy, l2, u2⟩
          · refine RR [8] (.d (.d (.d (.d (.d (.d (.d (.d .a)))))))) (.i 44 (.bool (decide ((↑m.cells.length : Int) > (1000 : Int)))) (.i 9 (.pointer none) (.i 7 (.pointer (some ⟨gh, 0, none⟩)) (.d (.d (.d (.d (.d (.k (.d (.k .a))))))))))) .a ?_
            refine SR 44 (decide ((↑m.cells.length : Int) > (1000 : Int))) false (decide_eq_false (by omega)) ?_
            refine RR [] .z (.i 51 (.bool true) (.d (.d (.k .a)))) .a ?_
            refine RZ (NT (CT (SQ (RG ?_))))
            refine RCG (dst := some 52) .a (lives16_spec) (GV (GI []) 3 view_gPow) ?_
            rintro r _ ⟨rfl, rfl⟩
            refine RR [] .z (.i 6 (.bool true) (.d (.d (.k (.k (.d (.k .a))))))) .a ?_
            refine RZ (NT (RE (TR ?_)))
            refine NE [] .z .a [] (.bool true) ?_
            exact ⟨rfl, rfl⟩
          · obtain ⟨hx1, hx2, hx3⟩ := hx
            obtain ⟨hy1, hy2, hy3⟩ := hy
            dsimp only at hx1 hx3 hy1 hy3
            refine RR [8] (.d (.d (.d (.d (.d (.d (.d (.d .a)))))))) (.i 44 (.bool (decide ((↑m.cells.length : Int) > (1000 : Int)))) (.i 9 (.pointer (some ⟨gy, 0, none⟩)) (.i 7 (.pointer (some ⟨gh, 0, none⟩)) (.d (.d (.d (.d (.d (.k (.d (.k .a))))))))))) .a ?_
            refine SR 44 (decide ((↑m.cells.length : Int) > (1000 : Int))) false (decide_eq_false (by omega)) ?_
            refine RR [] .z (.i 51 (.bool false) (.d (.d (.k .a)))) .a ?_
            refine RZ (NT (CF (SK (NT (SQ (SQ (RG ?_)))))))
            refine RR [] .z (.i 11 (.int .i64 0) (.d (.k .a))) .a ?_
            refine RZ (NT (BK ?_))
            refine wpc_ent ent_unstar ?_
            refine wpc_ent (Ent.trans (ent_hp [3, 0, 0, 0, 1, 1, 1, 1, 1] rfl) ent_unstar) ?_
            have hfl := hv.2.2.2.1
            have hfo := hv.2.2.2.2.1
            refine wpc_loop (X := {i : Nat // i ≤ v.frames.length ∧ ∀ f ∈ v.frames.take i, frameB l.length f = true}) (fun x => St.mk [(11, .int .i64 (x.1 : Int)), (9, .pointer (some ⟨gy, 0, none⟩)), (7, .pointer (some ⟨gh, 0, none⟩)), (6, .bool false), (3, .pointer (some ⟨g1, 0, none⟩)), (1, .slice ao l.length c)]
              [.blk gh 198 [.bool true, .int .i64 (mostI 4096), .int .i64 (u1 : Int), .slice ah l1.length ch], row 83 2 ah l1.length ch (l1.flatMap objC), star (l1.map obRow), .blk gy 198 [.bool true, .int .i64 (mostI 4096), .int .i64 (u2 : Int), .slice ay l2.length cy], row 83 2 ay l2.length cy (l2.flatMap objC), star (l2.map obRow), gPow, ro v.fa (v.frames.flatMap frC), gFr v.frames, ro v.sa (v.stops.flatMap spC), .blk g1 76 [.int .i64 v.pos, .int .i64 v.status, .int .i64 v.fault, .slice v.fa v.frames.length v.fc, .string (mkS v.out), .int .i64 v.sel, .slice v.sa v.stops.length v.sc, .int .i64 v.err, .int .i64 v.n, .string (mkS v.says)]]) (fun x => v.frames.length - x.1) ⟨0, Nat.zero_le _, fun f hf => by simp at hf⟩ (ent_fr (by kernel_rfl)) ?_
            rintro ⟨i, hi, hal⟩
            dsimp only at hi hal ⊢
            by_cases hlt : i < v.frames.length
            · obtain ⟨-, -, f3, f4⟩ := hfo _ (List.getElem_mem hlt)
              have hat := frs_fld hlt 2 1 (by decide)
              refine wpc_fact (fun w h => ro_addr h 7 rfl (by rw [frs_len]; omega)) ?_
              rintro ⟨g0, o0, hfa⟩
              rw [hfa]
              refine SQ (SQ (RG ?_))
              refine RR [10] .z (.i 58 (.bool (decide ((↑i : Int) < (↑v.frames.length : Int)))) .a) (.u (.k (.i (.int .i64 4096) (.d (.k .a)))) (.k (.k (.u (.k (.i (.int .i64 4096) (.d (.k .a)))) .a)))) ?_
              refine RZ (NT ?_)
              refine SC 58 (decide ((↑i : Int) < (↑v.frames.length : Int))) true (decide_eq_true (by omega)) ?_
              refine CT (SK (NT (SQ (BK (SQ (RG ?_))))))
              refine RR [] .z (.i 12 (.int .i64 0) (.d (.d (.k .a)))) .a ?_
              refine RZ (NT (BK ?_))
              refine wpc_loop (X := {j : Nat // j ≤ v.frames[i].vars.length ∧ ∀ b ∈ v.frames[i].vars.take j, rightB b.v l.length = true}) (fun x => St.mk [(12, .int .i64 (x.1 : Int)), (11, .int .i64 (i : Int)), (9, .pointer (some ⟨gy, 0, none⟩)), (7, .pointer (some ⟨gh, 0, none⟩)), (6, .bool false), (3, .pointer (some ⟨g1, 0, none⟩)), (1, .slice ao l.length c)]
                [.blk gh 198 [.bool true, .int .i64 (mostI 4096), .int .i64 (u1 : Int), .slice ah l1.length ch], row 83 2 ah l1.length ch (l1.flatMap objC), star (l1.map obRow), .blk gy 198 [.bool true, .int .i64 (mostI 4096), .int .i64 (u2 : Int), .slice ay l2.length cy], row 83 2 ay l2.length cy (l2.flatMap objC), star (l2.map obRow), gPow, ro (some ⟨g0, o0, none⟩) (v.frames.flatMap frC), gFr v.frames, ro v.sa (v.stops.flatMap spC), .blk g1 76 [.int .i64 v.pos, .int .i64 v.status, .int .i64 v.fault, .slice (some ⟨g0, o0, none⟩) v.frames.length v.fc, .string (mkS v.out), .int .i64 v.sel, .slice v.sa v.stops.length v.sc, .int .i64 v.err, .int .i64 v.n, .string (mkS v.says)]]) (fun x => v.frames[i].vars.length - x.1) ⟨0, Nat.zero_le _, fun b hb => by simp at hb⟩ (ent_fr (by kernel_rfl)) ?_
              rintro ⟨j, hj, hbl⟩
              dsimp only at hj hbl ⊢
              by_cases hlt2 : j < v.frames[i].vars.length
              · obtain ⟨b1, b2, b3⟩ := f4 _ (List.getElem_mem hlt2)
                have hC := Check_spec v.frames[i].vars[j].v l.length b2
                have hvt := bis_fld hlt2 1 3 (by decide)
                rw [show ((biC v.frames[i].vars[j]).drop 1).take 3 = [.int .i64 v.frames[i].vars[j].v.k, .int .i64 v.frames[i].vars[j].v.n, .string (mkS v.frames[i].vars[j].v.s)] from rfl] at hvt
                unfold valV at hC
                refine wpc_ent (ent_copy 8 (ro v.frames[i].a (v.frames[i].vars.flatMap biC)) rfl (fun h => h) (view_in (frRo_in hlt) view_ro)) ?_
                refine wpc_fact (fun w h => ro_addr h 0 rfl (by rw [bis_len]; omega)) ?_
                rintro ⟨g4, o4, hva⟩
                rw [hva]
                refine SQ (SQ (RG ?_))
                refine RV true [11] (.d (.d (.d (.d (.d (.d (.d .a))))))) (.i 67 (.pointer (some ⟨g0, o0 + i * 3 + 2, none⟩)) (.i 61 (.int .i64 (↑j : Int)) .a)) (.k (.u (.k (.i (.int .i64 4096) (.d (.k .a)))) (.k (.k (.u (.k (.i (.int .i64 4096) (.d (.k .a)))) .a))))) [(0 : Int) ≤ (↑i : Int) ∧ (↑i : Int) < (↑v.frames.length : Int)] ⟨by omega, trivial⟩ ?_
                refine wpr_eq (ld (t := 88) (a := ⟨g0, o0 + i * 3 + 2, none⟩) (dst := some 68) (by kernel_rfl) false 1 (by kernel_rfl) (by simp) [.slice (some ⟨g4, o4, none⟩) v.frames[i].vars.length v.frames[i].c] rfl (fun w h => ld_ro h 8 rfl (i * 3 + 2) (by rw [← hva]; exact frs_fld hlt 2 1 (by decide)))) ?_
                refine RR [] .z (.i 70 (.bool (decide ((↑j : Int) < (↑v.frames[i].vars.length : Int)))) (.d (.d (.d (.k .a))))) .a ?_
                refine RZ (NT ?_)
                refine SC 70 (decide ((↑j : Int) < (↑v.frames[i].vars.length : Int))) true (decide_eq_true (by omega)) ?_
                refine CT (SK (NT (SQ (BK (SQ (RG ?_))))))
                refine RV true [11] (.d (.d (.d (.d (.d (.d .a)))))) (.i 78 (.pointer (some ⟨g0, o0 + i * 3 + 2, none⟩)) (.d (.d (.k .a)))) .a [(0 : Int) ≤ (↑i : Int) ∧ (↑i : Int) < (↑v.frames.length : Int)] ⟨by omega, trivial⟩ ?_
                refine wpr_eq (ld (t := 88) (a := ⟨g0, o0 + i * 3 + 2, none⟩) (dst := some 79) (by kernel_rfl) false 1 (by kernel_rfl) (by simp) [.slice (some ⟨g4, o4, none⟩) v.frames[i].vars.length v.frames[i].c] rfl (fun w h => ld_ro h 8 rfl (i * 3 + 2) (by rw [← hva]; exact frs_fld hlt 2 1 (by decide)))) ?_
                refine RV true [] (.d (.d (.d .a))) (.i 82 (.pointer (some ⟨g4, o4 + j * 4 + 1, none⟩)) (.d (.d (.k .a)))) .a [(0 : Int) ≤ (↑j : Int) ∧ (↑j : Int) < (↑v.frames[i].vars.length : Int)] ⟨by omega, trivial⟩ ?_
                refine wpr_eq (ld (t := 94) (a := ⟨g4, o4 + j * 4 + 1, none⟩) (dst := some 83) (by kernel_rfl) true 3 (by kernel_rfl) (by simp) [.int .i64 v.frames[i].vars[j].v.k, .int .i64 v.frames[i].vars[j].v.n, .string (mkS v.frames[i].vars[j].v.s)] rfl (fun w h => ld_ro h 0 rfl (j * 4 + 1) hvt)) ?_
                refine RR [] (.d (.d .a)) (.i 85 (.int .i64 (↑l.length : Int)) (.i 83 (.agg #[.int .i64 v.frames[i].vars[j].v.k, .int .i64 v.frames[i].vars[j].v.n, .string (mkS v.frames[i].vars[j].v.s)]) (.d (.d (.k .a))))) .a ?_
                refine RC (dst := some 86) [] .a (hC) ?_
                rintro r _ ⟨rfl, rfl⟩
                by_cases hr : rightB v.frames[i].vars[j].v l.length = true
                · rw [if_pos hr]
                  refine RR [] .z (.i 87 (.bool false) (.d (.d (.d (.k .a))))) .a ?_
                  refine RZ (NT (CF (SK (BN (NT (RG ?_))))))
                  refine RV true [] .z (.i 12 (.int .i64 ((↑j : Int) + 1)) (.d (.d (.k .a)))) .a ([inI64 ((↑j : Int) + (1 : Int))]) ⟨by unfold inI64; omega, trivial⟩ ?_
                  refine RZ ?_
                  exact fun a' w' hS' => ⟨⟨j + 1, hlt2, fun b hb => by
                                      rw [← List.take_append_getElem hlt2] at hb
                                      rcases List.mem_append.1 hb with h | h
                                      · exact hbl b h
                                      · rw [List.mem_singleton.1 h]; exact hr⟩, by dsimp only; omega, ent_fr (by kernel_rfl) _ _ (ent_hp [1, 1, 1, 1, 1, 1, 1, 1, 1, 1, 1] rfl _ _ hS')⟩
                · rw [if_neg hr]
                  refine RR [] .z (.i 87 (.bool true) (.d (.d (.d (.k .a))))) .a ?_
                  refine RZ (NT (CT (SQ (RG ?_))))
                  refine RCG (dst := some 88) .a (lives16_spec) (GV (GI []) 7 view_gPow) ?_
                  rintro r _ ⟨rfl, rfl⟩
                  refine RR [] .z (.i 6 (.bool true) (.d (.d (.k (.k (.k (.k (.d (.k .a))))))))) .a ?_
                  refine RZ (NT (RE (BR (TR (TR (BR (BR (TR (TR (BR (TR ?_)))))))))))
                  refine NE [] .z .a [] (.bool true) ?_
                  exact ⟨rfl, rfl⟩
              · obtain rfl : j = v.frames[i].vars.length := by omega
                have hF : frameB l.length v.frames[i] = true := by
                  unfold frameB
                  rw [List.all_eq_true]
                  intro b hb
                  exact hbl b (by rw [List.take_length]; exact hb)
                refine SQ (SQ (RG ?_))
                refine RV true [10] (.d (.d (.d (.d (.d (.d (.d .a))))))) (.i 67 (.pointer (some ⟨g0, o0 + i * 3 + 2, none⟩)) (.i 61 (.int .i64 (↑v.frames[i].vars.length : Int)) .a)) (.u (.k (.i (.int .i64 4096) (.d (.k .a)))) (.k (.k (.u (.k (.i (.int .i64 4096) (.d (.k .a)))) .a)))) [(0 : Int) ≤ (↑i : Int) ∧ (↑i : Int) < (↑v.frames.length : Int)] ⟨by omega, trivial⟩ ?_
                refine wpr_eq (ld (t := 88) (a := ⟨g0, o0 + i * 3 + 2, none⟩) (dst := some 68) (by kernel_rfl) false 1 (by kernel_rfl) (by simp) [.slice v.frames[i].a v.frames[i].vars.length v.frames[i].c] rfl (fun w h => ld_ro h 7 rfl (i * 3 + 2) hat)) ?_
                refine RR [] .z (.i 70 (.bool (decide ((↑v.frames[i].vars.length : Int) < (↑v.frames[i].vars.length : Int)))) (.d (.d (.d (.k .a))))) .a ?_
                refine RZ (NT ?_)
                refine SC 70 (decide ((↑v.frames[i].vars.length : Int) < (↑v.frames[i].vars.length : Int))) false (by simp) ?_
                refine CF (EX (TE (TE (BH (BN (NT (RG ?_)))))))
                refine RV true [] .z (.i 11 (.int .i64 ((↑i : Int) + 1)) (.d (.d (.d (.d (.k .a)))))) .a ([inI64 ((↑i : Int) + (1 : Int))]) ⟨by unfold inI64; omega, trivial⟩ ?_
                refine RZ ?_
                rw [← hfa]
                exact fun a' w' hS' => ⟨⟨i + 1, hlt, fun f hf => by
                                  rw [← List.take_append_getElem hlt] at hf
                                  rcases List.mem_append.1 hf with h | h
                                  · exact hal f h
                                  · rw [List.mem_singleton.1 h]; exact hF⟩, by dsimp only; omega, ent_fr (by kernel_rfl) _ _ (ent_hp [0, 0, 0, 0, 0, 0, 0, 0, 0, 0, 0] rfl _ _ hS')⟩
            · obtain rfl : i = v.frames.length := by omega
              rw [List.take_length] at hal
              have hall : v.frames.all (frameB l.length) = true := List.all_eq_true.2 hal
              have hlm : (l.map Ob.o).length = l.length := List.length_map ..
              have hl1n : l1.length = l.length := by have h := congrArg List.length hx1; rwa [List.length_map, List.length_map] at h
              have hl2n : l2.length = ((l ++ [m]).map Ob.o).length := by have h := congrArg List.length hy1; rwa [List.length_map] at h
              have hallL : v.frames.all (frameB (l.map Ob.o).length) = true := by rw [hlm]; exact hall
              have hall2 : v.frames.all (frameB l2.length) = true := by
                rw [hl2n, List.map_append]
                exact view_more hallL
              have hv1 : viewB l1.length v = statusB v.status v.fault := by unfold viewB; rw [hl1n, hall, Bool.and_true]
              have hv2 : viewB l2.length v = statusB v.status v.fault := by unfold viewB; rw [hall2, Bool.and_true]
              have hLn1 := Lines_spec gh (mostI 4096) u1 ah ch l1 hx3 (by rw [hx1]; exact hx2) v hv
              have hLn2 := Lines_spec gy (mostI 4096) u2 ay cy l2 hy3 (by rw [hy1]; exact hy2) v hv
              have hLnX := fun gi gn gf gs => exLinesX gi gn gf gs gy (mostI 4096) u2 ay cy l2 hy3 (by rw [hy1]; exact hy2)
              have hT2 : linesT ((l ++ [m]).map Ob.o) v = linesT (l.map Ob.o) v := by rw [List.map_append]; exact lines_more hx2 _ hallL
              rw [hx1, hv1, hV] at hLn1
              rw [hy1, hv2, hV, hT2] at hLn2
              unfold exHp exA at hLnX
              simp only [List.cons_append, List.nil_append] at hLnX
              have hEx := example_spec
              unfold exHp exA at hEx
              have hn := linesT_n (l.map Ob.o) v
              have ht4 := tail_four v.out
              have hst := hv.2.2.2.2.2.2.2.1
              obtain ⟨T, hTe⟩ : ∃ T, T = linesT (l.map Ob.o) v := ⟨_, rfl⟩
              rw [← hTe] at hLn1 hLn2 hn
              have hTT : decide (T = T) = true := decide_eq_true rfl
              have hS := fun a1 c1 a2 c2 => sameTexts_big a1 c1 T a2 c2 T (by omega) (by omega)
              rw [hTT] at hS
              have hS0 := sameTexts_big none 0 [] none 0 [] (by decide) (by decide)
              rw [show decide (([] : List Tx) = []) = true from rfl] at hS0
              refine SQ (SQ (RG ?_))
              refine RR [10] .z (.i 58 (.bool (decide ((↑v.frames.length : Int) < (↑v.frames.length : Int)))) .a) (.u (.k (.i (.int .i64 4096) (.d (.k .a)))) (.k (.k (.u (.k (.i (.int .i64 4096) (.d (.k .a)))) .a)))) ?_
              refine RZ (NT ?_)
              refine SC 58 (decide ((↑v.frames.length : Int) < (↑v.frames.length : Int))) false (by simp) ?_
              refine CF (EX (TE (TE (BH (NT (SQ (RG ?_)))))))
              refine RR [10, 10, 10, 10, 10, 10, 10, 10, 10, 10] (.d (.d .a)) (.i 91 (.pointer (some ⟨gh, 0, none⟩)) (.i 90 (.agg #[.int .i64 v.pos, .int .i64 v.status, .int .i64 v.fault, .slice v.fa v.frames.length v.fc, .string (mkS v.out), .int .i64 v.sel, .slice v.sa v.stops.length v.sc, .int .i64 v.err, .int .i64 v.n, .string (mkS v.says)]) (.d (.d (.d (.k (.k (.k (.k .z))))))))) .a ?_
              refine RCG (dst := some 92) .a (hLn1) (GV (GV (GV (GV (GV (GV (GV (GI []) 9 view_ro) 8 view_self) 7 view_ro) 6 view_gPow) 2 view_gBag) 1 view_row) 0 (view_blk0 (by simp [Go.Sx.One, Value.oneCell']))) ?_
              rintro r _ h
              cases hsb : statusB v.status v.fault with
              | false =>
                rw [hsb, if_neg (by decide)] at h
                obtain ⟨rfl, rfl⟩ := h
                refine RR [] .z (.i 14 (.int .i64 2) (.i 13 (.slice none 0 0) (.d (.d (.d (.k .a)))))) .a ?_
                refine RZ (NT (SQ (RG ?_)))
                refine RC (dst := some 95) [] .a (hEx) ?_
                rintro r _ ⟨gi, gn, gf, gs, rfl, rfl⟩
                refine RR [] (.d .a) (.i 96 (.pointer (some ⟨gy, 0, none⟩)) .a) .a ?_
                have hE2 := hLnX gi gn gf gs
                refine RCG (dst := some 97) (.d (.d (.d (.d (.k .a))))) (hE2) (GV (GV (GV (GV (GI [0, 0, 0, 0]) 6 view_gPow) 5 view_gBag) 4 view_row) 3 (view_blk0 (by simp [Go.Sx.One, Value.oneCell']))) ?_
                rintro r _ ⟨a3, n3, c3, T3, rfl, rfl⟩
                refine RZ (NT (SQ (RG ?_)))
                refine RR [11, 11, 11, 11, 11, 11, 11, 11, 11, 11] (.d (.d .a)) (.i 100 (.pointer (some ⟨gy, 0, none⟩)) (.i 99 (.agg #[.int .i64 v.pos, .int .i64 v.status, .int .i64 v.fault, .slice v.fa v.frames.length v.fc, .string (mkS v.out), .int .i64 v.sel, .slice v.sa v.stops.length v.sc, .int .i64 v.err, .int .i64 v.n, .string (mkS v.says)]) (.d (.d (.d (.k (.k (.d (.k .a))))))))) .a ?_
                refine RCG (dst := some 101) .a (hLn2) (GV (GV (GV (GV (GV (GV (GV (GI []) 10 view_ro) 9 view_self) 8 view_ro) 7 view_gPow) 6 view_gBag) 5 view_row) 4 (view_blk0 (by simp [Go.Sx.One, Value.oneCell']))) ?_
                rintro r _ h
                rw [hsb, if_neg (by decide)] at h
                obtain ⟨rfl, rfl⟩ := h
                refine RR [] .z (.i 16 (.int .i64 2) (.i 15 (.slice none 0 0) (.d (.d (.d (.k .a)))))) .a ?_
                refine RZ (NT (SQ (RG ?_)))
                refine RR [11, 11, 11, 11, 11, 11, 11, 11, 11, 11] (.d (.d .a)) (.i 106 (.pointer (some ⟨gh, 0, none⟩)) (.i 105 (.agg #[.int .i64 v.pos, .int .i64 v.status, .int .i64 v.fault, .slice v.fa v.frames.length v.fc, .string (mkS v.out), .int .i64 v.sel, .slice v.sa v.stops.length v.sc, .int .i64 v.err, .int .i64 v.n, .string (mkS v.says)]) (.k (.k (.k (.k (.d (.k .z)))))))) .a ?_
                refine RCG (dst := some 107) .a (hLn1) (GV (GV (GV (GV (GV (GV (GV (GI []) 10 view_ro) 9 view_self) 8 view_ro) 7 view_gPow) 3 view_gBag) 2 view_row) 1 (view_blk0 (by simp [Go.Sx.One, Value.oneCell']))) ?_
                rintro r _ h
                rw [hsb, if_neg (by decide)] at h
                obtain ⟨rfl, rfl⟩ := h
                refine RR [] .z (.i 18 (.int .i64 2) (.i 17 (.slice none 0 0) (.d (.d (.d (.k .a)))))) .a ?_
                refine RZ (NT (SQ (RG ?_)))
                refine RR [] (.d (.d .a)) (.i 111 (.slice none 0 0) (.i 110 (.slice none 0 0) (.k (.k (.k (.d (.k .a))))))) .a ?_
                refine wpr_ent ent_roz ?_
                refine RCG (dst := some 112) .a (hS0) (GV (GV (GI []) 0 view_ro) 0 view_ro) ?_
                rintro r _ ⟨rfl, rfl⟩
                refine RR [] (.d (.d (.d .a))) (.i 115 (.slice none 0 0) (.i 114 (.slice none 0 0) (.i 113 (.bool true) (.d (.d (.d (.k (.d (.k (.k (.d (.k .a)))))))))))) .a ?_
                refine RCG (dst := some 116) .a (hS0) (GV (GV (GI []) 0 view_ro) 0 view_ro) ?_
                rintro r _ ⟨rfl, rfl⟩
                refine RR [] (.d (.d (.d (.d (.d (.d (.d (.d (.d (.d (.d (.d .a)))))))))))) (.i 128 (.bool true) (.d (.d (.d (.d (.d (.d (.d (.k .a))))))))) .a ?_
                refine RCG (dst := some 129) .a (lives16_spec) (GV (GI []) 8 view_gPow) ?_
                rintro r _ ⟨rfl, rfl⟩
                refine RR [] .z (.i 6 (.bool true) .z) .a ?_
                refine RZ (NT (RE ?_))
                refine NE [] .z .a [] (.bool true) ?_
                exact ⟨rfl, rfl⟩
              | true =>
                rw [hsb, if_pos rfl] at h
                obtain ⟨a1, c1, rfl, rfl⟩ := h
                refine RR [] .z (.i 14 (.int .i64 0) (.i 13 (.slice a1 T.length c1) (.d (.d (.d (.k .a)))))) .a ?_
                refine RZ (NT (SQ (RG ?_)))
                refine RC (dst := some 95) [] .a (hEx) ?_
                rintro r _ ⟨gi, gn, gf, gs, rfl, rfl⟩
                refine RR [] (.d .a) (.i 96 (.pointer (some ⟨gy, 0, none⟩)) .a) .a ?_
                have hE2 := hLnX gi gn gf gs
                refine RCG (dst := some 97) (.d (.d (.d (.d (.k .a))))) (hE2) (GV (GV (GV (GV (GI [0, 0, 0, 0]) 7 view_gPow) 6 view_gBag) 5 view_row) 4 (view_blk0 (by simp [Go.Sx.One, Value.oneCell']))) ?_
                rintro r _ ⟨a3, n3, c3, T3, rfl, rfl⟩
                refine RZ (NT (SQ (RG ?_)))
                refine RR [12, 12, 12, 12, 12, 12, 12, 12, 12, 12] (.d (.d .a)) (.i 100 (.pointer (some ⟨gy, 0, none⟩)) (.i 99 (.agg #[.int .i64 v.pos, .int .i64 v.status, .int .i64 v.fault, .slice v.fa v.frames.length v.fc, .string (mkS v.out), .int .i64 v.sel, .slice v.sa v.stops.length v.sc, .int .i64 v.err, .int .i64 v.n, .string (mkS v.says)]) (.d (.d (.d (.k (.k (.d (.k .a))))))))) .a ?_
                refine RCG (dst := some 101) .a (hLn2) (GV (GV (GV (GV (GV (GV (GV (GI []) 11 view_ro) 10 view_self) 9 view_ro) 8 view_gPow) 7 view_gBag) 6 view_row) 5 (view_blk0 (by simp [Go.Sx.One, Value.oneCell']))) ?_
                rintro r _ h
                rw [hsb, if_pos rfl] at h
                obtain ⟨a2, c2, rfl, rfl⟩ := h
                refine RR [] .z (.i 16 (.int .i64 0) (.i 15 (.slice a2 T.length c2) (.d (.d (.d (.k .a)))))) .a ?_
                refine RZ (NT (SQ (RG ?_)))
                refine RR [13, 13, 13, 13, 13, 13, 13, 13, 13, 13] (.d (.d .a)) (.i 106 (.pointer (some ⟨gh, 0, none⟩)) (.i 105 (.agg #[.int .i64 v.pos, .int .i64 v.status, .int .i64 v.fault, .slice v.fa v.frames.length v.fc, .string (mkS v.out), .int .i64 v.sel, .slice v.sa v.stops.length v.sc, .int .i64 v.err, .int .i64 v.n, .string (mkS v.says)]) (.k (.k (.k (.k (.d (.k .z)))))))) .a ?_
                refine RCG (dst := some 107) .a (hLn1) (GV (GV (GV (GV (GV (GV (GV (GI []) 12 view_ro) 11 view_self) 10 view_ro) 9 view_gPow) 5 view_gBag) 4 view_row) 3 (view_blk0 (by simp [Go.Sx.One, Value.oneCell']))) ?_
                rintro r _ h
                rw [hsb, if_pos rfl] at h
                obtain ⟨a4, c4, rfl, rfl⟩ := h
                refine RR [] .z (.i 18 (.int .i64 0) (.i 17 (.slice a4 T.length c4) (.d (.d (.d (.k .a)))))) .a ?_
                refine RZ (NT (SQ (RG ?_)))
                refine RR [] (.d (.d .a)) (.i 111 (.slice a2 T.length c2) (.i 110 (.slice a1 T.length c1) (.k (.k (.k (.d (.k .a))))))) .a ?_
                refine RCG (dst := some 112) .a (hS a1 c1 a2 c2) (GV (GV (GI []) 1 view_row) 3 view_row) ?_
                rintro r _ ⟨rfl, rfl⟩
                refine RR [] (.d (.d (.d .a))) (.i 115 (.slice a4 T.length c4) (.i 114 (.slice a1 T.length c1) (.i 113 (.bool true) (.d (.d (.d (.k (.d (.k (.k (.d (.k .a)))))))))))) .a ?_
                refine RCG (dst := some 116) .a (hS a1 c1 a4 c4) (GV (GV (GI []) 0 view_row) 3 view_row) ?_
                rintro r _ ⟨rfl, rfl⟩
                refine RR [] (.d (.d (.d (.d (.d (.d (.d (.d (.d (.d (.d (.d .a)))))))))))) (.i 128 (.bool true) (.d (.d (.d (.d (.d (.d (.d (.k .a))))))))) .a ?_
                refine RCG (dst := some 129) .a (lives16_spec) (GV (GI []) 10 view_gPow) ?_
                rintro r _ ⟨rfl, rfl⟩
                refine RR [] .z (.i 6 (.bool true) .z) .a ?_
                refine RZ (NT (RE ?_))
                refine NE [] .z .a [] (.bool true) ?_
                exact ⟨rfl, rfl⟩
end Go.Proofs.YtgcfomhlgipllaaGreatDoor
namespace Go.Proofs.YtgcfomhlgipllaaGreatDoor
open Go Go.Sx
/-! What each line has, how many there are, and where they lie in the bytes. -/
theorem cleanB_ok (b : UInt8) : 32 ≤ (cleanB b).toNat ∧ (cleanB b).toNat ≤ 126 := by
  unfold cleanB
  split
  · decide
  · rename_i h
    rw [not_or] at h
    obtain ⟨h1, h2⟩ := h
    rw [UInt8.lt_iff_toNat_lt] at h1 h2
    have e1 : (32 : UInt8).toNat = 32 := rfl
    have e2 : (126 : UInt8).toNat = 126 := rfl
    omega
theorem line_ok {l : List Tx} {b : UInt8} (h : b ∈ lineT l) : 32 ≤ b.toNat ∧ b.toNat ≤ 126 := by
  have hc : ∀ x ∈ cleanT l.flatten, 32 ≤ x.toNat ∧ x.toNat ≤ 126 := fun x hx => by
    obtain ⟨y, _, rfl⟩ := List.mem_map.1 hx
    exact cleanB_ok y
  unfold lineT cut2 at h
  split at h
  · rcases List.mem_append.1 h with h | h
    · exact hc b (List.mem_of_mem_take h)
    · have h : b = 46 := by simpa using h
      subst h
      decide
  · exact hc b h
theorem lines_ok (L : List O) (v : ViV) : ∀ t ∈ linesT L v, ∀ b ∈ t, 32 ≤ b.toNat ∧ b.toNat ≤ 126 := by
  intro t ht b hb
  unfold linesT framesT at ht
  simp only [List.mem_append, List.mem_cons, List.not_mem_nil, or_false, List.mem_map] at ht
  rcases ht with (((rfl | ⟨i, _, rfl⟩) | ⟨s, _, rfl⟩) | ⟨s, _, rfl⟩) | rfl <;> exact line_ok hb
theorem tail_count (t : Tx) : (tailT t).length = min (t.count 10) 4 := by
  have h := split_len t
  unfold tailT
  dsimp only
  rw [List.length_drop, List.length_dropLast, h]
  omega
def ends (l : List Tx) (i : Nat) : Nat := (bytesT (l.take i)).length
theorem bytesT_app (a b : List Tx) : bytesT (a ++ b) = bytesT a ++ bytesT b := List.flatMap_append
theorem ends_zero (l : List Tx) : ends l 0 = 0 := rfl
theorem ends_all (l : List Tx) : ends l l.length = (bytesT l).length := by unfold ends; rw [List.take_length]
theorem ends_succ {l : List Tx} {i : Nat} (h : i < l.length) : ends l (i + 1) = ends l i + l[i].length + 1 := by
  unfold ends
  rw [← List.take_append_getElem h, bytesT_app, List.length_append, show bytesT [l[i]] = l[i] ++ [10] by simp [bytesT], List.length_append]
  rfl
theorem bytes_at {l : List Tx} {i : Nat} (h : i < l.length) : ∃ r, (bytesT l).drop (ends l i) = l[i] ++ 10 :: r := by
  refine ⟨bytesT (l.drop (i + 1)), ?_⟩
  have e : bytesT l = bytesT (l.take i) ++ (l[i] ++ 10 :: bytesT (l.drop (i + 1))) := by
    have h1 := bytesT_app (l.take i) (l.drop i)
    rw [List.take_append_drop] at h1
    rw [h1]
    congr 1
    conv => lhs; rw [List.drop_eq_getElem_cons h]
    unfold bytesT
    rw [List.flatMap_cons, List.append_assoc]
    rfl
  rw [e]
  unfold ends
  exact List.drop_left
theorem bytes_line {l : List Tx} {i : Nat} (h : i < l.length) : ((bytesT l).drop (ends l i)).take l[i].length = l[i] := by
  obtain ⟨r, e⟩ := bytes_at h
  rw [e, List.take_left]
theorem ends_lt {l : List Tx} {i : Nat} (h : i < l.length) : ends l i + l[i].length < (bytesT l).length := by
  obtain ⟨r, e⟩ := bytes_at h
  have e := congrArg List.length e
  rw [List.length_drop, List.length_append, List.length_cons] at e
  omega
theorem bytes_end {l : List Tx} {i : Nat} (h : i < l.length) : (bytesT l)[ends l i + l[i].length]'(ends_lt h) = 10 := by
  obtain ⟨r, e⟩ := bytes_at h
  have e2 : ((bytesT l).drop (ends l i))[l[i].length]? = some 10 := by
    rw [e, List.getElem?_append_right (Nat.le_refl _), Nat.sub_self]
    rfl
  rw [List.getElem?_drop, List.getElem?_eq_getElem (ends_lt h)] at e2
  exact Option.some.inj e2
theorem view_win {g off : Nat} {l : List UInt8} (p k c : Nat) (hc : l.length ≤ c) : View (ro (some ⟨g, off, none⟩) (u8s l)) (ro (some ⟨g, sOff off (p : Int) (c : Int) 1, none⟩) (u8s ((l.drop p).take k))) := by
  have v1 := view_rest (g := g) (off := off) (xs := u8s l) p (sOff off (p : Int) (c : Int) 1) (fun h => by rw [u8s_len] at h; unfold sOff; rw [if_neg (by omega)]; simp)
  have v2 := view_front (a := some ⟨g, sOff off (p : Int) (c : Int) 1, none⟩) (xs := (u8s l).drop p) k
  have e : ((u8s l).drop p).take k = u8s ((l.drop p).take k) := by simp [u8s, List.map_take, List.map_drop]
  rw [← e]
  exact v1.trans v2
theorem count_way (t : Tx) : ∃ K : Nat → Nat, K 0 = 0 ∧ (∀ i (h : i < t.length), K (i + 1) = K i + if t[i].toNat = 10 then 1 else 0) ∧ K t.length = t.count 10 ∧ ∀ i, K i ≤ i := by
  refine ⟨fun i => (t.take i).count 10, rfl, fun i h => ?_, ?_, fun i => ?_⟩
  · dsimp only
    rw [← List.take_append_getElem h, List.count_append, List.count_singleton]
    congr 1
    by_cases h2 : t[i].toNat = 10
    · have : t[i] = 10 := UInt8.toNat_inj.1 h2
      rw [if_pos h2, this]; rfl
    · have : t[i] ≠ 10 := fun e => h2 (by rw [e]; rfl)
      rw [if_neg h2, if_neg (by simpa using this)]
  · dsimp only
    rw [List.take_length]
  · dsimp only
    exact Nat.le_trans List.count_le_length (by rw [List.length_take]; omega)
end Go.Proofs.YtgcfomhlgipllaaGreatDoor
