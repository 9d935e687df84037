import Derived.Test.YtmjhcadciblcdaaB5
import Derived.Test.YtmjhcadciblcdaaX17
import Derived.Test.YtmjhcadciblcdaaX16
namespace Go.Proofs.Ytmjhcadciblcdaa
open Go Go.Sx
set_option linter.unusedVariables false
set_option linter.unusedSimpArgs false

def asg : Code := (Code.seq (.region 4 #[{ dst := some 6, op := Op.assign (Operand.tmp 10), type := 22, pos := "frame.go:85", after := #[], guard := none }] false) (.region 5 #[{ dst := some 7, op := Op.assign (Operand.tmp 11), type := 3, pos := "frame.go:85", after := #[], guard := none }] false))
def bdy : Code := (Code.block 1 (Code.seq (.region 6 #[{ dst := some 12, op := Op.load 41 (Operand.tmp 4), type := 41, pos := "frame.go:86", after := #[], guard := none }, { dst := some 13, op := Op.move (Operand.tmp 6), type := 22, pos := "frame.go:86", after := #[], guard := none }, { dst := some 14, op := Op.buildSlice 41 1 #[(0, Operand.tmp 13)], type := 41, pos := "frame.go:86", after := #[{ on := 1, ground := Ground.data }], guard := none }, { dst := some 15, op := Op.call { callee := Callee.builtin Builtin.append, args := #[Operand.tmp 12, Operand.tmp 14], argTypes := #[41, 41] }, type := 41, pos := "frame.go:86", after := #[{ on := 0, ground := Ground.data }, { on := 2, ground := Ground.data }], guard := none }, { dst := none, op := Op.store 41 (Operand.tmp 4) (Operand.tmp 15), type := 0, pos := "frame.go:86", after := #[{ on := 3, ground := Ground.data }, { on := 3, ground := Ground.chain }, { on := 0, ground := Ground.phase }, { on := 1, ground := Ground.phase }, { on := 2, ground := Ground.phase }, { on := 3, ground := Ground.phase }], guard := none }] false) (.region 7 #[{ dst := some 16, op := Op.move (Operand.tmp 7), type := 3, pos := "frame.go:87", after := #[], guard := none }, { dst := none, op := Op.store 3 (Operand.tmp 5) (Operand.tmp 16), type := 0, pos := "frame.go:87", after := #[{ on := 0, ground := Ground.data }, { on := 0, ground := Ground.phase }], guard := none }] false)))
abbrev Part := Option Addr × Nat × List UInt8
def rowOf (x : Part) : Ch := row 5 1 x.1 x.2.2.length x.2.1 (u8s x.2.2)
def valOf' (x : Part) : Value := .slice x.1 x.2.2.length x.2.1
def CC (l D fn : Nat) (tm : Array Value) (go ga : Nat) (s : Option Addr × Nat) (ps : List Part) (p : Nat) : Ch :=
  star [ob l (.loop (rec0 .ready fn tm #[10, 11] asg bdy D)), ob D (.deferred (some [])), .blk go 41 [.slice s.1 ps.length s.2], .blk ga 3 [.int .i64 (p : Int)], row 22 1 s.1 ps.length s.2 (ps.map valOf'), star (ps.map rowOf)]
theorem round_spec (l D fn go ga : Nat) (tm : Array Value) (hsz : tm.size = 19) (h4 : tm.getD 4 undef = .pointer (some ⟨go, 0, none⟩)) (h5 : tm.getD 5 undef = .pointer (some ⟨ga, 0, none⟩))
    (s : Option Addr × Nat) (ps : List Part) (p : Nat) (a : Option Addr) (c : Nat) (x : List UInt8) (nx : Nat) (hn : a = none → x = []) (hx : x.length ≤ 1099511627776) (hps : ps.length < nx) (hnx : nx ≤ 1099511627776) :
    YDoes Try.prog l [.slice a x.length c, .int .i64 ((nx : Nat) : Int)] [row 5 1 a x.length c (u8s x), CC l D fn tm go ga s ps p] (fun v hp' => v = .bool true ∧ ∃ s', hp' = [CC l D fn tm go ga s' (ps ++ [(a, c, x)]) nx]) := by
  intro w hw
  have hS0 : Sat ⟨Try.prog, w, foot [row 5 1 a x.length c (u8s x), CC l D fn tm go ga s ps p], 19, []⟩ ⟨[(10, .slice a x.length c), (11, .int .i64 (nx : Int)), (4, .pointer (some ⟨go, 0, none⟩)), (5, .pointer (some ⟨ga, 0, none⟩))], [row 5 1 a x.length c (u8s x), CC l D fn tm go ga s ps p]⟩
      ⟨(tm.setIfInBounds 10 (.slice a x.length c)).setIfInBounds 11 (.int .i64 (nx : Int)), []⟩ w := by
    refine ⟨by simp [hsz], rfl, fun i v hi => ?_, hw, Ext.refl _ _, Bd.self _ _⟩
    simp only [Sx.look] at hi
    split at hi
    · rename_i e; subst e; cases hi; simp [Array.getD_eq_getD_getElem?, Array.getElem?_setIfInBounds, hsz]
    split at hi
    · rename_i e; subst e; cases hi; simp [Array.getD_eq_getD_getElem?, Array.getElem?_setIfInBounds, hsz]
    split at hi
    · rename_i e; subst e; cases hi; rw [← h4]; simp [Array.getD_eq_getD_getElem?, Array.getElem?_setIfInBounds]
    split at hi
    · rename_i e; subst e; cases hi; rw [← h5]; simp [Array.getD_eq_getD_getElem?, Array.getElem?_setIfInBounds]
    · cases hi
  have hS1 := ent_unstar _ _ (ent_hp [1, 0] rfl _ _ hS0)
  have hl : w.heap[l]? = some (.loop (rec0 .ready fn tm #[10, 11] asg bdy D)) := ob_holds hS1.hs (by simp)
  have hy := run_yield (P := Try.prog) (args := #[.slice a x.length c, .int .i64 (nx : Int)]) hl rfl
  rw [show (((rec0 .ready fn tm #[10, 11] asg bdy D).params.zip #[.slice a x.length c, .int .i64 (nx : Int)]).foldl (fun tmps (t, a) => tmps.setIfInBounds t a) (rec0 .ready fn tm #[10, 11] asg bdy D).tmps) = (tm.setIfInBounds 10 (.slice a x.length c)).setIfInBounds 11 (.int .i64 (nx : Int)) from by kernel_rfl] at hy
  refine ⟨fn, _, asg, bdy, hy, ?_⟩
  refine roundIn_of_wpIn trivial ?_
  unfold asg bdy
  refine wpIn_seq (rnd_region (Γ := ⟨Try.prog, w, foot [row 5 1 a x.length c (u8s x), CC l D fn tm go ga s ps p], 19, []⟩) [0] (by kernel_rfl) (by kernel_rfl) ?_ ?_ hS1)
  · rintro ⟨a', w', h⟩; exact h
  refine wpr_run (l₂ := []) true [0] [] [(6, Value.slice a x.length c), (11, Value.int IntKind.i64 (↑nx : Int)), (4, Value.pointer (some { block := go, off := 0 })), (5, Value.pointer (some { block := ga, off := 0 }))] [ob l (Obj.loop (rec0 LoopState.ready fn tm #[10, 11] asg bdy D)), ob D (Obj.deferred (some [])), Ch.blk go 41 [Value.slice s.1 ps.length s.snd], Ch.blk ga 3 [Value.int IntKind.i64 (↑p : Int)], row 22 1 s.fst ps.length s.snd (List.map valOf' ps), star (List.map rowOf ps), row 5 1 a x.length c (u8s x)] [] (by kernel_rfl) (by kernel_rfl) trivial ?_
  refine wpr_nil ?_
  refine nx_cut fun a2 w2 hS2 => rnd_region [0] (by kernel_rfl) (by kernel_rfl) ?_ ?_ hS2
  · rintro ⟨a', w', h⟩; exact h
  refine wpr_run (l₂ := []) true [0] [] [(7, Value.int IntKind.i64 (↑nx : Int)), (6, Value.slice a x.length c), (4, Value.pointer (some { block := go, off := 0 })), (5, Value.pointer (some { block := ga, off := 0 }))] [ob l (Obj.loop (rec0 LoopState.ready fn tm #[10, 11] asg bdy D)), ob D (Obj.deferred (some [])), Ch.blk go 41 [Value.slice s.1 ps.length s.snd], Ch.blk ga 3 [Value.int IntKind.i64 (↑p : Int)], row 22 1 s.fst ps.length s.snd (List.map valOf' ps), star (List.map rowOf ps), row 5 1 a x.length c (u8s x)] [] (by kernel_rfl) (by kernel_rfl) trivial ?_
  refine wpr_nil ?_
  refine nx_cut fun a3 w3 hS3 => ?_
  have hS4 := hS3.setOb (.loop { rec0 .ready fn tm #[10, 11] asg bdy D with state := .busy })
  refine ⟨_, run_beginRound (ob_holds hS3.hs (List.mem_cons_self ..)) rfl, ?_⟩
  refine wpIn_block (wpIn_seq (rnd_region [0, 1, 2, 3, 4] (by kernel_rfl) (by kernel_rfl) ?_ ?_ hS4))
  · rintro ⟨a', w', h⟩; exact h
  refine wpr_new (l₂ := [3, 4]) true [0, 1, 2] [2] (fun g1 => [(14, Value.slice (some { block := g1, off := 0 }) 1 1), (12, Value.slice s.1 ps.length s.snd), (7, Value.int IntKind.i64 (↑nx : Int)), (4, Value.pointer (some { block := go, off := 0 })), (5, Value.pointer (some { block := ga, off := 0 }))]) (fun g1 => [ob l
      (Obj.loop
        (let __src := rec0 LoopState.ready fn tm #[10, 11] asg bdy D;
        { state := LoopState.busy, pending := __src.pending, fn := __src.fn, tmps := __src.tmps, params := __src.params, assign := __src.assign, body := __src.body, defers := __src.defers })),
    ob D (Obj.deferred (some [])), Ch.blk go 41 [Value.slice s.1 ps.length s.snd], Ch.blk ga 3 [Value.int IntKind.i64 (↑p : Int)], row 22 1 s.fst ps.length s.snd (List.map valOf' ps), star (List.map rowOf ps), row 5 1 a x.length c (u8s x), Ch.blk g1 22 [Value.slice a x.length c]]) (fun g1 => []) (fun g1 => by kernel_rfl) (fun g1 => by kernel_rfl) (fun g1 => trivial) fun g1 => ?_
  refine wpr_ent (ent_turn 7 (ro (some ⟨g1, 0, none⟩) [Value.slice a x.length c]) rfl (turn_rblk (by intro u hu; simp at hu; subst hu; rfl)) rfl) ?_
  refine wpr_app (a := s.1) (n := ps.length) (cap := s.snd) (x := (Value.slice (some { block := g1, off := 0 }) 1 1)) (t := 41) (xt := 41) (dst := some 15) (by kernel_rfl) (e := 22) (sz := 1) (bytes := 24) (by kernel_rfl) 4 (xs := (List.map valOf' ps)) (by kernel_rfl) (m := 1) (news := [Value.slice a x.length c]) (fun w h => src_ro h 7 rfl rfl (fun e => by cases e)) (by unfold maxLen; omega) (by omega) ?_
  intro b d hbd
  refine wpr_run (l₂ := []) true [4] [2] [(7, Value.int IntKind.i64 (↑nx : Int)), (5, Value.pointer (some { block := ga, off := 0 }))] ([ob l
      (Obj.loop
        (let __src := rec0 LoopState.ready fn tm #[10, 11] asg bdy D;
        { state := LoopState.busy, pending := __src.pending, fn := __src.fn, tmps := __src.tmps, params := __src.params, assign := __src.assign, body := __src.body, defers := __src.defers })),
    ob D (Obj.deferred (some [])), Ch.blk go 41 [Value.slice b (ps.length + 1) d], Ch.blk ga 3 [Value.int IntKind.i64 (↑p : Int)], row 22 1 b (ps.length + 1) d (List.map valOf' ps ++ [Value.slice a x.length c]), star (List.map rowOf ps), row 5 1 a x.length c (u8s x), ro (some { block := g1, off := 0 }) [Value.slice a x.length c]]) [] (by kernel_rfl) (by kernel_rfl) trivial ?_
  refine wpr_nil ?_
  refine nx_cut fun a5 w5 hS5 => rnd_region [0, 1] (by kernel_rfl) (by kernel_rfl) ?_ ?_ hS5
  · rintro ⟨a', w', h⟩; exact h
  refine wpr_run (l₂ := []) true [0, 1] [3] [] ([ob l
      (Obj.loop
        (let __src := rec0 LoopState.ready fn tm #[10, 11] asg bdy D;
        { state := LoopState.busy, pending := __src.pending, fn := __src.fn, tmps := __src.tmps, params := __src.params, assign := __src.assign, body := __src.body, defers := __src.defers })),
    ob D (Obj.deferred (some [])), Ch.blk go 41 [Value.slice b (ps.length + 1) d], Ch.blk ga 3 [Value.int IntKind.i64 (↑nx : Int)], row 22 1 b (ps.length + 1) d (List.map valOf' ps ++ [Value.slice a x.length c]), star (List.map rowOf ps), row 5 1 a x.length c (u8s x), ro (some { block := g1, off := 0 }) [Value.slice a x.length c]]) [] (by kernel_rfl) (by kernel_rfl) trivial ?_
  refine wpr_nil ?_
  refine nx_block ?_
  intro a6 w6 hS6
  have hl6 := ob_holds hS6.hs (List.mem_cons_self ..)
  have hS7 := hS6.setOb (.loop (rec0 .ready fn tm #[10, 11] asg bdy D))
  have hS8 := ent_unstar _ _ (ent_hp [5, 5, 0, 0, 0, 0, 0] rfl _ _ hS7)
  have e2 : (ps ++ [(a, c, x)]).length = ps.length + 1 := by simp
  have e3 : (ps ++ [(a, c, x)]).map valOf' = ps.map valOf' ++ [Value.slice a x.length c] := by simp [valOf']
  have e4 : (ps ++ [(a, c, x)]).map rowOf = ps.map rowOf ++ [row 5 1 a x.length c (u8s x)] := by simp [rowOf]
  have hr4 : ∀ ch ∈ (ps ++ [(a, c, x)]).map rowOf, ch.rw := by
    intro ch hch; obtain ⟨y, _, rfl⟩ := List.mem_map.1 hch; trivial
  refine ⟨_, _, run_endRound none hl6, ?_⟩
  have hS9 : Sat ⟨Try.prog, w, foot [row 5 1 a x.length c (u8s x), CC l D fn tm go ga s ps p], 19, []⟩ ⟨[], (ps ++ [(a, c, x)]).map rowOf ++ [ob l (.loop (rec0 .ready fn tm #[10, 11] asg bdy D)), ob D (.deferred (some [])), .blk go 41 [.slice b (ps.length + 1) d], .blk ga 3 [.int .i64 (nx : Int)], row 22 1 b (ps.length + 1) d (ps.map valOf' ++ [Value.slice a x.length c])]⟩ a6 (w6.putObj l (.loop (rec0 .ready fn tm #[10, 11] asg bdy D))) := by
    rw [e4, List.append_assoc]; exact hS8
  have hS10 := ent_star hr4 _ _ hS9
  have hS11 := ent_hp [1, 1, 1, 1, 1, 0] rfl _ _ hS10
  have hr6 : ∀ ch ∈ [ob l (.loop (rec0 .ready fn tm #[10, 11] asg bdy D)), ob D (.deferred (some [])), .blk go 41 [.slice b (ps.length + 1) d], .blk ga 3 [.int .i64 (nx : Int)], row 22 1 b (ps.length + 1) d (ps.map valOf' ++ [Value.slice a x.length c]), star ((ps ++ [(a, c, x)]).map rowOf)], ch.rw := by
    intro ch hch
    simp only [List.mem_cons, List.not_mem_nil, or_false] at hch
    rcases hch with rfl | rfl | rfl | rfl | rfl | rfl <;> trivial
  have hS12 := ent_star (rest := []) hr6 _ _ hS11
  have hC : CC l D fn tm go ga (b, d) (ps ++ [(a, c, x)]) nx = star [ob l (.loop (rec0 .ready fn tm #[10, 11] asg bdy D)), ob D (.deferred (some [])), .blk go 41 [.slice b (ps.length + 1) d], .blk ga 3 [.int .i64 (nx : Int)], row 22 1 b (ps.length + 1) d (ps.map valOf' ++ [Value.slice a x.length c]), star ((ps ++ [(a, c, x)]).map rowOf)] := by
    unfold CC; rw [e2, e3]
  exact ⟨.bool true, [CC l D fn tm go ga (b, d) (ps ++ [(a, c, x)]) nx], ⟨rfl, (b, d), rfl⟩, rfl, hC ▸ hS12.hs, hS12.ext, hC ▸ hS12.bd, fun ch hch => by rw [List.mem_singleton.1 hch]; trivial⟩
theorem Does.ent {P : Program} {f : FuncId} {args : List Value} {pre pre' : Hp} {R R2 : Value → Hp → Prop} (h : Does P f args pre R) (e : ∀ Γ : Cx, Ent Γ ⟨[], pre'⟩ ⟨[], pre⟩)
    (k : ∀ v hp', R v hp' → ∃ hp2, R2 v hp2 ∧ (∀ Γ : Cx, Ent Γ ⟨[], hp'⟩ ⟨[], hp2⟩) ∧ ∀ c ∈ hp2, c.rw) : Does P f args pre' R2 := fun w hw => by
  have hS : Sat ⟨P, w, foot pre', 0, []⟩ ⟨[], pre'⟩ ⟨#[], []⟩ w := ⟨rfl, rfl, fun i v hi => (by cases hi), hw, Ext.refl _ _, Bd.self _ _⟩
  have h2 := e _ _ _ hS
  refine (h w h2.hs).mono ?_
  rintro e' w' ⟨v, hp', hR, rfl, h3, h4, h5, h6⟩
  obtain ⟨hp2, hR2, he2, hrw⟩ := k v hp' hR
  have hS' : Sat ⟨P, w, foot pre, 0, []⟩ ⟨[], hp'⟩ ⟨#[], []⟩ w' := ⟨rfl, rfl, fun i v hi => (by cases hi), h3, h4, h5⟩
  have h7 := he2 _ _ _ hS'
  have hsub : ∀ k, foot pre k → foot pre' k ∨ w.heap.size ≤ k := fun k ⟨c, hc, hcr, hk⟩ => h2.bd c hc hcr k hk
  refine ⟨v, hp2, hR2, rfl, h7.hs, ⟨h7.ext.os, h7.ext.tape, h7.ext.output, h7.ext.size, fun k hk hF => h7.ext.block k hk fun hF' => ?_⟩, fun c hc hcr k hk => ?_, hrw⟩
  · rcases hsub k hF' with h8 | h8
    · exact hF h8
    · omega
  · rcases h7.bd c hc hcr k hk with h8 | h8
    · exact hsub k h8
    · exact .inr h8
/-- What All gives: the rows of what is in the frames. -/
theorem All_spec (a0 : Option Addr) (c0 : Nat) (b : List UInt8) (n0 : a0 = none → b = []) (hcap : b.length ≤ c0) (hb : b.length ≤ 1099511627776) :
    Does Try.prog 20 [.slice a0 b.length c0] [ro a0 (u8s b)] (fun v hp' => ∃ (s : Option Addr × Nat) (ps : List Part), ps.map (·.2.2) = (allL b).1 ∧ v = .tuple #[.slice s.1 ps.length s.2, .int .i64 ((allL b).2 : Int)] ∧ hp' = [row 22 1 s.1 ps.length s.2 (ps.map valOf'), star (ps.map rowOf)]) := by
  refine fn_enter_m (fn := Try.f20) (by kernel_rfl) rfl 19 (by kernel_rfl) fun w0 h0 => ?_
  refine wpc_seq ?_
  refine wpc_region [0, 1] (by kernel_rfl) ?_
  refine wpr_run (l₂ := []) true [0, 1] [] [(3, Value.int IntKind.i64 0), (2, Value.slice none 0 0), (0, Value.slice a0 b.length c0)] [ro a0 (u8s b)] [] (by kernel_rfl) (by kernel_rfl) trivial ?_
  refine wpr_nil ?_
  refine nx_then ?_
  refine wpc_seq ?_
  refine wpc_region [0] (by kernel_rfl) ?_
  refine wpr_new (l₂ := []) true [0] [] (fun g1 => [(4, Value.pointer (some { block := g1, off := 0 })), (3, Value.int IntKind.i64 0), (2, Value.slice none 0 0), (0, Value.slice a0 b.length c0)]) (fun g1 => [ro a0 (u8s b), Ch.blk g1 41 [Value.slice none 0 0]]) (fun g1 => []) (fun g1 => by kernel_rfl) (fun g1 => by kernel_rfl) (fun g1 => trivial) fun g1 => ?_
  refine wpr_nil ?_
  refine nx_then ?_
  refine wpc_seq ?_
  refine wpc_region [0, 1] (by kernel_rfl) ?_
  refine wpr_new (l₂ := [1]) true [0] [] (fun g2 => [(5, Value.pointer (some { block := g2, off := 0 })), (4, Value.pointer (some { block := g1, off := 0 })), (3, Value.int IntKind.i64 0), (2, Value.slice none 0 0), (0, Value.slice a0 b.length c0)]) (fun g2 => [ro a0 (u8s b), Ch.blk g1 41 [Value.slice none 0 0], Ch.blk g2 3 [Value.int IntKind.i64 0]]) (fun g2 => []) (fun g2 => by kernel_rfl) (fun g2 => by kernel_rfl) (fun g2 => trivial) fun g2 => ?_
  refine wpr_run (l₂ := []) true [1] [2] [(5, Value.pointer (some { block := g2, off := 0 })), (4, Value.pointer (some { block := g1, off := 0 })), (3, Value.int IntKind.i64 0), (2, Value.slice none 0 0), (0, Value.slice a0 b.length c0)] [ro a0 (u8s b), Ch.blk g1 41 [Value.slice none 0 0], Ch.blk g2 3 [Value.int IntKind.i64 0]] [] (by kernel_rfl) (by kernel_rfl) trivial ?_
  refine wpr_nil ?_
  refine nx_then ?_
  refine wpc_seq ?_
  refine wpc_seq ?_
  refine wpc_region [0, 1] (by kernel_rfl) ?_
  refine wpr_run (l₂ := [1]) true [0] [] [(8, Value.slice a0 b.length c0), (5, Value.pointer (some { block := g2, off := 0 })), (4, Value.pointer (some { block := g1, off := 0 })), (3, Value.int IntKind.i64 0), (2, Value.slice none 0 0)] [ro a0 (u8s b), Ch.blk g1 41 [Value.slice none 0 0], Ch.blk g2 3 [Value.int IntKind.i64 0]] [] (by kernel_rfl) (by kernel_rfl) trivial ?_
  refine wpr_call (dst := some 9) (rest := [ro a0 (u8s b), Ch.blk g1 41 [Value.slice none 0 0], Ch.blk g2 3 [Value.int IntKind.i64 0]]) (by kernel_rfl) (frames_spec a0 b.length c0) (give [] (by kernel_rfl)) ?_
  rintro v _ ⟨gb, rfl, rfl⟩
  refine wpr_nil ?_
  refine nx_then ?_
  refine wpc_block ?_
  refine wpc_range 9 rfl rfl (by kernel_rfl) rfl fun act hsz hfr fn l D => ?_
  have hD := frames1_spec l gb a0 c0 b n0 hcap hb (CC l D fn act.tmps g1 g2) (fun _ _ _ => trivial) (none, 0) (fun s ps p a c x nx h1 h2 h3 h4 => round_spec l D fn g1 g2 act.tmps hsz (hfr 4 _ rfl) (hfr 5 _ rfl) s ps p a c x nx h1 h2 h3 h4)
  refine ⟨fun v hp' => ∃ (s : Option Addr × Nat) (ps : List Part), ps.map (·.2.2) = (allL b).1 ∧ hp' = [ob l (.loop (rec0 .ready fn act.tmps #[10, 11] asg bdy D)), ob D (.deferred (some [])), .blk g1 41 [.slice s.1 ps.length s.2], .blk g2 3 [.int .i64 ((allL b).2 : Int)], row 22 1 s.1 ps.length s.2 (ps.map valOf'), star (ps.map rowOf), .blk gb 22 [.slice a0 b.length c0]], Does.ent hD (fun Γ => ?_) ?_, ?_⟩
  · intro a' w' hS
    have h1 := ent_nil 22 1 _ _ hS
    have h2 := ent_star (hp := []) (fun c hc => by cases hc) _ _ h1
    have h3 := ent_hp (hp' := [ob l (.loop (rec0 .ready fn act.tmps #[10, 11] asg bdy D)), ob D (.deferred (some [])), .blk g1 41 [.slice none 0 0], .blk g2 3 [.int .i64 0], row 22 1 none 0 0 [], star [], .blk gb 22 [.slice a0 b.length c0], ro a0 (u8s b)]) [2, 2, 4, 4, 1, 0, 0, 0] rfl _ _ h2
    have h4 := ent_star (hp := [ob l (.loop (rec0 .ready fn act.tmps #[10, 11] asg bdy D)), ob D (.deferred (some [])), .blk g1 41 [.slice none 0 0], .blk g2 3 [.int .i64 0], row 22 1 none 0 0 [], star []]) (rest := [.blk gb 22 [.slice a0 b.length c0], ro a0 (u8s b)]) (by
      intro ch hch
      simp only [List.mem_cons, List.not_mem_nil, or_false] at hch
      rcases hch with rfl | rfl | rfl | rfl | rfl | rfl <;> trivial) _ _ h3
    exact h4
  · rintro v hp' ⟨s, ps, hps, rfl⟩
    exact ⟨_, ⟨s, ps, hps, rfl⟩, fun Γ => ent_unstar, by
      intro ch hch
      simp only [List.mem_cons, List.not_mem_nil, or_false] at hch
      rcases hch with rfl | rfl | rfl | rfl | rfl | rfl | rfl <;> trivial⟩
  · rintro v hp' ⟨s, ps, hps, rfl⟩
    refine ⟨_, rfl, ?_⟩
    refine nx_block ?_
    refine nx_then ?_
    refine wpc_seq ?_
    refine wpc_draw (by kernel_rfl) [ob D (Obj.deferred (some [])), Ch.blk g1 41 [Value.slice s.1 ps.length s.snd], Ch.blk g2 3 [Value.int IntKind.i64 (↑(allL b).snd : Int)], row 22 1 s.fst ps.length s.snd (List.map valOf' ps), star (List.map rowOf ps), Ch.blk gb 22 [Value.slice a0 b.length c0]] (sub_of [0, 1, 2, 3, 4, 5] (by kernel_rfl)) 4 (by kernel_rfl) ?_
    refine wpa_take true [(0, [1]), (1, [2]), (2, []), (3, [])] [(3, Value.int IntKind.i64 (↑(allL b).snd : Int)), (2, Value.slice s.1 ps.length s.snd)] (#[true, true, true, true]) [] (n := 0) (by kernel_rfl) (by kernel_rfl) (by kernel_rfl) trivial ?_
    refine wpa_done 0 (by kernel_rfl) ?_
    refine nx_then ?_
    refine wpc_ret ?_
    refine nx_ent (ent_hp [0, 2, 2] rfl) ?_
    exact nx_end_m (.tuple #[.slice s.1 ps.length s.2, .int .i64 ((allL b).2 : Int)]) rfl (by
      intro ch hch
      simp only [List.mem_cons, List.not_mem_nil, or_false] at hch
      rcases hch with rfl | rfl <;> trivial) ⟨s, ps, hps, rfl, rfl⟩ (.inr rfl)
end Go.Proofs.Ytmjhcadciblcdaa
