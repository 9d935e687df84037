/-
  The law FrameCut: for every input the Go function returns true, and its arguments read as they did. Out of the function's contract.
-/
import Derived.Test.YtmjhcadciblcdaaRows
import Derived.Test.YtmjhcadciblcdaaB22
import Derived.Test.YtmjhcadciblcdaaX14
import Derived.WalkKit
import Derived.ProofKit
import Derived.OpenShut
import Derived.ShutString
import Derived.ChangeOld
import Derived.Below
import Derived.JoinedCond
namespace Go.Proofs.Ytmjhcadciblcdaa.frameCut
open Go.ChangeShapes Go.WideShapes Go.ChangeAt Go.RowKit
open Go.Sx (ro HS Post Ext foot deep Shape Opens)
set_option linter.unusedVariables false
set_option linter.unusedSimpArgs false

theorem own : ownKnob Try.prog.godebug = none := by kernel_rfl
theorem laidOut : laidOutB Try.prog = true := by kernel_rfl
theorem below_of {W W' : World} {F : Nat → Prop} (h : Ext W W' F) (hF : ∀ k, ¬ F k) : Below W.heap.size W W' :=
  ⟨h.os, h.tape, h.output, h.size, fun k hk => h.block k hk (hF k)⟩

set_option maxRecDepth 100000 in
theorem contract (H : Type) (enc : TypeId × Value → H) (W : World) (base : Nat) (args : Array Value) (ds gs : List (DataW H)) (before : List MemPlace)
    (hval : ∀ (j : Nat) t v, Try.f7.params[j]? = some t → args[j]? = some v → Value.okWide Try.prog W .any base t v)
    (hW : DataW.Whole enc Try.prog Try.f7.params.toList Rows.frameCutSpec.vars false W args.toList ds gs before) :
    Calls Try.prog 7 args W fun e W' => ∃ v, e = .returned v ∧ Rows.frameCutSpec.post enc Try.prog Try.f7 false true false false W args v W' := by
  have hW' := hW
  obtain ⟨p, q, hA0, hV, rfl, hfz, hnd⟩ := hW
  have hA : DataW.TrodAll enc Try.prog W 0 (fun _ => true) true Try.f7.params.toList args.toList ds p := hA0
  rw [Try.params7] at hA hval
  obtain ⟨v0, vs0, d0, ds0, p0, q0, hargs, rfl, rfl, h0, r0⟩ := trodAll_cons hA
  obtain ⟨v1, vs1, d1, ds1, p1, q1, rfl, rfl, rfl, h1, r1⟩ := trodAll_cons r0
  obtain ⟨rfl, rfl, rfl⟩ := trodAll_nil r1
  obtain rfl : args = #[v0, v1] := by cases args; simp_all
  obtain ⟨rfl, rfl⟩ := trodVars_none hV
  have k0 := h0
  have lt0 : ∀ x ∈ p0, x.block < W.heap.size := by obtain ⟨m, hm⟩ := k0; exact DataW.trod_lt m _ _ _ hm
  obtain ⟨fu0, hf0⟩ := h0
  obtain ⟨x0, hC0, hD0, hB0, hV0⟩ := (opens_rows : Opens Try.prog 41 _ (Go.Sx.sliceS (Go.Sx.sliceS (Go.Sx.intS .u8)))).2.2 fu0 _ _ hf0
  have hv0 := Go.Sx.val_one (fun cs hcs => by have hw := okWide_slice Try.underlying41 (hval 0 41 v0 rfl rfl); rw [hcs] at hw; simp at hw) hC0
  have k1 := h1
  have lt1 : ∀ x ∈ p1, x.block < W.heap.size := by obtain ⟨m, hm⟩ := k1; exact DataW.trod_lt m _ _ _ hm
  obtain ⟨fu1, hf1⟩ := h1
  obtain ⟨x1, hC1, hD1, hB1, hV1⟩ := (Go.Sx.opens_int Try.underlying3 (by kernel_rfl) : Opens Try.prog 3 _ (Go.Sx.intS .i64)).2.2 fu1 _ _ hf1
  have hv1 := Go.Sx.val_one (fun cs hcs => by have hw := okWide_int Try.underlying3 (hval 1 3 v1 rfl rfl); rw [hcs] at hw; simp at hw) hC1
  clear hA0
  have hpre : HS [deep (Go.Sx.sliceS (Go.Sx.sliceS (Go.Sx.intS .u8))) x0, deep (Go.Sx.intS .i64) x1] W := Go.Sx.hs_ro (by
    intro c hc
    simp only [List.mem_cons, List.mem_nil_iff, or_false] at hc
    rcases hc with rfl | rfl
    · exact hD0
    · exact hD1
    ) (by
    intro c hc
    simp only [List.mem_cons, List.mem_nil_iff, or_false] at hc
    rcases hc with rfl | rfl <;> exact fun h => h)
  have hcall := (FrameCut_in x0 x1 hV0 (Go.Sx.wf_i64 hV1).1 (Go.Sx.wf_i64 hV1).2) W hpre
  rw [show #[v0, v1] = ([v0, v1] : List Value).toArray from rfl]
  refine (show Calls Try.prog 7 ([v0, v1] : List Value).toArray W (Post W [deep (Go.Sx.sliceS (Go.Sx.sliceS (Go.Sx.intS .u8))) x0, deep (Go.Sx.intS .i64) x1] (fun v hp' => v = .bool true ∧ hp' = [])) by rw [hv0, hv1]; exact hcall).mono fun e W' hP => ?_
  obtain ⟨v, hp', ⟨rfl, rfl⟩, rfl, _, hext, _, _⟩ := hP
  have bel := below_of hext (by
    rintro k ⟨c, hc, hr, _⟩
    simp only [List.mem_cons, List.mem_nil_iff, or_false] at hc
    rcases hc with rfl | rfl <;> exact hr)
  exact ⟨_, rfl, _, _, _, [], _, [], hW', trodAll_mk1 (shut_bool Try.underlying4 _), (trodAll_cons_mk (Below.trod laidOut (by kernel_rfl) (of_decide_eq_true (by kernel_rfl)) k0 bel lt0) (trodAll_cons_mk (Below.trod laidOut (by kernel_rfl) (of_decide_eq_true (by kernel_rfl)) k1 bel lt1) trodAll_mk0)), rfl, bel.frame _, fun h => by cases h⟩
set_option maxRecDepth 100000 in
theorem lifted (os : Os) (started : os.Started) (H : Type) (enc : TypeId × Value → H) :
    ReturnsInHanded {} Try.checked os 7 .any (Rows.frameCutSpec.pre6 enc Try.prog Try.f7 Rows.frameCutRow.domain false) (Rows.frameCutSpec.post enc Try.prog Try.f7 false true false false) := by
  refine returnsInHanded_of_change (C := Try.checked) own started (by kernel_rfl) Try.func7
    (ChangeSpec.witness6 (enc := enc) (C := Try.checked) false ⟨#[], #[.slice none 0 0, .int .i64 0], []⟩ 8 (by kernel_rfl) (by kernel_rfl) (by kernel_rfl) (by kernel_rfl)) ?_
  intro W base args ds gs before hval hW _ _
  exact contract H enc W base args ds gs before hval hW
theorem proved : Rows.FrameCutSaid :=
  OpenClaim.holds_of_wide 7 Try.f7 rfl rfl rfl rfl rfl rfl rfl ⟨rfl, rfl, rfl, rfl, rfl⟩ rfl rfl rfl rfl rfl (by kernel_rfl) Try.func7 (by kernel_rfl)
    (of_decide_eq_true (by kernel_rfl)) (by unfold Func.isWrapper; first | (rw [if_pos (by decide +kernel)]; kernel_rfl) | (rw [if_neg (by decide +kernel)]; exact ⟨rfl, rfl⟩))
    (fun os started H enc _ => lifted os started H enc)
end Go.Proofs.Ytmjhcadciblcdaa.frameCut
