/-
  The law FrameSums: for every input the Go function returns true, and its arguments read as they did. Out of the contract FrameSums_int.
-/
import Derived.Test.YtmjhcadciblcdaaRows
import Derived.SizedLaws
import Derived.Test.YtmjhcadciblcdaaB8
import Derived.WalkKit
import Derived.ProofKit
import Derived.OpenShut
import Derived.ShutString
import Derived.ChangeOld
import Derived.Below
import Derived.JoinedCond
namespace Go.Proofs.Ytmjhcadciblcdaa.frameSums
open Go.ChangeShapes Go.WideShapes Go.ChangeAt Go.RowKit
open Go.ChangeMaps (open_string shut_string)
open Go.Sx (ro u8s mkS HS Post Ext foot roH cellsAt)
set_option linter.unusedVariables false
set_option linter.unusedSimpArgs false

theorem own : ownKnob Try.prog.godebug = none := by kernel_rfl
theorem laidOut : laidOutB Try.prog = true := by kernel_rfl

theorem below_of {W W' : World} {F : Nat → Prop} (h : Ext W W' F) (hF : ∀ k, ¬ F k) : Below W.heap.size W W' :=
  ⟨h.os, h.tape, h.output, h.size, fun k hk => h.block k hk (hF k)⟩

/-- Bytes that came in: their address, their values. -/
theorem bytes_in {H : Type} {W : World} {base : Nat} {t e : TypeId} {enc : TypeId × Value → H} {held : Bool} (ht : Try.prog.underlying t = some (.slice e)) (he : Try.prog.underlying e = some (.int .u8)) (hc : Try.prog.cellsOf e = 1)
    {a : Option Addr} {len cap : Nat} {d : DataW H} {p : List MemPlace} {fuel : Nat} (hf : DataW.trod enc Try.prog W base (fun _ => true) held fuel t (Value.cells (.slice a len cap)).toList = some (d, p)) :
    ∃ xs : List UInt8, len = xs.length ∧ (a = none → xs = []) ∧ roH a (u8s xs) W ∧ (∀ M : Nat, (∀ el sp, d = .slice el sp → el.length + sp.length ≤ M) → xs.length ≤ M) ∧ xs.length ≤ cap := by
  rcases open_ints ht he hc hf with ⟨hcs, hx⟩ | ⟨x, l, c, zs, hcs, _, hl, hm, hz, hx, hcell, hwz⟩
  · simp [Value.cells] at hcs
    obtain ⟨rfl, rfl, rfl⟩ := hcs
    exact ⟨[], rfl, fun _ => rfl, ⟨fun u hu => (by cases hu), rfl⟩, fun M _ => Nat.zero_le _, Nat.zero_le _⟩
  · simp [Value.cells] at hcs
    obtain ⟨rfl, rfl, rfl⟩ := hcs
    simp only [Prod.mk.injEq] at hx
    obtain ⟨rfl, _⟩ := hx
    have hzc : zs.length = cap := by simpa using hz
    have hlen : (zs.take len).length = len := by rw [List.length_take]; omega
    have hu : u8s ((zs.take len).map fun z => UInt8.ofNat z.toNat) = (zs.take len).map (Value.int .u8) := by
      simp only [u8s, List.map_map]
      apply List.map_congr_left
      intro z hz
      have hw := hwz z (List.mem_of_mem_take hz)
      have hb : 0 ≤ z ∧ z ≤ 255 := by simpa [Lit.wf, IntKind.min, IntKind.max, IntKind.signed, IntKind.bits] using hw
      simp only [Function.comp]
      congr 1
      rw [UInt8.toNat_ofNat']
      omega
    refine ⟨(zs.take len).map (fun z => UInt8.ofNat z.toNat), (by simp; omega), (fun h => by cases h), ⟨Go.Sx.u8s_one _, ?_⟩, ?_, (by simp; omega)⟩
    · show cellsAt W x _
      rw [hu]
      intro j u hj
      rw [List.getElem?_map] at hj
      obtain ⟨z, hz1, rfl⟩ := Option.map_eq_some_iff.1 hj
      rw [List.getElem?_take] at hz1
      split at hz1
      · rename_i hjl
        rw [hcell j (by omega), List.getD_eq_getElem?_getD, hz1]; rfl
      · cases hz1
    · intro M hM
      have h2 := hM _ _ rfl
      have h3 : (lits (H := H) .u8 (zs.take len)).length = len := by simp [lits]; omega
      simp only [List.length_map]
      omega

set_option maxRecDepth 100000 in
theorem contract (H : Type) (enc : TypeId × Value → H) (W : World) (base : Nat) (args : Array Value) (ds gs : List (DataW H)) (before : List MemPlace)
    (hval : ∀ (j : Nat) t v, Try.f3.params[j]? = some t → args[j]? = some v → Value.okWide Try.prog W .any base t v)
    (hW : DataW.Whole enc Try.prog Try.f3.params.toList Rows.frameSumsSpec.vars false W args.toList ds gs before) (hz : (DataW.weightsEach Try.prog (Try.f3.params.toList ++ Rows.frameSumsSpec.plain.varTypes Try.prog) (ds ++ gs)).all (· ≤ reachBytes) = true) :
    Calls Try.prog 3 args W fun e W' => ∃ v, e = .returned v ∧ Rows.frameSumsSpec.post enc Try.prog Try.f3 false true false false W args v W' := by
  have hW' := hW
  obtain ⟨p, q, hA0, hV, rfl, hfz, hnd⟩ := hW
  have hA : DataW.TrodAll enc Try.prog W 0 (fun _ => true) true Try.f3.params.toList args.toList ds p := hA0
  rw [Try.params3] at hA hval
  obtain ⟨v0, vs0, d0, ds0, p0, q0, hargs, rfl, rfl, h0, r0⟩ := trodAll_cons hA
  obtain ⟨v1, vs1, d1, ds1, p1, q1, rfl, rfl, rfl, h1, r1⟩ := trodAll_cons r0
  obtain ⟨rfl, rfl, rfl⟩ := trodAll_nil r1
  obtain rfl : args = #[v0, v1] := by cases args; simp_all
  obtain ⟨rfl, rfl⟩ := trodVars_none hV
  obtain ⟨a0, len0, cap0, rfl⟩ := okWide_slice Try.underlying22 (hval 0 22 v0 rfl rfl)
  have k0 := h0
  have lt0 : ∀ x ∈ p0, x.block < W.heap.size := by obtain ⟨m, hm⟩ := k0; exact DataW.trod_lt m _ _ _ hm
  obtain ⟨fu0, hf0⟩ := h0
  obtain ⟨x0, rfl, hn0, hro0, hbk0, hcp0⟩ := bytes_in (e := 5) Try.underlying22 Try.underlying5 (by kernel_rfl) hf0
  have hx0 : x0.length ≤ 140737488351232 := hbk0 _ (fun el sp e => by
    have h := sized_slice hz (j := 0) (t := 22) (e := 5) (elems := el) (spare := sp) (by kernel_rfl) (by rw [← e]; rfl) Try.underlying22
    have h1 : 1 ≤ Try.prog.bytesOf 5 := Nat.le_of_ble_eq_true (by kernel_rfl)
    exact Nat.le_trans (Nat.le_trans (Nat.le_mul_of_pos_right _ h1) h) (by decide))
  obtain ⟨x1, rfl, rfl, rfl, wf1⟩ := open_int Try.underlying23 (hval 1 23 v1 rfl rfl) h1
  clear hA0
  have hpre : HS [ro a0 (u8s x0)] W := ⟨by
    intro c hc
    simp only [List.mem_cons, List.mem_nil_iff, or_false] at hc
    rcases hc with rfl
    · exact hro0
    , by simp [List.pairwise_cons, Go.Sx.Apart, ro, Go.Sx.roQ, Go.Sx.Ch.rw]⟩
  refine ((FrameSums_int a0 cap0 x0 x1 hn0 (by omega) (by have h := wf1; simp [Lit.wf, IntKind.min, IntKind.max, IntKind.signed, IntKind.bits] at h; omega) (by have h := wf1; simp [Lit.wf, IntKind.min, IntKind.max, IntKind.signed, IntKind.bits] at h; omega)) W hpre).mono fun e W' hP => ?_
  obtain ⟨v, hp', ⟨rfl, rfl⟩, rfl, _, hext, _, _⟩ := hP
  have bel := below_of hext (by
    rintro k ⟨c, hc, hr, _⟩
    simp only [List.mem_cons, List.mem_nil_iff, or_false] at hc
    rcases hc with rfl <;> exact hr)
  exact ⟨_, rfl, _, _, _, [], _, [], hW', trodAll_mk1 (shut_bool Try.underlying4 _), (trodAll_cons_mk (Below.trod laidOut (by kernel_rfl) (of_decide_eq_true (by kernel_rfl)) k0 bel lt0) (trodAll_cons_mk (shut_int Try.underlying23 wf1) trodAll_mk0)), rfl, bel.frame _, fun h => by cases h⟩
set_option maxRecDepth 100000 in
theorem lifted (os : Os) (started : os.Started) (H : Type) (enc : TypeId × Value → H) :
    ReturnsInHanded {} Try.checked os 3 .any (Rows.frameSumsSpec.pre6 enc Try.prog Try.f3 Rows.frameSumsRow.domain false) (Rows.frameSumsSpec.post enc Try.prog Try.f3 false true false false) := by
  refine returnsInHanded_of_change_sized (C := Try.checked) own started (by kernel_rfl) Try.func3
    (ChangeSpec.witness6 (enc := enc) (C := Try.checked) false ⟨#[], #[.slice none 0 0, .int .u32 0], []⟩ 8 (by kernel_rfl) (by kernel_rfl) (by kernel_rfl) (by kernel_rfl)) ?_
  intro W base args ds gs before hval hW _ hz _
  exact contract H enc W base args ds gs before hval hW hz
theorem proved : Rows.FrameSumsSaid :=
  OpenClaim.holds_of_wide 3 Try.f3 rfl rfl rfl rfl rfl rfl rfl ⟨rfl, rfl, rfl, rfl, rfl⟩ rfl rfl rfl rfl rfl (by kernel_rfl) Try.func3 (by kernel_rfl)
    (of_decide_eq_true (by kernel_rfl)) (by unfold Func.isWrapper; first | (rw [if_pos (by decide +kernel)]; kernel_rfl) | (rw [if_neg (by decide +kernel)]; exact ⟨rfl, rfl⟩))
    (fun os started H enc _ => lifted os started H enc)
end Go.Proofs.Ytmjhcadciblcdaa.frameSums
