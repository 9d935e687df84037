import Derived.Lib.LaidTab
import Derived.Stop.LaidErr
import Derived.Test.YtgcfomhlgipllaaGreatDoorCb6
set_option linter.unusedVariables false
set_option linter.unusedSimpArgs false
namespace Go.Proofs.YtgcfomhlgipllaaGreatDoor
open Go Go.Sx
/-! What the row's list lays: the words, the powers of ten, the ops' names. Codes that come in. -/
abbrev laidL : List (String × DataW Unit) := [("math/bits.deBruijn32tab", Rows.laid_math_bits_deBruijn32tab), ("math/bits.deBruijn64tab", Rows.laid_math_bits_deBruijn64tab), ("internal/strconv.uint64pow10", Rows.laid_internal_strconv_uint64pow10), ("hindcast/lex.words", Rows.laid_hindcast_lex_words), ("hindcast/lex.signs", Rows.laid_hindcast_lex_signs), ("hindcast/code.names", Rows.laid_hindcast_code_names)]
theorem pow_in {W : World} (h : laidMet Tryz.prog laidL W) : gPow.holds W := by
  have h2 := h.tail.tail
  exact Lib.tabIs_of_head (g := 3) (t := 289) (e := 178) (n := 20) (by kernel_rfl) (by kernel_rfl) (by kernel_rfl) (by kernel_rfl) (by kernel_rfl) (by kernel_rfl) h2
def strData {H : Type} (l : List (List UInt8)) : DataW H := .agg (l.map fun s => .lit (.string s))
theorem cells_of_strs {H : Type} {enc : TypeId × Value → H} {P : Program} {w : World} {base : Nat} {sp : Nat → Bool} {held : Bool} {fuel : Nat} {t e : TypeId} {n : Nat} {cs : List Value} {zs : List (List UInt8)} {p : List MemPlace}
    (ht : P.underlying t = some (.array n e)) (he : P.underlying e = some .string) (hce : P.cellsOf e = 1) (hct : P.cellsOf t = n)
    (h : DataW.trod enc P w base sp held fuel t cs = some (strData zs, p)) : cs = zs.map strV := by
  cases fuel with
  | zero => simp [DataW.trod] at h
  | succ fuel =>
    simp only [DataW.trod, ht, hce, hct, Nat.mul_one] at h
    split at h
    · rename_i hl
      obtain ⟨xs, hm, hx⟩ := Option.map_eq_some_iff.1 h
      have hxs : xs.map (·.1) = zs.map fun z => (DataW.lit (.string z) : DataW H) := by
        have := congrArg Prod.fst hx
        simpa [strData] using this
      have hxl : xs.length = n := by simpa using Lib.mapM_length hm
      have hzl : zs.length = n := by
        have := congrArg List.length hxs
        simp at this
        omega
      apply List.ext_getElem?
      intro i
      by_cases hi : i < n
      · obtain ⟨b, hb, hf⟩ := Lib.mapM_at hm i i (by simp [hi])
        obtain ⟨z, hc, rfl, _⟩ := DataW.trod_string he hf
        have h1 : cs[i]? = some (.string z) := by
          have := congrArg (·[0]?) hc
          simpa [List.getElem?_take, List.getElem?_drop] using this
        have h2 : (xs.map (·.1))[i]? = some (DataW.lit (.string z.data.toList) : DataW H) := by simp [hb]
        rw [hxs] at h2
        simp only [List.getElem?_map, Option.map_eq_some_iff, DataW.lit.injEq, Lit.string.injEq] at h2
        obtain ⟨z', hz', rfl⟩ := h2
        simp [h1, hz', strV, mkS]
      · rw [List.getElem?_eq_none (by omega), List.getElem?_eq_none (by simp; omega)]
    · cases h
theorem strs_of_head {P : Program} {W : World} {name : String} {zs : List (List UInt8)} {rest : List (String × DataW Unit)} {g : Nat} {t e : TypeId} {n : Nat}
    (hg : P.globalNamed name = some g) (hty : (P.globals[g]?).map (·.type) = some t) (ht : P.underlying t = some (.array n e)) (he : P.underlying e = some .string) (hce : P.cellsOf e = 1) (hct : P.cellsOf t = n)
    (h : laidMet P ((name, strData zs) :: rest) W) : W.var? P name = some (zs.map strV).toArray := by
  obtain ⟨ps, ⟨g', t', cs, fuel, p, q, hg', ht', hvar, hd, _, _⟩, _⟩ := h
  obtain rfl := Option.some.inj (hg.symm.trans hg')
  obtain rfl := Option.some.inj (hty.symm.trans ht')
  rw [hvar, ← cells_of_strs ht he hce hct hd]
theorem cells_of_var {W : World} {name : String} {g : Nat} {zs : List (List UInt8)} (hg : Tryz.prog.globalNamed name = some g) (h3 : W.var? Tryz.prog name = some (zs.map strV).toArray) : (ro (some ⟨g, 0, none⟩) (zs.map strV)).holds W := by
  refine ⟨fun u hu => (by obtain ⟨x, _, rfl⟩ := List.mem_map.1 hu; rfl), ?_⟩
  show cellsAt W _ _
  intro j u hj
  have h4 := World.var?_cell (i := j) hg h3
  have hadd : (⟨g, 0, none⟩ : Addr).add j = ⟨g, 0 + j, none⟩ := by unfold Addr.add; split <;> simp_all
  rw [hadd, Nat.zero_add, h4]
  simpa using hj
theorem words_in {W : World} (h : laidMet Tryz.prog laidL W) : gWords.holds W := by
  have h2 := h.tail.tail.tail
  have h3 := strs_of_head (g := 2) (t := 250) (e := 9) (n := 10) (zs := wordsL) (by kernel_rfl) (by kernel_rfl) (by kernel_rfl) (by kernel_rfl) (by kernel_rfl) (by kernel_rfl) h2
  exact cells_of_var (by kernel_rfl) h3
theorem names_in {W : World} (h : laidMet Tryz.prog laidL W) : gNames.holds W := by
  have h2 := h.tail.tail.tail.tail.tail
  have h3 := strs_of_head (g := 0) (t := 119) (e := 9) (n := 35) (zs := opNames) (by kernel_rfl) (by kernel_rfl) (by kernel_rfl) (by kernel_rfl) (by kernel_rfl) (by kernel_rfl) h2
  exact cells_of_var (by kernel_rfl) h3
/-! ### shapes -/
abbrev Sh2 := List UInt8 × Sl (List UInt8)
def shS : Shape Sh2 := upS (pairS strS (sliceS strS))
theorem opens_sh : Opens Tryz.prog 111 2 shS :=
  opens_struct Tryz.underlying111 (by kernel_rfl) (opensFs_cons (off := 0) (k := 1) (m := 1) (opens_str Tryz.underlying9 (by kernel_rfl)) rfl (by kernel_rfl)
    (opensFs_one (opens_slice Tryz.underlying22 (by kernel_rfl) (opens_str Tryz.underlying9 (by kernel_rfl))) rfl))
def inS : Shape (Int × Int) := upS (pairS (intS .i64) (intS .i64))
theorem opens_in : Opens Tryz.prog 62 2 inS :=
  opens_struct Tryz.underlying62 (by kernel_rfl) (opensFs_cons (off := 0) (k := 1) (m := 1) (opens_int Tryz.underlying60 (by kernel_rfl)) rfl (by kernel_rfl)
    (opensFs_one (opens_int Tryz.underlying3 (by kernel_rfl)) rfl))
abbrev Vr2 := List UInt8 × Int × Int × Int
def vrS : Shape Vr2 := upS (pairS strS (pairS (intS .i64) (pairS (intS .i64) (intS .i64))))
theorem opens_vr : Opens Tryz.prog 116 4 vrS :=
  opens_struct Tryz.underlying116 (by kernel_rfl) (opensFs_cons (off := 0) (k := 1) (m := 3) (opens_str Tryz.underlying9 (by kernel_rfl)) rfl (by kernel_rfl)
    (opensFs_cons (off := 1) (k := 1) (m := 2) (opens_int Tryz.underlying3 (by kernel_rfl)) rfl (by kernel_rfl)
    (opensFs_cons (off := 2) (k := 1) (m := 1) (opens_int Tryz.underlying3 (by kernel_rfl)) rfl (by kernel_rfl)
    (opensFs_one (opens_int Tryz.underlying3 (by kernel_rfl)) rfl))))
abbrev Un2 := List UInt8 × Int × Int × Int × Bool × Sl (Int × Int) × Sl Vr2
def unS : Shape Un2 := upS (pairS strS (pairS (intS .i64) (pairS (intS .i64) (pairS (intS .i64) (pairS boolS (pairS (sliceS inS) (sliceS vrS)))))))
theorem opens_un : Opens Tryz.prog 59 7 unS :=
  opens_struct Tryz.underlying59 (by kernel_rfl) (opensFs_cons (off := 0) (k := 1) (m := 6) (opens_str Tryz.underlying9 (by kernel_rfl)) rfl (by kernel_rfl)
    (opensFs_cons (off := 1) (k := 1) (m := 5) (opens_int Tryz.underlying3 (by kernel_rfl)) rfl (by kernel_rfl)
    (opensFs_cons (off := 2) (k := 1) (m := 4) (opens_int Tryz.underlying3 (by kernel_rfl)) rfl (by kernel_rfl)
    (opensFs_cons (off := 3) (k := 1) (m := 3) (opens_int Tryz.underlying3 (by kernel_rfl)) rfl (by kernel_rfl)
    (opensFs_cons (off := 4) (k := 1) (m := 2) (opens_bool Tryz.underlying4 (by kernel_rfl)) rfl (by kernel_rfl)
    (opensFs_cons (off := 5) (k := 1) (m := 1) (opens_slice Tryz.underlying56 (by kernel_rfl) opens_in) rfl (by kernel_rfl)
    (opensFs_one (opens_slice Tryz.underlying57 (by kernel_rfl) opens_vr) rfl)))))))
abbrev Co2 := Sl (List UInt8) × Sl Sh2 × Sl Un2 × Int
def coS : Shape Co2 := upS (pairS (sliceS strS) (pairS (sliceS shS) (pairS (sliceS unS) (intS .i64))))
theorem opens_co : Opens Tryz.prog 26 4 coS :=
  opens_struct Tryz.underlying26 (by kernel_rfl) (opensFs_cons (off := 0) (k := 1) (m := 3) (opens_slice Tryz.underlying22 (by kernel_rfl) (opens_str Tryz.underlying9 (by kernel_rfl))) rfl (by kernel_rfl)
    (opensFs_cons (off := 1) (k := 1) (m := 2) (opens_slice Tryz.underlying23 (by kernel_rfl) opens_sh) rfl (by kernel_rfl)
    (opensFs_cons (off := 2) (k := 1) (m := 1) (opens_slice Tryz.underlying24 (by kernel_rfl) opens_un) rfl (by kernel_rfl)
    (opensFs_one (opens_int Tryz.underlying3 (by kernel_rfl)) rfl))))
def toSh (x : Sh2) : ShV := ⟨x.1, x.2.1, x.2.2.1, x.2.2.2⟩
def toVr (x : Vr2) : VarP := ⟨x.1, x.2.1, x.2.2.1, x.2.2.2⟩
def toUn (x : Un2) : UnV := ⟨x.1, x.2.1, x.2.2.1, x.2.2.2.1, x.2.2.2.2.1, x.2.2.2.2.2.1.1, x.2.2.2.2.2.1.2.1, x.2.2.2.2.2.1.2.2, x.2.2.2.2.2.2.1, x.2.2.2.2.2.2.2.1, x.2.2.2.2.2.2.2.2.map toVr⟩
def toCo (x : Co2) : CoV := ⟨x.1.1, x.1.2.1, x.1.2.2, x.2.1.1, x.2.1.2.1, x.2.1.2.2.map toSh, x.2.2.1.1, x.2.2.1.2.1, x.2.2.1.2.2.map toUn, x.2.2.2⟩
theorem strS_C : ∀ l : List (List UInt8), l.flatMap strS.C = strsC l
  | [] => rfl
  | x :: l => by rw [List.flatMap_cons, strS_C l]; rfl
theorem inS_C : ∀ l : List (Int × Int), l.flatMap inS.C = l.flatMap insC
  | [] => rfl
  | x :: l => by rw [List.flatMap_cons, List.flatMap_cons, inS_C l]; rfl
theorem vrS_C : ∀ l : List Vr2, l.flatMap vrS.C = (l.map toVr).flatMap varC
  | [] => rfl
  | x :: l => by rw [List.flatMap_cons, vrS_C l]; rfl
theorem shS_C : ∀ l : List Sh2, l.flatMap shS.C = (l.map toSh).flatMap shC
  | [] => rfl
  | x :: l => by rw [List.flatMap_cons, shS_C l]; rfl
theorem unS_C1 (x : Un2) : unS.C x = unC (toUn x) := by
  show [Value.string (mkS x.1)] ++ ([Value.int .i64 x.2.1] ++ ([Value.int .i64 x.2.2.1] ++ ([Value.int .i64 x.2.2.2.1] ++ ([Value.bool x.2.2.2.2.1] ++ ([Value.slice x.2.2.2.2.2.1.1 x.2.2.2.2.2.1.2.2.length x.2.2.2.2.2.1.2.1] ++ [Value.slice x.2.2.2.2.2.2.1 x.2.2.2.2.2.2.2.2.length x.2.2.2.2.2.2.2.1]))))) = _
  simp [unC, toUn]
theorem unS_C : ∀ l : List Un2, l.flatMap unS.C = (l.map toUn).flatMap unC
  | [] => rfl
  | x :: l => by rw [List.flatMap_cons, unS_C l, unS_C1]; rfl
theorem coS_C (x : Co2) : coS.C x = coC (toCo x) := by
  show [Value.slice x.1.1 x.1.2.2.length x.1.2.1] ++ ([Value.slice x.2.1.1 x.2.1.2.2.length x.2.1.2.1] ++ ([Value.slice x.2.2.1.1 x.2.2.1.2.2.length x.2.2.1.2.1] ++ [Value.int .i64 x.2.2.2])) = _
  simp [coC, toCo]
theorem co_hold {x : Co2} {w : World} (h : (deep coS x).holds w) : ∀ c ∈ coHp (toCo x), c.holds w := by
  have h1 : (deep (sliceS strS) x.1).holds w := h.1
  have h2 : (deep (sliceS shS) x.2.1).holds w := h.2.1
  have h3 : (deep (sliceS unS) x.2.2.1).holds w := h.2.2.1
  have f1 := view_flat.holds w h1
  have f2 := view_flat.holds w h2
  have f3 := view_flat.holds w h3
  rw [strS_C] at f1
  rw [shS_C] at f2
  rw [unS_C] at f3
  intro c hc
  simp only [coHp, List.mem_cons, List.not_mem_nil, or_false] at hc
  rcases hc with rfl | rfl | rfl | rfl | rfl
  · exact f1
  · exact f2
  · intro d hd
    obtain ⟨t, ht, rfl⟩ := List.mem_map.1 hd
    obtain ⟨z, hz, rfl⟩ := List.mem_map.1 ht
    have h4 : (deep shS z).holds w := (view_elem hz).holds w h2
    have h5 : (deep (sliceS strS) z.2).holds w := h4.2
    have f5 := view_flat.holds w h5
    rw [strS_C] at f5
    exact f5
  · exact f3
  · intro d hd
    obtain ⟨t, ht, hd⟩ := List.mem_flatMap.1 hd
    obtain ⟨z, hz, rfl⟩ := List.mem_map.1 ht
    have h4 : (deep unS z).holds w := (view_elem hz).holds w h3
    have h5 : (deep (sliceS inS) z.2.2.2.2.2.1).holds w := h4.2.2.2.2.2.1
    have h6 : (deep (sliceS vrS) z.2.2.2.2.2.2).holds w := h4.2.2.2.2.2.2
    have f5 := view_flat.holds w h5
    have f6 := view_flat.holds w h6
    rw [inS_C] at f5
    rw [vrS_C] at f6
    simp only [unRo, List.mem_cons, List.not_mem_nil, or_false] at hd
    rcases hd with rfl | rfl
    · exact f5
    · exact f6
theorem strS_B (x : List UInt8) : strS.B x = x.length + 1 := rfl
theorem shS_B (x : Sh2) : shS.B x = (x.1.length + 1) + (sumB strS x.2.2.2 + 1) + 1 := rfl
theorem inS_B (x : Int × Int) : inS.B x = 3 := rfl
theorem vrS_B (x : Vr2) : vrS.B x = (x.1.length + 1) + (1 + (1 + 1)) + 1 := rfl
theorem unS_B (x : Un2) : unS.B x = (x.1.length + 1) + (1 + (1 + (1 + (1 + ((sumB inS x.2.2.2.2.2.1.2.2 + 1) + (sumB vrS x.2.2.2.2.2.2.2.2 + 1)))))) + 1 := rfl
theorem coS_B (x : Co2) : coS.B x = (sumB strS x.1.2.2 + 1) + ((sumB shS x.2.1.2.2 + 1) + ((sumB unS x.2.2.1.2.2 + 1) + 1)) + 1 := rfl
theorem sh_ok {x : Sh2} (hB : shS.B x ≤ 1048576) : (toSh x).ok := by
  rw [shS_B] at hB
  have l1 := le_sumB strS (fun y => by rw [strS_B]; omega) x.2.2.2
  refine ⟨by show x.1.length ≤ _; omega, by show x.2.2.2.length ≤ _; omega, fun t ht => ?_⟩
  have h1 : t ∈ x.2.2.2 := ht
  have := mem_sumB strS x.2.2.2 t h1
  rw [strS_B] at this
  show t.length ≤ _
  omega
theorem un_ok {x : Un2} (hV : unS.V x) (hB : unS.B x ≤ 1048576) : (toUn x).ok := by
  rw [unS_B] at hB
  obtain ⟨-, v1, v2, v3, -, v5, v6⟩ := hV
  have l1 := le_sumB inS (fun y => by rw [inS_B]; omega) x.2.2.2.2.2.1.2.2
  have l2 := le_sumB vrS (fun y => by rw [vrS_B]; omega) x.2.2.2.2.2.2.2.2
  refine ⟨by show x.1.length ≤ _; omega, wf_i64 v1, wf_i64 v2, wf_i64 v3, by show x.2.2.2.2.2.1.2.2.length ≤ _; omega, by show (x.2.2.2.2.2.2.2.2.map toVr).length ≤ _; rw [List.length_map]; omega, fun y hy => ?_, fun v hv => ?_⟩
  · have h1 : y ∈ x.2.2.2.2.2.1.2.2 := hy
    have hy2 := v5.2.2.2 y h1
    exact ⟨wf_i64 hy2.1, wf_i64 hy2.2⟩
  · obtain ⟨z, hz, rfl⟩ := List.mem_map.1 hv
    have hz2 := v6.2.2.2 z hz
    have := mem_sumB vrS x.2.2.2.2.2.2.2.2 z hz
    rw [vrS_B] at this
    exact ⟨by show z.1.length ≤ _; omega, wf_i64 hz2.2.1, wf_i64 hz2.2.2.1, wf_i64 hz2.2.2.2⟩
theorem coI_ok {x : Co2} (hV : coS.V x) (hB : coS.B x ≤ 1048576) : (toCo x).ok := by
  rw [coS_B] at hB
  obtain ⟨v1, v2, v3, v4⟩ := hV
  have l1 := le_sumB strS (fun y => by rw [strS_B]; omega) x.1.2.2
  have l2 := le_sumB shS (fun y => by rw [shS_B]; omega) x.2.1.2.2
  have l3 := le_sumB unS (fun y => by rw [unS_B]; omega) x.2.2.1.2.2
  refine ⟨by show x.1.2.2.length ≤ _; omega, fun t ht => ?_, by show (x.2.1.2.2.map toSh).length ≤ _; rw [List.length_map]; omega, fun y hy => ?_, by show (x.2.2.1.2.2.map toUn).length ≤ _; rw [List.length_map]; omega, fun y hy => ?_, wf_i64 v4⟩
  · have h1 : t ∈ x.1.2.2 := ht
    have := mem_sumB strS x.1.2.2 t h1
    rw [strS_B] at this
    show t.length ≤ _
    omega
  · obtain ⟨z, hz, rfl⟩ := List.mem_map.1 hy
    exact sh_ok (by have := mem_sumB shS x.2.1.2.2 z hz; omega)
  · obtain ⟨z, hz, rfl⟩ := List.mem_map.1 hy
    exact un_ok (v3.2.2.2 z hz) (by have := mem_sumB unS x.2.2.1.2.2 z hz; omega)
theorem does_ro {P : Program} {f : FuncId} {args : List Value} {pre pre' : Hp} {R : Value → Hp → Prop} (h : Does P f args pre R) (hold : ∀ w, HS pre' w → ∀ c ∈ pre, c.holds w) (hn : ∀ c ∈ pre, ¬ c.rw) : Does P f args pre' R :=
  h.pre (fun w hw => Go.Sx.hs_ro (hold w hw) hn) (fun k ⟨d, hd, hr, _⟩ => (hn d hd hr).elim)
theorem coHp_ro (c : CoV) : ∀ d ∈ coHp c, ¬ d.rw := by
  intro d hd
  simp only [coHp, List.mem_cons, List.not_mem_nil, or_false] at hd
  rcases hd with rfl | rfl | rfl | rfl | rfl <;> exact fun h => h
theorem g3_ro : ∀ d ∈ [gWords, gPow, gNames], ¬ d.rw := by
  intro d hd
  simp only [List.mem_cons, List.not_mem_nil, or_false] at hd
  rcases hd with rfl | rfl | rfl <;> exact fun h => h
theorem CodeChecks_in (x0 : Co2) (x1 : Int) (hV : coS.V x0) (hB : coS.B x0 ≤ 1048576) :
    Does Tryz.prog 3 [.agg (coS.C x0).toArray, .int .i64 x1] [deep coS x0, deep (intS .i64) x1, gWords, gPow, gNames] (fun v hp' => v = .bool true ∧ hp' = []) := by
  have h := CodeChecks_spec (toCo x0) (coI_ok hV hB) x1
  rw [coS_C]
  refine does_ro h (fun w hw c hc => ?_) (fun c hc => ?_)
  · rcases List.mem_append.1 hc with hc | hc
    · exact co_hold (hw.holds (deep coS x0) (by simp)) c hc
    · exact hw.holds c (by simp only [List.mem_cons, List.not_mem_nil, or_false] at hc ⊢; rcases hc with rfl | rfl | rfl <;> simp)
  · rcases List.mem_append.1 hc with hc | hc
    · exact coHp_ro _ c hc
    · exact g3_ro c hc
theorem CodeWrites_in (x0 : Co2) (hV : coS.V x0) (hB : coS.B x0 ≤ 1048576) :
    Does Tryz.prog 4 [.agg (coS.C x0).toArray] [deep coS x0, gWords, gPow, gNames] (fun v hp' => v = .bool true ∧ hp' = []) := by
  have h := CodeWrites_spec (toCo x0) (coI_ok hV hB)
  rw [coS_C]
  refine does_ro h (fun w hw c hc => ?_) (fun c hc => ?_)
  · rcases List.mem_append.1 hc with hc | hc
    · exact co_hold (hw.holds (deep coS x0) (by simp)) c hc
    · exact hw.holds c (by simp only [List.mem_cons, List.not_mem_nil, or_false] at hc ⊢; rcases hc with rfl | rfl | rfl <;> simp)
  · rcases List.mem_append.1 hc with hc | hc
    · exact coHp_ro _ c hc
    · exact g3_ro c hc
end Go.Proofs.YtgcfomhlgipllaaGreatDoor
