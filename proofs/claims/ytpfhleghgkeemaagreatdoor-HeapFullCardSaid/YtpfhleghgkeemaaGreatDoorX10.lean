import Derived.Test.YtpfhleghgkeemaaGreatDoorX9
import Derived.Lib.ConvBytes
/-! X10: a text to bytes of their own. -/
namespace Go.Sx
open Go
variable {Γ : Cx} {s : St} {Q : Exit → Act → World → Prop}

theorem s2b {ops : Array Oper} {i : Nat} {a b e : TypeId} {dst : Option Nat} (l : List UInt8) (hc : convOf ops Γ.nt i s.fr = some (a, b, .string (mkS l), dst)) (ht : s2bTy Γ.P a b = some e) (hl : l.length ≤ maxLen) :
    Step Γ ops i s (fun s' => ∃ g cap, s' = ⟨putFr s.fr dst (.slice (some ⟨g, 0, none⟩) l.length cap), s.hp ++ [row e 1 (some ⟨g, 0, none⟩) l.length cap (u8s l)]⟩) := by
  unfold convOf at hc
  split at hc
  · rename_i o ho
    split at hc
    · rename_i a' b' x hop
      simp only [Option.some.injEq, Prod.mk.injEq] at hc
      obtain ⟨rfl, rfl, hx, rfl⟩ := hc
      unfold s2bTy at ht
      split at ht
      · rename_i e' hs hd
        split at ht
        · rename_i inf he hi
          split at ht
          · rename_i hsz
            simp only [Option.some.injEq] at ht
            subst ht
            intro Q bb ww hS K hK
            refine step_sem ho (fun v hp' => ∃ g cap, v = .slice (some ⟨g, 0, none⟩) l.length cap ∧ hp' = s.hp ++ [row e' 1 (some ⟨g, 0, none⟩) l.length cap (u8s l)]) (fun w hw => ?_) Q bb ww hS K ?_
            · have hrun := Lib.run_convert_string_bytes (P := Γ.P) w a' b' e' (mkS l) hs hd he
              have hsame : ∀ k, k < w.heap.size → (Lib.bytesWorld w e' (mkS l)).heap[k]? = w.heap[k]? := fun k hk => Lib.bytesWorld_at_old w e' (mkS l) k hk
              have hge := grownCap_ge w l.length 0 e'
              have hle := grownCap_le_maxLen w l.length 0 e' hl
              have hnew := Lib.bytesWorld_at_new w e' (mkS l)
              have hsz2 : (Lib.bytesCells w e' (mkS l)).size = grownCap w l.length 0 e' := by
                simp only [Lib.bytesCells, Array.size_append, Array.size_map, Array.size_replicate]
                show l.toArray.size + (grownCap w (mkS l).size 0 e' - (mkS l).size) = _
                rw [size_mkS]; simp; omega
              have hrow : (row e' 1 (some ⟨w.heap.size, 0, none⟩) l.length (grownCap w l.length 0 e') (u8s l)).holds (Lib.bytesWorld w e' (mkS l)) := by
                refine ⟨by simp [u8s_len], hge, hle, u8s_one l, .inr ⟨w.heap.size, 0, _, _, rfl, hnew, by rw [hsz2]; omega, ?_, fun o ho h => ?_⟩⟩
                · simp only [Lib.bytesCells, List.drop_zero, Array.toList_append, Array.toList_map, Nat.mul_one]
                  have : (mkS l).data.toList = l := rfl
                  rw [this]
                  show (u8s l ++ _).take l.length = u8s l
                  rw [List.take_left' (u8s_len l)]
                · simp only at h; omega
              refine ⟨_, _, _, _, ?_, .inl rfl, ⟨_, _, rfl, rfl⟩, hw.append hsame hrow (fun k ⟨_, ad, had, hk⟩ => by cases had; exact Nat.le_of_eq hk), ⟨rfl, rfl, rfl, by rw [Lib.bytesWorld_size]; omega, fun k hk _ => hsame k hk⟩, ?_⟩
              · unfold execOp
                rw [hop]
                simp only [Sem.run_bind, hx, hrun, Result.andThen_ok]
                rfl
              · intro c hc hr k hk
                rcases List.mem_append.1 hc with hc | hc
                · exact .inl ⟨c, hc, hr, hk⟩
                · rw [List.mem_singleton.1 hc] at hk
                  obtain ⟨_, ad, had, hk⟩ := hk
                  cases had; exact .inr (Nat.le_of_eq hk)
            · rintro s' ⟨v, hp', ⟨g, cap, rfl, rfl⟩, rfl⟩
              exact hK _ ⟨g, cap, rfl⟩
          · cases ht
        · cases ht
      · cases ht
    · cases hc
  · cases hc

theorem wpr_s2b {ops : Array Oper} {i : Nat} {l₂ : List Nat} {a b e : TypeId} {dst : Option Nat} (l : List UInt8) (hc : convOf ops Γ.nt i s.fr = some (a, b, .string (mkS l), dst)) (ht : s2bTy Γ.P a b = some e) (hl : l.length ≤ maxLen)
    (h : ∀ g cap, WpR Γ ops l₂ ⟨putFr s.fr dst (.slice (some ⟨g, 0, none⟩) l.length cap), s.hp ++ [row e 1 (some ⟨g, 0, none⟩) l.length cap (u8s l)]⟩ Q) : WpR Γ ops (i :: l₂) s Q :=
  wpr_step (s2b l hc ht hl) fun s' ⟨g, cap, h'⟩ => by subst h'; exact h g cap
theorem wpa_s2b {ops : Array Oper} {hs : Hp} {li : Array Bool} {i n : Nat} (hr : Region.ready .any ops li = [i]) {a b e : TypeId} {dst : Option Nat} (l : List UInt8) (hc : convOf ops Γ.nt i s.fr = some (a, b, .string (mkS l), dst)) (ht : s2bTy Γ.P a b = some e) (hl : l.length ≤ maxLen)
    (hsub : Sub hs s.hp)
    (h : ∀ g cap, WpA Γ ops hs n (li.setIfInBounds i true) ⟨putFr s.fr dst (.slice (some ⟨g, 0, none⟩) l.length cap), s.hp ++ [row e 1 (some ⟨g, 0, none⟩) l.length cap (u8s l)]⟩ Q) : WpA Γ ops hs (n + 1) li s Q :=
  wpa_step hr (s2b l hc ht hl) (fun s' ⟨g, cap, h'⟩ => by subst h'; exact fun c hc => List.mem_append_left _ (hsub c hc)) fun s' ⟨g, cap, h'⟩ => by subst h'; exact h g cap
end Go.Sx

namespace Go.Sx
open Go
/-- Elements of one length, one behind the other. -/
theorem fm_at {α : Type} {f : α → List Value} {n : Nat} (hf : ∀ x, (f x).length = n) {l : List α} {q : Nat} (hq : q < l.length) : ((l.flatMap f).drop (q * n)).take n = f l[q] := by
  induction l generalizing q with
  | nil => simp at hq
  | cons x r ih =>
    cases q with
    | zero =>
      simp only [Nat.zero_mul, List.drop_zero, List.flatMap_cons, List.getElem_cons_zero]
      exact List.take_left' (hf x)
    | succ q =>
      have e : (q + 1) * n = (f x).length + q * n := by rw [hf, Nat.add_mul, Nat.one_mul, Nat.add_comm]
      rw [List.flatMap_cons, e, List.drop_append, List.getElem_cons_succ, Nat.add_sub_cancel_left]
      rw [List.drop_eq_nil_of_le (by omega), List.nil_append]
      exact ih (by simpa using hq)
theorem fm_len {α : Type} {f : α → List Value} {n : Nat} (hf : ∀ x, (f x).length = n) (l : List α) : (l.flatMap f).length = l.length * n := by
  induction l with
  | nil => simp
  | cons x r ih => rw [List.flatMap_cons, List.length_append, hf, ih, List.length_cons, Nat.add_mul, Nat.one_mul, Nat.add_comm]
end Go.Sx
namespace Go.Sx
open Go
theorem ro_addr {hp : Hp} {w : World} (h : HS hp w) (i : Nat) {a : Option Addr} {xs : List Value} (hi : hp[i]? = some (ro a xs)) (hn : 0 < xs.length) : ∃ g off, a = some ⟨g, off, none⟩ := by
  obtain ⟨h1, h2⟩ := h.holds _ (List.mem_of_getElem? hi)
  cases a with
  | none => rw [show xs = [] from h2] at hn; simp at hn
  | some ad =>
    obtain ⟨g, off, sp⟩ := ad
    cases sp with
    | none => exact ⟨g, off, rfl⟩
    | some s =>
      have h3 : cellsAt w _ xs := h2
      have h4 := h3 0 xs[0] (List.getElem?_eq_getElem hn)
      simp only [World.cell?, Addr.add] at h4
      split at h4 <;> simp at h4
end Go.Sx

/-! ### two that may come up: each is gone through -/
namespace Go.Sx
open Go
variable {Γ : Cx} {s : St} {Q : Exit → Act → World → Prop}
def WpI (Γ : Cx) (ops : Array Oper) (hs : Hp) (n : Nat) (li : Array Bool) (s : St) (Q : Exit → Act → World → Prop) (i : Nat) : Prop :=
  ∀ a w, Sat Γ s a w → HL hs w → wpOp Γ.P ops Q i (fun b w' => HL hs w' ∧ wpAnyH Γ.P .any ops Q (HL hs) n (li.setIfInBounds i true) b w') a w
theorem wpa_two {ops : Array Oper} {hs : Hp} {li : Array Bool} {i j n : Nat} (hr : Region.ready .any ops li = [i, j]) (h1 : WpI Γ ops hs n li s Q i) (h2 : WpI Γ ops hs n li s Q j) : WpA Γ ops hs (n + 1) li s Q := fun a w hS hL => by
  refine wpAnyH_all hr (by simp) fun k hk => ?_
  rcases List.mem_cons.1 hk with rfl | hk
  · exact h1 a w hS hL
  · rw [List.mem_singleton.1 hk]; exact h2 a w hS hL
theorem wpi_call {ops : Array Oper} {hs : Hp} {li : Array Bool} {i : Nat} {n : Nat} {f : FuncId} {args : List Value} {dst : Option Nat} (hc : callOf Γ.P ops Γ.nt i s.fr = some (f, args, dst))
    {pre rest : Hp} {R : Value → Hp → Prop} (hf : Does Γ.P f args pre R) (g : Give s.hp pre rest) (hsub : Sub hs rest)
    (h : ∀ v hp', R v hp' → WpA Γ ops hs n (li.setIfInBounds i true) ⟨putFr s.fr dst v, hp' ++ rest⟩ Q) : WpI Γ ops hs n li s Q i := fun a w hS hL => by
  refine callOf_sound hc hf g hS fun v hp' hR a' w' hS' => ?_
  have hL' : HL hs w' := fun c hc => hS'.hs.holds c (List.mem_append.2 (.inr (hsub c hc)))
  exact ⟨hL', h v hp' hR a' w' hS' hL'⟩
theorem wpi_step {ops : Array Oper} {hs : Hp} {li : Array Bool} {i n : Nat} {Φ : St → Prop} (st : Step Γ ops i s Φ) (hsub : ∀ s', Φ s' → Sub hs s'.hp)
    (h : ∀ s', Φ s' → WpA Γ ops hs n (li.setIfInBounds i true) s' Q) : WpI Γ ops hs n li s Q i := fun b w hS hL => by
  refine st Q b w hS _ fun s' hs' b' w' hS' => ?_
  have hL' : HL hs w' := fun c hc => hS'.hs.holds c (hsub s' hs' c hc)
  exact ⟨hL', h s' hs' b' w' hS' hL'⟩
theorem wpi_eq {ops : Array Oper} {hs : Hp} {li : Array Bool} {i n : Nat} {t : St} (st : Step Γ ops i s (fun s' => s' = t)) (hsub : Sub hs t.hp)
    (h : WpA Γ ops hs n (li.setIfInBounds i true) t Q) : WpI Γ ops hs n li s Q i := wpi_step st (fun s' h => by subst h; exact hsub) (fun s' h' => by subst h'; exact h)
theorem wpi_s2b {ops : Array Oper} {hs : Hp} {li : Array Bool} {i n : Nat} {a b e : TypeId} {dst : Option Nat} (l : List UInt8) (hc : convOf ops Γ.nt i s.fr = some (a, b, .string (mkS l), dst)) (ht : s2bTy Γ.P a b = some e) (hl : l.length ≤ maxLen)
    (hsub : Sub hs s.hp)
    (h : ∀ g cap, WpA Γ ops hs n (li.setIfInBounds i true) ⟨putFr s.fr dst (.slice (some ⟨g, 0, none⟩) l.length cap), s.hp ++ [row e 1 (some ⟨g, 0, none⟩) l.length cap (u8s l)]⟩ Q) : WpI Γ ops hs n li s Q i :=
  wpi_step (s2b l hc ht hl) (fun s' ⟨g, cap, h'⟩ => by subst h'; exact fun c hc => List.mem_append_left _ (hsub c hc)) fun s' ⟨g, cap, h'⟩ => by subst h'; exact h g cap
end Go.Sx
namespace Go.Sx
open Go
theorem ld_blk {hp : Hp} {w : World} (h : HS hp w) (i : Nat) {g T : Nat} {l : List Value} (hi : hp[i]? = some (.blk g T l)) (q : Nat) {vs : List Value} (hv : (l.drop q).take vs.length = vs) : cellsAt w ⟨g, q, none⟩ vs := fun j u hu => by
  have hb := h.blk hi
  rw [← hv, List.getElem?_take] at hu
  split at hu
  · rw [List.getElem?_drop] at hu
    have e : Addr.add ⟨g, q, none⟩ j = ⟨g, q + j, none⟩ := by unfold Addr.add; split <;> simp_all
    rw [e, cell_blk hb _ rfl rfl]
    exact hu
  · cases hu
end Go.Sx
namespace Go.Sx
open Go
theorem b2s_part {hp : Hp} {w : World} (h : HS hp w) (i : Nat) {a : Option Addr} {l l' : List UInt8} (hi : hp[i]? = some (ro a (u8s l))) (hl : ∃ n, l' = l.take n) : (a = none → l' = []) ∧ ∀ ad, a = some ad → cellsAt w ad (u8s l') := by
  obtain ⟨n, rfl⟩ := hl
  obtain ⟨h1, h2⟩ := b2s_ro h i hi
  refine ⟨fun e => by rw [h1 e]; simp, fun ad e j u hu => h2 ad e j u ?_⟩
  have e2 : u8s (l.take n) = (u8s l).take n := by simp [u8s, List.map_take]
  rw [e2, List.getElem?_take] at hu
  split at hu
  · exact hu
  · cases hu
end Go.Sx
